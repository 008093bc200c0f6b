import PyProof.Rows.All
import Wide.All
import OpenK.AllK
import Wide.FinOn
import KE.KStateDown
import Lean
import HandS.Base
import HandS.Call
import HandS.List
import HandS.Comp
import HandS.Ends
import HandS.Dict
import HandS.Iter
import HandS.Text
import HandS.Walk
import HandS.Exc
import HandS.TryOnly
import HandS.ExcOwn
import HandS.ExcIs
import HandS.ExcValue
import HandS.More
import HandS.Words
import HandS.WordsList
import HandS.WordsDict
import HandS.WordsExc
import HandS.Defaults
import HandS.Flow
import HandS.Style
import HandS.StrMore
import HandS.Deep
import HandS.Small
import HandS.Head0
import HandS.Head1
import HandS.Head2
import HandS.HeadEnd
import HandS.HeadHook1
import HandS.HeadHook2
import HandS.Evl
import PySem.Challenge.RW_linehand_k32_whole_windows
set_option Elab.async false
set_option linter.all false
set_option maxRecDepth 100000
set_option maxHeartbeats 4000000
/-! ## Base: texts as lists of signs, how defs are kept and called -/
namespace LH
open PySem PySem.Spec PyProof.Rows L2

/-- a text of these signs -/
def S (l : List Nat) : Str := ⟨l.toArray⟩
theorem S_len (l : List Nat) : (S l).length = l.length := by
  unfold S Str.length
  exact List.size_toArray
theorem S_tl (l : List Nat) : (S l).cps.toList = l := by
  unfold S
  rfl
/-- an item within -/
theorem atI_in {α : Type} {l : List α} {i : Int} (h0 : 0 ≤ i) (h1 : i < l.length) : atI l i = l[i.toNat]? := by
  unfold atI ixN
  rw [if_pos h0, if_pos h1]
  rfl
theorem S_of (z : Str) : S z.cps.toList = z := rfl
theorem S_app (a b : List Nat) : S a ++ S b = S (a ++ b) := TL.ext_tl (by rw [TL.tl_append]; rfl)
theorem S_inj {a b : List Nat} : (S a = S b) = (a = b) := by
  refine propext ⟨fun h => ?_, fun h => by rw [h]⟩
  have e : (S a).cps.toList = (S b).cps.toList := by rw [h]
  exact e
theorem ofS_inj {a b : String} : (Str.ofString a = Str.ofString b) = (a = b) := by
  refine propext ⟨fun h => ?_, fun h => by rw [h]⟩
  rw [Str.ofString_eq_toList, Str.ofString_eq_toList] at h
  have h1 : (a.toList.map Char.toNat).toArray = (b.toList.map Char.toNat).toArray := by
    injection h
  have h2 : a.toList.map Char.toNat = b.toList.map Char.toNat := by
    have := congrArg Array.toList h1
    simpa using this
  have h3 : a.toList = b.toList := List.map_inj_right (fun x y e => Char.toNat_inj.mp e) |>.mp h2
  exact String.toList_inj.mp h3
theorem S_one (c : Nat) : (⟨#[c]⟩ : Str) = S [c] := rfl
theorem sline {n : Nat} (h : n ≤ 100000) : n ≤ sizeLine := Nat.le_trans h (by decide)
theorem slt {n : Nat} (h : n < 100000) : n < sizeLine := Nat.lt_of_lt_of_le h (by decide)

theorem lines : ((0 ≤ sizeLine) = True) ∧ ((1 ≤ sizeLine) = True) ∧ ((2 ≤ sizeLine) = True) ∧ ((3 ≤ sizeLine) = True) ∧ ((4 ≤ sizeLine) = True) ∧ ((5 ≤ sizeLine) = True) ∧ ((6 ≤ sizeLine) = True) ∧ ((8 ≤ sizeLine) = True) := by
  refine ⟨?_, ?_, ?_, ?_, ?_, ?_, ?_, ?_⟩ <;> exact eq_true (by decide)
/-- a slice, its ends within the text -/
theorem cut_S (l : List Nat) (i j : Int) (h0 : 0 ≤ i) (h1 : i ≤ l.length) (h2 : 0 ≤ j) (h3 : j ≤ l.length) : cutS (S l) (some i) (some j) = S ((l.drop i.toNat).take (j.toNat - i.toNat)) := by
  have e1 : HT.sIx l.length 0 (some i) = i.toNat := by
    show (if i < 0 then _ else min i.toNat l.length) = _
    rw [if_neg (by omega)]
    omega
  have e2 : HT.sIx l.length l.length (some j) = j.toNat := by
    show (if j < 0 then _ else min j.toNat l.length) = _
    rw [if_neg (by omega)]
    omega
  unfold cutS
  show (⟨((l.drop (HT.sIx l.length 0 (some i))).take (HT.sIx l.length l.length (some j) - HT.sIx l.length 0 (some i))).toArray⟩ : Str) = _
  rw [e1, e2]
  rfl

theorem cut_to (l : List Nat) (j : Int) (h : 0 ≤ j) : cutS (S l) none (some j) = S (l.take j.toNat) := by
  have e2 : HT.sIx l.length l.length (some j) = min j.toNat l.length := by
    show (if j < 0 then _ else min j.toNat l.length) = _
    rw [if_neg (by omega)]
  unfold cutS
  show (⟨((l.drop 0).take (HT.sIx l.length l.length (some j) - 0)).toArray⟩ : Str) = _
  rw [e2, List.drop_zero, Nat.sub_zero, ← List.take_eq_take_min]
  rfl
theorem cut_from (l : List Nat) (i : Int) (h : 0 ≤ i) : cutS (S l) (some i) none = S (l.drop i.toNat) := by
  have e1 : HT.sIx l.length 0 (some i) = min i.toNat l.length := by
    show (if i < 0 then _ else min i.toNat l.length) = _
    rw [if_neg (by omega)]
  unfold cutS
  show (⟨((l.drop (HT.sIx l.length 0 (some i))).take (l.length - HT.sIx l.length 0 (some i))).toArray⟩ : Str) = _
  rw [e1, List.take_of_length_le (by rw [List.length_drop]; exact Nat.le_refl _)]
  by_cases q : i.toNat ≤ l.length
  · rw [Nat.min_eq_left q]
    rfl
  · rw [Nat.min_eq_right (by omega), List.drop_eq_nil_of_le (Nat.le_refl _), List.drop_eq_nil_of_le (by omega)]
    rfl
theorem cutV_to (xs : List V) (j : Int) (h : 0 ≤ j) : cutV xs none (some j) = xs.take j.toNat := by
  have e2 : HT.sIx xs.length xs.length (some j) = min j.toNat xs.length := by
    show (if j < 0 then _ else min j.toNat xs.length) = _
    rw [if_neg (by omega)]
  unfold cutV
  show (xs.drop 0).take (HT.sIx xs.length xs.length (some j) - 0) = _
  rw [e2, List.drop_zero, Nat.sub_zero, ← List.take_eq_take_min]
theorem cutV_from (xs : List V) (i : Int) (h : 0 ≤ i) : cutV xs (some i) none = xs.drop i.toNat := by
  have e1 : HT.sIx xs.length 0 (some i) = min i.toNat xs.length := by
    show (if i < 0 then _ else min i.toNat xs.length) = _
    rw [if_neg (by omega)]
  unfold cutV
  show (xs.drop (HT.sIx xs.length 0 (some i))).take (xs.length - HT.sIx xs.length 0 (some i)) = _
  rw [e1, List.take_of_length_le (by rw [List.length_drop]; exact Nat.le_refl _)]
  by_cases q : i.toNat ≤ xs.length
  · rw [Nat.min_eq_left q]
  · rw [Nat.min_eq_right (by omega), List.drop_eq_nil_of_le (Nat.le_refl _), List.drop_eq_nil_of_le (by omega)]
/-- the last m of them -/
theorem cutV_neg (xs : List V) (i : Int) (h : i < 0) : cutV xs (some i) none = xs.drop ((xs.length : Int) + i).toNat := by
  have e1 : HT.sIx xs.length 0 (some i) = ((xs.length : Int) + i).toNat := by
    show (if i < 0 then (i + (xs.length : Int)).toNat else min i.toNat xs.length) = _
    rw [if_pos h, Int.add_comm]
  unfold cutV
  show (xs.drop (HT.sIx xs.length 0 (some i))).take (xs.length - HT.sIx xs.length 0 (some i)) = _
  rw [e1, List.take_of_length_le (by rw [List.length_drop]; exact Nat.le_refl _)]
/-- all but the last sign -/
theorem cut_last (l : List Nat) : cutS (S l) none (some (-1)) = S l.dropLast := by
  have e2 : HT.sIx l.length l.length (some (-1)) = l.length - 1 := by
    show (if (-1 : Int) < 0 then ((-1 : Int) + (l.length : Int)).toNat else min (-1 : Int).toNat l.length) = _
    rw [if_pos (by omega)]
    omega
  unfold cutS
  show (⟨((l.drop 0).take (HT.sIx l.length l.length (some (-1)) - 0)).toArray⟩ : Str) = _
  rw [e2, List.drop_zero, Nat.sub_zero, List.dropLast_eq_take]
  rfl
section
variable (P : Program) (w : World) (K : PySem.W.Frag) (mg : Str → Option Value) (base : Heap)
/-- the def x keeps its promise, and is called by its name -/
structure Dn (k : Nat) (x : Str) (ps : List Str) (sp : Sp) : Prop where
  ex : ∃ f fd, FnOk P w K mg base (L2.CX P w) k f fd ps sp ∧ Binds K fd ps [] ∧ mg x = some (.ref f) ∧ PySem.W.keepIn K (.ref f) = true
/-- the method m of the class at C -/
structure Mt (k : Nat) (C : Addr) (m : Str) (ps : List Str) (sp : Sp) : Prop where
  ex : ∃ f fd, FnOk P w K mg base (L2.CX P w) k f fd ps sp ∧ Binds K fd ps [] ∧ Meth K C m f
  cl : Cls K C
/-- a new one of the class x at C -/
structure Mn (k : Nat) (x : Str) (C : Addr) (ps : List Str) (sp : Sp) : Prop where
  ex : ∃ f fd, FnOk P w K mg base (L2.CX P w) k f fd ps sp ∧ Binds K fd ps [] ∧ Mk K C f
  gl : mg x = some (.ref C)
end
section
variable {X : Cx} {k : Nat} {C : Addr} {x m : Str} {ps : List Str} {sp : Sp} {E : XK} {p pos apos : Pos} {e o : Expr} {es : List Expr} {ta : TE} {t : TA}
theorem pc (D : Dn X.prog X.w X.K X.mg X.base k x ps sp) (hr : Room k X.A) (hx : Passes (L2.CX X.prog X.w) X E) (ha : PA X (e :: es) t) (hg : Gl X x := by rfl) (hdb : (x == ("__debug__" : Str)) = false := by decide)
    (he : starEach (e :: es) X.env = (false, eval e X.env) :: starEach es X.env := by rfl) (hpl : (backTo pos (starEach es X.env)).any (·.1) = false := by rfl) : PE X (.Call (.Name x p) (e :: es) [] pos) (tCall sp [] E t) := by
  obtain ⟨f, fd, F, b, hm, kp⟩ := D.ex
  exact pe_call F hr hg hm kp b .nil hx ha hdb he hpl
theorem pc0 (D : Dn X.prog X.w X.K X.mg X.base k x ps sp) (hr : Room k X.A) (hx : Passes (L2.CX X.prog X.w) X E) (hg : Gl X x := by rfl) (hdb : (x == ("__debug__" : Str)) = false := by decide) : PE X (.Call (.Name x p) [] [] pos) (tCall sp [] E tNil) := by
  obtain ⟨f, fd, F, b, hm, kp⟩ := D.ex
  exact pe_call0 F hr hg hm kp b .nil hx hdb
theorem pm {pl : Sem Bool} (M : Mt X.prog X.w X.K X.mg X.base k C m ps sp) (hr : Room k X.A) (hx : Passes (L2.CX X.prog X.w) X E) (ho : PE X o ta) (ha : PA X (e :: es) t)
    (hst : starEach (e :: es) X.env = (false, eval e X.env) :: starEach es X.env := by rfl) (hpl : (backTo pos (starEach es X.env)).any (·.1) = false := by rfl)
    (ht : eval (.Call (.Attribute o m apos) (e :: es) [] pos) X.env = (do
      let ov ← eval o X.env
      standAt apos.atName
      let (f, first) ← holding [ov] (getMethod ov m pl)
      callWith pos f first (backTo pos (starEach (e :: es) X.env)) (backToKw pos (keywordEach [] X.env))) := by rfl) : PE X (.Call (.Attribute o m apos) (e :: es) [] pos) (tMeth C m sp [] E ta t) := by
  obtain ⟨f, fd, F, b, hm⟩ := M.ex
  exact pe_meth ho M.cl hm F hr b .nil hx ha hst hpl ht
theorem pm0 {pl : Sem Bool} (M : Mt X.prog X.w X.K X.mg X.base k C m ps sp) (hr : Room k X.A) (hx : Passes (L2.CX X.prog X.w) X E) (ho : PE X o ta)
    (ht : eval (.Call (.Attribute o m apos) [] [] pos) X.env = (do
      let ov ← eval o X.env
      standAt apos.atName
      let (f, first) ← holding [ov] (getMethod ov m pl)
      callWith pos f first (backTo pos (starEach [] X.env)) (backToKw pos (keywordEach [] X.env))) := by rfl) : PE X (.Call (.Attribute o m apos) [] [] pos) (tMeth C m sp [] E ta tNil) := by
  obtain ⟨f, fd, F, b, hm⟩ := M.ex
  exact pe_meth0 ho M.cl hm F hr b .nil hx ht
theorem pn (D : Mn X.prog X.w X.K X.mg X.base k x C ps sp) (hr : Room (k + 1) X.A) (hx : Passes (L2.CX X.prog X.w) X E) (ha : PA X (e :: es) t) (hg : Gl X x := by rfl) (hdb : (x == ("__debug__" : Str)) = false := by decide)
    (he : starEach (e :: es) X.env = (false, eval e X.env) :: starEach es X.env := by rfl) (hpl : (backTo pos (starEach es X.env)).any (·.1) = false := by rfl) : PE X (.Call (.Name x p) (e :: es) [] pos) (tMake C sp [] E t) := by
  obtain ⟨f, fd, F, b, M⟩ := D.ex
  exact pe_make M F hr hg D.gl b .nil hx ha hdb he hpl
end
/-- in a def's own body: what a callee lets out is let out -/
theorem px {P : Program} {w : World} {K : PySem.W.Frag} {mg : Str → Option Value} {base : Heap} {N : List Str} {qual : Str} {scope : Scope} {f : Addr} {cd : Value} {A : Around} {outer : List Env} {s : Shared} {H : Hp} {E : XK} :
    Passes (L2.CX P w) (cxOf (L2.CX P w) P w K mg base N qual scope f cd A outer s H E) E :=
  passes_call (takes_of rfl rfl rfl rfl) fun _ _ _ _ h => h
end LH
namespace LH
open PySem PySem.Spec PyProof.Rows L2
section
variable {P : Program} {w : World} {K : PySem.W.Frag} {mg : Str → Option Value} {base : Heap} {x : Str} {st : Stmt} {N ps : List Str} {k : Nat} {sp : Sp}
/-- how the arguments bind, whatever the def's other fields are -/
def Bnd (x qual : Str) (st : Stmt) (ps : List Str) : Prop :=
  ∀ (kV doc pm : Value) (an : Option Addr) (cdv ct : Value) (us : List Value), us.length = ps.length → bindArgs (PySem.W.fnOf x qual (defArgs st) (defBody st) (defScope st) .none kV doc pm an cdv ct) ⟨us, []⟩ = pure (ps.zip us)
/-- what a def's body is to show -/
abbrev BodyOk (P : Program) (w : World) (K : PySem.W.Frag) (mg : Str → Option Value) (base : Heap) (N : List Str) (qual : Str) (st : Stmt) (f : Addr) (k : Nat) (sp : Sp) : Prop :=
  ∀ (cdv : Value) (A : Around) (outer : List Env) (s : Shared) (H : Hp) (vs : List V) (Q : VK) (E : XK), Room k (A.deeper (envOfC qual (defScope st) s.heap.objs.size f cdv)) → sp vs H Q E →
      ∃ t, PSs (cxOf (L2.CX P w) P w K mg base N qual (defScope st) f cdv A outer s H E) (defBody st) t ∧ t { nx := fun _ H' => Q .non H', rt := Q } (start N vs) H
theorem dn_of (F : ∃ fd, FunD K x x (defArgs st) (defBody st) (defScope st) [] [] (He.fAd K (x, none)) fd) (g : mg x = some (.ref (He.ga K x))) (S : FnScope N ps (defScope st)) (b : Bnd x x st ps) (len : ∀ vs H Q E, sp vs H Q E → vs.length = ps.length)
    (h : BodyOk P w K mg base N x st (He.fAd K (x, none)) k sp) : Dn P w K mg base (k + 1) x ps sp := by
  obtain ⟨fd, F⟩ := F
  exact ⟨_, fd, F.ok S len h, F.bindsN b, g, F.kp⟩
theorem mt_of {c m q : Str} (F : ∃ fd, FunD K m q (defArgs st) (defBody st) (defScope st) [] [] (He.fAd K (c, some m)) fd) (cl : Cls K (He.ga K c)) (me : Meth K (He.ga K c) m (He.ma K (He.ga K c) m)) (S : FnScope N ps (defScope st)) (b : Bnd m q st ps) (len : ∀ vs H Q E, sp vs H Q E → vs.length = ps.length)
    (h : BodyOk P w K mg base N q st (He.fAd K (c, some m)) k sp) : Mt P w K mg base (k + 1) (He.ga K c) m ps sp := by
  obtain ⟨fd, F⟩ := F
  exact ⟨⟨_, fd, F.ok S len h, F.bindsN b, me⟩, cl⟩
theorem mn_of {c q : Str} (F : ∃ fd, FunD K "__init__" q (defArgs st) (defBody st) (defScope st) [] [] (He.fAd K (c, some "__init__")) fd) (M : Mk K (He.ga K c) (He.ma K (He.ga K c) "__init__")) (g : mg c = some (.ref (He.ga K c))) (S : FnScope N ps (defScope st)) (b : Bnd "__init__" q st ps) (len : ∀ vs H Q E, sp vs H Q E → vs.length = ps.length)
    (h : BodyOk P w K mg base N q st (He.fAd K (c, some "__init__")) k sp) : Mn P w K mg base (k + 1) c (He.ga K c) ps sp := by
  obtain ⟨fd, F⟩ := F
  exact ⟨⟨_, fd, F.ok S len h, F.bindsN b, M⟩, g⟩
end
end LH
namespace LH
open PySem PySem.Spec PyProof.Rows L2
section
variable {X : Cx} {x : Str} {pos : Pos}
/-- a module's constant: a number, a text, an object -/
theorem pgi {i : Int} (hm : ∃ t, X.mg x = some (.int i t)) (hg : Gl X x := by rfl) (hd : (x == ("__debug__" : Str)) = false := by decide) : PE X (.Name x pos) (tC (.int i)) := by
  obtain ⟨t, hm⟩ := hm
  exact pe_glob hg hm ⟨t, rfl⟩ hd
theorem pgs {z : Str} (hm : ∃ t, X.mg x = some (.str z t)) (hg : Gl X x := by rfl) (hd : (x == ("__debug__" : Str)) = false := by decide) : PE X (.Name x pos) (tC (.str z)) := by
  obtain ⟨t, hm⟩ := hm
  exact pe_glob hg hm ⟨t, rfl⟩ hd
theorem pgr {a : Addr} (hm : X.mg x = some (.ref a)) (hg : Gl X x := by rfl) (hd : (x == ("__debug__" : Str)) = false := by decide) : PE X (.Name x pos) (tC (.ref a)) := pe_glob hg hm rfl hd
/-- in a comprehension's block nothing is let out -/
theorem px0 : Passes (L2.CX X.prog X.w) X E0 := passL
/-- written texts, one behind the other -/
def lits : List Expr → Option (List Str)
  | [] => some []
  | .Constant (.str x) _ _ :: r => (lits r).map (x :: ·)
  | _ => none
def tLits (xs : List Str) : TA := fun _ H Q => Q (xs.map V.str) H
theorem pa_lits : ∀ {es : List Expr} {xs : List Str}, lits es = some xs → PA X es (tLits xs)
  | [], xs, h => by
    have e : ([] : List Str) = xs := Option.some.inj h
    subst e
    exact ⟨fun pos pins s σ H Q I q => (pa_nil (X := X)).run pos pins s σ H Q I q⟩
  | e :: r, xs, h => by
    match e, h with
    | .Constant (.str x) j p, h =>
      have h1 : (lits r).map (x :: ·) = some xs := h
      cases e : lits r with
      | none =>
        rw [e] at h1
        cases h1
      | some ys =>
        rw [e] at h1
        have e2 : x :: ys = xs := Option.some.inj h1
        subst e2
        have p1 := pa_cons (X := X) (pe_str (x := x) (j := j) (pos := p)) (pa_lits e) rfl
        exact ⟨fun pos pins s σ H Q I q => p1.run pos pins s σ H Q I q⟩
end
end LH
namespace LH
open PySem PySem.Spec PyProof.Rows L2
/-! ### the Hook: He's facts, and more by Bools of one's own -/
def excB (K : PySem.W.Frag) (C : Addr) : Bool :=
  decide (PySem.W.findIn K (.ref C) "__getattribute__" = some (some (.builtin "BaseException.__getattribute__"))) && (decide (PySem.W.findIn K (.ref C) "__getattr__" = some none) &&
  (decide (PySem.W.subIn K (.ref C) (.type "BaseException") = some true) && (PySem.W.hasDictIn K C && (decide (PySem.W.findIn K (.ref C) "__class__" = some (some (.builtin "object.__class__"))) &&
  (decide (PySem.W.specialIn K (.builtin "object.__class__") "__get__" = some (some (.builtin "getset_descriptor.__get__"))) && (decide (PySem.W.takesIn K (.builtin "object.__class__") = some true) && decide (PySem.W.mroIn K C (.type "object") = some true)))))))
theorem excB_ok {K : PySem.W.Frag} {C : Addr} (h : excB K C = true) : ExcC K C := by
  unfold excB at h
  simp only [Bool.and_eq_true, decide_eq_true_eq] at h
  obtain ⟨h1, h2, h3, h4, h5, h6, h7, h8⟩ := h
  exact ⟨h1, h2, h3, h4, h5, h6, h7, h8⟩
def kitB (K : PySem.W.Frag) (C : Addr) (v : Value) (b : Bool) : Bool := decide (PySem.W.kitOne K (.ref C) v = some b)
theorem kitB_ok {K : PySem.W.Frag} {C : Addr} {v : Value} {b : Bool} (h : kitB K C v b = true) : PySem.W.kitOne K (.ref C) v = some b := of_decide_eq_true h
def obsM (fa : List He.Fa) (fn : List He.DefD) (ex : List (PySem.W.Frag → Bool)) (K : PySem.W.Frag) : He.AlD × Bool := (He.obsD fa fn K, ex.all fun f => f K)
def hookM (n : Nat) (fa : List He.Fa) (fn : List He.DefD) (ex : List (PySem.W.Frag → Bool)) : PySem.W.Hook where
  α := He.AlD × Bool
  obs := fun s => obsM fa fn ex (He.frG s.heap.get? (He.asD s.heap.get? n))
  val := fun _ => (He.valD fn, true)
  says := fun _ h => ∃ K : PySem.W.Frag, K.In h ∧ He.SaysD fa fn K ∧ (ex.all fun f => f K) = true
  of := fun _ _ e => ⟨_, He.frG_in, congrArg Prod.fst e, congrArg Prod.snd e⟩
  keeps := fun _ _ _ ⟨K, hK, c⟩ k => ⟨K, PySem.W.Frag.In.keeps hK k, c⟩
theorem ex_at {ex : List (PySem.W.Frag → Bool)} {K : PySem.W.Frag} (h : (ex.all fun f => f K) = true) (i : Nat) {f : PySem.W.Frag → Bool} (e : ex[i]? = some f := by rfl) : f K = true := List.all_eq_true.mp h f (List.mem_of_getElem? e)
end LH
/-! ## Top: the text by places, what the top leaves -/
namespace LH
open PySem PySem.Spec PyProof.Rows L2
abbrev pw : Program := PySem.Challenge.pw_linehand_k32_whole_windows
def top (i : Nat) : Stmt := pw.main.body.getD i (.Pass ⟨0, 0, 0, 0⟩)
abbrev s_is_sign : Stmt := top 8
abbrev s_look_text : Stmt := top 9
abbrev s_look_place : Stmt := top 10
abbrev s_Window_init : Stmt := inClass (top 14) 0
abbrev s_Window_view : Stmt := inClass (top 14) 1
abbrev s_l_cell : Stmt := top 16
abbrev s_l_mix : Stmt := top 17
abbrev s_l_draw : Stmt := top 18
abbrev s_l_pick : Stmt := top 19
abbrev s_l_refusal : Stmt := top 20
abbrev s_l_told : Stmt := top 21
abbrev s_l_first : Stmt := top 22
abbrev s_law : Stmt := top 23
def fn0 : List He.DefD := [
  ⟨("is_sign", none), "is_sign", "is_sign", defArgs s_is_sign, defBody s_is_sign, defScope s_is_sign, [], []⟩,
  ⟨("look_text", none), "look_text", "look_text", defArgs s_look_text, defBody s_look_text, defScope s_look_text, [], []⟩,
  ⟨("look_place", none), "look_place", "look_place", defArgs s_look_place, defBody s_look_place, defScope s_look_place, [], []⟩,
  ⟨("Window", some "__init__"), "__init__", "Window.__init__", defArgs s_Window_init, defBody s_Window_init, defScope s_Window_init, [], []⟩,
  ⟨("Window", some "view"), "view", "Window.view", defArgs s_Window_view, defBody s_Window_view, defScope s_Window_view, [], []⟩,
  ⟨("_law_cell", none), "_law_cell", "_law_cell", defArgs s_l_cell, defBody s_l_cell, defScope s_l_cell, [], []⟩,
  ⟨("_law_mix", none), "_law_mix", "_law_mix", defArgs s_l_mix, defBody s_l_mix, defScope s_l_mix, [], []⟩,
  ⟨("_law_draw", none), "_law_draw", "_law_draw", defArgs s_l_draw, defBody s_l_draw, defScope s_l_draw, [], []⟩,
  ⟨("_law_pick", none), "_law_pick", "_law_pick", defArgs s_l_pick, defBody s_l_pick, defScope s_l_pick, [], []⟩,
  ⟨("_law_refusal", none), "_law_refusal", "_law_refusal", defArgs s_l_refusal, defBody s_l_refusal, defScope s_l_refusal, [], []⟩,
  ⟨("_law_told", none), "_law_told", "_law_told", defArgs s_l_told, defBody s_l_told, defScope s_l_told, [], []⟩,
  ⟨("_law_first", none), "_law_first", "_law_first", defArgs s_l_first, defBody s_l_first, defScope s_l_first, [], []⟩,
  ⟨("law", none), "law", "law", defArgs s_law, defBody s_law, defScope s_law, [], []⟩]
def fn : List He.DefD := fn0
def fa0 : List He.Fa := [
  .glo "HandError",
  .glo "BadKey",
  .glo "BadText",
  .glo "BadSize",
  .glo "BadPlace",
  .int "MOST_TEXT" 400,
  .glo "is_sign",
  .glo "look_text",
  .glo "look_place",
  .int "LEAST" 4,
  .int "MOST" 400,
  .glo "Window",
  .glo "_law_cell",
  .glo "_law_mix",
  .glo "_law_draw",
  .glo "_law_pick",
  .glo "_law_refusal",
  .glo "_law_told",
  .glo "_law_first",
  .glo "law",
  .free "ValueError",
  .free "all",
  .free "int",
  .free "isinstance",
  .free "len",
  .free "max",
  .free "min",
  .free "ord",
  .free "range",
  .cls "Window"]
def fa1 : List He.Fa := [
  .noat "Window" "width",
  .noat "Window" "first",
  .meth "Window" "view",
  .mkr "Window",
  .exc "BadKey",
  .exc "BadText",
  .exc "BadSize",
  .exc "BadPlace",
  .keep "HandError",
  .keep "BadKey",
  .keep "BadText",
  .keep "BadSize",
  .keep "BadPlace",
  .exm "BadKey" "HandError" true,
  .exm "BadText" "HandError" true,
  .exm "BadSize" "HandError" true,
  .exm "BadPlace" "HandError" true]
def fa : List He.Fa := fa0 ++ fa1
def loose0 : List Str := [
  "HandError",
  "BadKey",
  "BadText",
  "BadSize",
  "BadPlace",
  "MOST_TEXT",
  "is_sign",
  "look_text",
  "look_place",
  "LEAST",
  "MOST",
  "Window",
  "_law_cell",
  "_law_mix",
  "_law_draw",
  "_law_pick",
  "_law_refusal",
  "_law_told",
  "_law_first"]
def loose : List Str := loose0
def exs0 : List (PySem.W.Frag → Bool) := [
  fun K => excB K (He.ga K "BadKey"),
  fun K => kitB K (He.ga K "BadKey") (.ref (He.ga K "BadKey")) true,
  fun K => kitB K (He.ga K "BadKey") (.ref (He.ga K "BadText")) false,
  fun K => kitB K (He.ga K "BadKey") (.ref (He.ga K "BadSize")) false,
  fun K => kitB K (He.ga K "BadKey") (.ref (He.ga K "BadPlace")) false,
  fun K => kitB K (He.ga K "BadKey") (.type "ValueError") true,
  fun K => excB K (He.ga K "BadText"),
  fun K => kitB K (He.ga K "BadText") (.ref (He.ga K "BadKey")) false,
  fun K => kitB K (He.ga K "BadText") (.ref (He.ga K "BadText")) true,
  fun K => kitB K (He.ga K "BadText") (.ref (He.ga K "BadSize")) false,
  fun K => kitB K (He.ga K "BadText") (.ref (He.ga K "BadPlace")) false,
  fun K => kitB K (He.ga K "BadText") (.type "ValueError") true,
  fun K => excB K (He.ga K "BadSize"),
  fun K => kitB K (He.ga K "BadSize") (.ref (He.ga K "BadKey")) false,
  fun K => kitB K (He.ga K "BadSize") (.ref (He.ga K "BadText")) false,
  fun K => kitB K (He.ga K "BadSize") (.ref (He.ga K "BadSize")) true,
  fun K => kitB K (He.ga K "BadSize") (.ref (He.ga K "BadPlace")) false,
  fun K => kitB K (He.ga K "BadSize") (.type "ValueError") true,
  fun K => excB K (He.ga K "BadPlace"),
  fun K => kitB K (He.ga K "BadPlace") (.ref (He.ga K "BadKey")) false,
  fun K => kitB K (He.ga K "BadPlace") (.ref (He.ga K "BadText")) false,
  fun K => kitB K (He.ga K "BadPlace") (.ref (He.ga K "BadSize")) false,
  fun K => kitB K (He.ga K "BadPlace") (.ref (He.ga K "BadPlace")) true,
  fun K => kitB K (He.ga K "BadPlace") (.type "ValueError") true]
def exs : List (PySem.W.Frag → Bool) := exs0
/-- what the top has left -/
structure TX (K : PySem.W.Frag) (mg : Str → Option Value) : Prop where
  ex : ∃ h : Heap, K.In h ∧ h.Ns mainGlobals mg
  c : He.SaysD fa fn K
  x : (exs.all fun f => f K) = true
section
variable {K : PySem.W.Frag} {mg : Str → Option Value}
theorem g_HandError (T : TX K mg) : mg "HandError" = some (.ref (He.ga K "HandError")) := by obtain ⟨h, X, G⟩ := T.ex; exact He.glo_ok X G (T.c.fact 0)
theorem g_BadKey (T : TX K mg) : mg "BadKey" = some (.ref (He.ga K "BadKey")) := by obtain ⟨h, X, G⟩ := T.ex; exact He.glo_ok X G (T.c.fact 1)
theorem g_BadText (T : TX K mg) : mg "BadText" = some (.ref (He.ga K "BadText")) := by obtain ⟨h, X, G⟩ := T.ex; exact He.glo_ok X G (T.c.fact 2)
theorem g_BadSize (T : TX K mg) : mg "BadSize" = some (.ref (He.ga K "BadSize")) := by obtain ⟨h, X, G⟩ := T.ex; exact He.glo_ok X G (T.c.fact 3)
theorem g_BadPlace (T : TX K mg) : mg "BadPlace" = some (.ref (He.ga K "BadPlace")) := by obtain ⟨h, X, G⟩ := T.ex; exact He.glo_ok X G (T.c.fact 4)
theorem i_MOST_TEXT (T : TX K mg) : ∃ t, mg "MOST_TEXT" = some (.int 400 t) := by obtain ⟨h, X, G⟩ := T.ex; exact He.int_ok X G (T.c.fact 5)
theorem g_is_sign (T : TX K mg) : mg "is_sign" = some (.ref (He.ga K "is_sign")) := by obtain ⟨h, X, G⟩ := T.ex; exact He.glo_ok X G (T.c.fact 6)
theorem g_look_text (T : TX K mg) : mg "look_text" = some (.ref (He.ga K "look_text")) := by obtain ⟨h, X, G⟩ := T.ex; exact He.glo_ok X G (T.c.fact 7)
theorem g_look_place (T : TX K mg) : mg "look_place" = some (.ref (He.ga K "look_place")) := by obtain ⟨h, X, G⟩ := T.ex; exact He.glo_ok X G (T.c.fact 8)
theorem i_LEAST (T : TX K mg) : ∃ t, mg "LEAST" = some (.int 4 t) := by obtain ⟨h, X, G⟩ := T.ex; exact He.int_ok X G (T.c.fact 9)
theorem i_MOST (T : TX K mg) : ∃ t, mg "MOST" = some (.int 400 t) := by obtain ⟨h, X, G⟩ := T.ex; exact He.int_ok X G (T.c.fact 10)
theorem g_Window (T : TX K mg) : mg "Window" = some (.ref (He.ga K "Window")) := by obtain ⟨h, X, G⟩ := T.ex; exact He.glo_ok X G (T.c.fact 11)
theorem g__law_cell (T : TX K mg) : mg "_law_cell" = some (.ref (He.ga K "_law_cell")) := by obtain ⟨h, X, G⟩ := T.ex; exact He.glo_ok X G (T.c.fact 12)
theorem g__law_mix (T : TX K mg) : mg "_law_mix" = some (.ref (He.ga K "_law_mix")) := by obtain ⟨h, X, G⟩ := T.ex; exact He.glo_ok X G (T.c.fact 13)
theorem g__law_draw (T : TX K mg) : mg "_law_draw" = some (.ref (He.ga K "_law_draw")) := by obtain ⟨h, X, G⟩ := T.ex; exact He.glo_ok X G (T.c.fact 14)
theorem g__law_pick (T : TX K mg) : mg "_law_pick" = some (.ref (He.ga K "_law_pick")) := by obtain ⟨h, X, G⟩ := T.ex; exact He.glo_ok X G (T.c.fact 15)
theorem g__law_refusal (T : TX K mg) : mg "_law_refusal" = some (.ref (He.ga K "_law_refusal")) := by obtain ⟨h, X, G⟩ := T.ex; exact He.glo_ok X G (T.c.fact 16)
theorem g__law_told (T : TX K mg) : mg "_law_told" = some (.ref (He.ga K "_law_told")) := by obtain ⟨h, X, G⟩ := T.ex; exact He.glo_ok X G (T.c.fact 17)
theorem g__law_first (T : TX K mg) : mg "_law_first" = some (.ref (He.ga K "_law_first")) := by obtain ⟨h, X, G⟩ := T.ex; exact He.glo_ok X G (T.c.fact 18)
theorem g_law (T : TX K mg) : mg "law" = some (.ref (He.ga K "law")) := by obtain ⟨h, X, G⟩ := T.ex; exact He.glo_ok X G (T.c.fact 19)
theorem b_ValueError (T : TX K mg) : mg "ValueError" = none := by obtain ⟨h, X, G⟩ := T.ex; exact He.free_ok X G (T.c.fact 20)
theorem b_all (T : TX K mg) : mg "all" = none := by obtain ⟨h, X, G⟩ := T.ex; exact He.free_ok X G (T.c.fact 21)
theorem b_int (T : TX K mg) : mg "int" = none := by obtain ⟨h, X, G⟩ := T.ex; exact He.free_ok X G (T.c.fact 22)
theorem b_isinstance (T : TX K mg) : mg "isinstance" = none := by obtain ⟨h, X, G⟩ := T.ex; exact He.free_ok X G (T.c.fact 23)
theorem b_len (T : TX K mg) : mg "len" = none := by obtain ⟨h, X, G⟩ := T.ex; exact He.free_ok X G (T.c.fact 24)
theorem b_max (T : TX K mg) : mg "max" = none := by obtain ⟨h, X, G⟩ := T.ex; exact He.free_ok X G (T.c.fact 25)
theorem b_min (T : TX K mg) : mg "min" = none := by obtain ⟨h, X, G⟩ := T.ex; exact He.free_ok X G (T.c.fact 26)
theorem b_ord (T : TX K mg) : mg "ord" = none := by obtain ⟨h, X, G⟩ := T.ex; exact He.free_ok X G (T.c.fact 27)
theorem b_range (T : TX K mg) : mg "range" = none := by obtain ⟨h, X, G⟩ := T.ex; exact He.free_ok X G (T.c.fact 28)
theorem cl_Window (T : TX K mg) : Cls K (He.ga K "Window") := He.cls_ok (T.c.fact 29)
theorem na_Window_width (T : TX K mg) : NoAttr K (He.ga K "Window") "width" := He.noat_ok (T.c.fact 30)
theorem na_Window_first (T : TX K mg) : NoAttr K (He.ga K "Window") "first" := He.noat_ok (T.c.fact 31)
theorem me_Window_view (T : TX K mg) : Meth K (He.ga K "Window") "view" (He.ma K (He.ga K "Window") "view") := He.meth_ok (T.c.fact 32)
theorem mk_Window (T : TX K mg) : Mk K (He.ga K "Window") (He.ma K (He.ga K "Window") "__init__") := He.mkr_ok (T.c.fact 33)
theorem xc_BadKey (T : TX K mg) : PySem.W.excIn K (He.ga K "BadKey") He.veBase "ValueError.__new__" = true ∧ PySem.W.keepIn K (.ref (He.ga K "BadKey")) = true ∧ PySem.W.subIn K (.ref (He.ga K "BadKey")) (.type "BaseException") = some true ∧ PySem.W.typeIn K (.ref (He.ga K "BadKey")) = some (.type "type") := He.exc_ok (T.c.fact 34)
theorem xc_BadText (T : TX K mg) : PySem.W.excIn K (He.ga K "BadText") He.veBase "ValueError.__new__" = true ∧ PySem.W.keepIn K (.ref (He.ga K "BadText")) = true ∧ PySem.W.subIn K (.ref (He.ga K "BadText")) (.type "BaseException") = some true ∧ PySem.W.typeIn K (.ref (He.ga K "BadText")) = some (.type "type") := He.exc_ok (T.c.fact 35)
theorem xc_BadSize (T : TX K mg) : PySem.W.excIn K (He.ga K "BadSize") He.veBase "ValueError.__new__" = true ∧ PySem.W.keepIn K (.ref (He.ga K "BadSize")) = true ∧ PySem.W.subIn K (.ref (He.ga K "BadSize")) (.type "BaseException") = some true ∧ PySem.W.typeIn K (.ref (He.ga K "BadSize")) = some (.type "type") := He.exc_ok (T.c.fact 36)
theorem xc_BadPlace (T : TX K mg) : PySem.W.excIn K (He.ga K "BadPlace") He.veBase "ValueError.__new__" = true ∧ PySem.W.keepIn K (.ref (He.ga K "BadPlace")) = true ∧ PySem.W.subIn K (.ref (He.ga K "BadPlace")) (.type "BaseException") = some true ∧ PySem.W.typeIn K (.ref (He.ga K "BadPlace")) = some (.type "type") := He.exc_ok (T.c.fact 37)
theorem xm_BadKey (T : TX K mg) : PySem.W.exmOne K (.ref (He.ga K "BadKey")) (.ref (He.ga K "HandError")) = some true := He.exm_ok (T.c.fact 43)
theorem xm_BadText (T : TX K mg) : PySem.W.exmOne K (.ref (He.ga K "BadText")) (.ref (He.ga K "HandError")) = some true := He.exm_ok (T.c.fact 44)
theorem xm_BadSize (T : TX K mg) : PySem.W.exmOne K (.ref (He.ga K "BadSize")) (.ref (He.ga K "HandError")) = some true := He.exm_ok (T.c.fact 45)
theorem xm_BadPlace (T : TX K mg) : PySem.W.exmOne K (.ref (He.ga K "BadPlace")) (.ref (He.ga K "HandError")) = some true := He.exm_ok (T.c.fact 46)
theorem ex_BadKey (T : TX K mg) : ExcC K (He.ga K "BadKey") := excB_ok (ex_at T.x 0 (f := fun K => excB K (He.ga K "BadKey")))
theorem ki_BadKey_BadKey (T : TX K mg) : PySem.W.kitOne K (.ref (He.ga K "BadKey")) (.ref (He.ga K "BadKey")) = some true := kitB_ok (ex_at T.x 1 (f := fun K => kitB K (He.ga K "BadKey") (.ref (He.ga K "BadKey")) true))
theorem ki_BadKey_BadText (T : TX K mg) : PySem.W.kitOne K (.ref (He.ga K "BadKey")) (.ref (He.ga K "BadText")) = some false := kitB_ok (ex_at T.x 2 (f := fun K => kitB K (He.ga K "BadKey") (.ref (He.ga K "BadText")) false))
theorem ki_BadKey_BadSize (T : TX K mg) : PySem.W.kitOne K (.ref (He.ga K "BadKey")) (.ref (He.ga K "BadSize")) = some false := kitB_ok (ex_at T.x 3 (f := fun K => kitB K (He.ga K "BadKey") (.ref (He.ga K "BadSize")) false))
theorem ki_BadKey_BadPlace (T : TX K mg) : PySem.W.kitOne K (.ref (He.ga K "BadKey")) (.ref (He.ga K "BadPlace")) = some false := kitB_ok (ex_at T.x 4 (f := fun K => kitB K (He.ga K "BadKey") (.ref (He.ga K "BadPlace")) false))
theorem ki_BadKey_ValueError (T : TX K mg) : PySem.W.kitOne K (.ref (He.ga K "BadKey")) (.type "ValueError") = some true := kitB_ok (ex_at T.x 5 (f := fun K => kitB K (He.ga K "BadKey") (.type "ValueError") true))
theorem ex_BadText (T : TX K mg) : ExcC K (He.ga K "BadText") := excB_ok (ex_at T.x 6 (f := fun K => excB K (He.ga K "BadText")))
theorem ki_BadText_BadKey (T : TX K mg) : PySem.W.kitOne K (.ref (He.ga K "BadText")) (.ref (He.ga K "BadKey")) = some false := kitB_ok (ex_at T.x 7 (f := fun K => kitB K (He.ga K "BadText") (.ref (He.ga K "BadKey")) false))
theorem ki_BadText_BadText (T : TX K mg) : PySem.W.kitOne K (.ref (He.ga K "BadText")) (.ref (He.ga K "BadText")) = some true := kitB_ok (ex_at T.x 8 (f := fun K => kitB K (He.ga K "BadText") (.ref (He.ga K "BadText")) true))
theorem ki_BadText_BadSize (T : TX K mg) : PySem.W.kitOne K (.ref (He.ga K "BadText")) (.ref (He.ga K "BadSize")) = some false := kitB_ok (ex_at T.x 9 (f := fun K => kitB K (He.ga K "BadText") (.ref (He.ga K "BadSize")) false))
theorem ki_BadText_BadPlace (T : TX K mg) : PySem.W.kitOne K (.ref (He.ga K "BadText")) (.ref (He.ga K "BadPlace")) = some false := kitB_ok (ex_at T.x 10 (f := fun K => kitB K (He.ga K "BadText") (.ref (He.ga K "BadPlace")) false))
theorem ki_BadText_ValueError (T : TX K mg) : PySem.W.kitOne K (.ref (He.ga K "BadText")) (.type "ValueError") = some true := kitB_ok (ex_at T.x 11 (f := fun K => kitB K (He.ga K "BadText") (.type "ValueError") true))
theorem ex_BadSize (T : TX K mg) : ExcC K (He.ga K "BadSize") := excB_ok (ex_at T.x 12 (f := fun K => excB K (He.ga K "BadSize")))
theorem ki_BadSize_BadKey (T : TX K mg) : PySem.W.kitOne K (.ref (He.ga K "BadSize")) (.ref (He.ga K "BadKey")) = some false := kitB_ok (ex_at T.x 13 (f := fun K => kitB K (He.ga K "BadSize") (.ref (He.ga K "BadKey")) false))
theorem ki_BadSize_BadText (T : TX K mg) : PySem.W.kitOne K (.ref (He.ga K "BadSize")) (.ref (He.ga K "BadText")) = some false := kitB_ok (ex_at T.x 14 (f := fun K => kitB K (He.ga K "BadSize") (.ref (He.ga K "BadText")) false))
theorem ki_BadSize_BadSize (T : TX K mg) : PySem.W.kitOne K (.ref (He.ga K "BadSize")) (.ref (He.ga K "BadSize")) = some true := kitB_ok (ex_at T.x 15 (f := fun K => kitB K (He.ga K "BadSize") (.ref (He.ga K "BadSize")) true))
theorem ki_BadSize_BadPlace (T : TX K mg) : PySem.W.kitOne K (.ref (He.ga K "BadSize")) (.ref (He.ga K "BadPlace")) = some false := kitB_ok (ex_at T.x 16 (f := fun K => kitB K (He.ga K "BadSize") (.ref (He.ga K "BadPlace")) false))
theorem ki_BadSize_ValueError (T : TX K mg) : PySem.W.kitOne K (.ref (He.ga K "BadSize")) (.type "ValueError") = some true := kitB_ok (ex_at T.x 17 (f := fun K => kitB K (He.ga K "BadSize") (.type "ValueError") true))
theorem ex_BadPlace (T : TX K mg) : ExcC K (He.ga K "BadPlace") := excB_ok (ex_at T.x 18 (f := fun K => excB K (He.ga K "BadPlace")))
theorem ki_BadPlace_BadKey (T : TX K mg) : PySem.W.kitOne K (.ref (He.ga K "BadPlace")) (.ref (He.ga K "BadKey")) = some false := kitB_ok (ex_at T.x 19 (f := fun K => kitB K (He.ga K "BadPlace") (.ref (He.ga K "BadKey")) false))
theorem ki_BadPlace_BadText (T : TX K mg) : PySem.W.kitOne K (.ref (He.ga K "BadPlace")) (.ref (He.ga K "BadText")) = some false := kitB_ok (ex_at T.x 20 (f := fun K => kitB K (He.ga K "BadPlace") (.ref (He.ga K "BadText")) false))
theorem ki_BadPlace_BadSize (T : TX K mg) : PySem.W.kitOne K (.ref (He.ga K "BadPlace")) (.ref (He.ga K "BadSize")) = some false := kitB_ok (ex_at T.x 21 (f := fun K => kitB K (He.ga K "BadPlace") (.ref (He.ga K "BadSize")) false))
theorem ki_BadPlace_BadPlace (T : TX K mg) : PySem.W.kitOne K (.ref (He.ga K "BadPlace")) (.ref (He.ga K "BadPlace")) = some true := kitB_ok (ex_at T.x 22 (f := fun K => kitB K (He.ga K "BadPlace") (.ref (He.ga K "BadPlace")) true))
theorem ki_BadPlace_ValueError (T : TX K mg) : PySem.W.kitOne K (.ref (He.ga K "BadPlace")) (.type "ValueError") = some true := kitB_ok (ex_at T.x 23 (f := fun K => kitB K (He.ga K "BadPlace") (.type "ValueError") true))
theorem fn_is_sign (T : TX K mg) : ∃ fd, FunD K "is_sign" "is_sign" (defArgs s_is_sign) (defBody s_is_sign) (defScope s_is_sign) [] [] (He.fAd K ("is_sign", none)) fd := T.c.def_ 0 (d := ⟨("is_sign", none), "is_sign", "is_sign", defArgs s_is_sign, defBody s_is_sign, defScope s_is_sign, [], []⟩)
theorem fn_look_text (T : TX K mg) : ∃ fd, FunD K "look_text" "look_text" (defArgs s_look_text) (defBody s_look_text) (defScope s_look_text) [] [] (He.fAd K ("look_text", none)) fd := T.c.def_ 1 (d := ⟨("look_text", none), "look_text", "look_text", defArgs s_look_text, defBody s_look_text, defScope s_look_text, [], []⟩)
theorem fn_look_place (T : TX K mg) : ∃ fd, FunD K "look_place" "look_place" (defArgs s_look_place) (defBody s_look_place) (defScope s_look_place) [] [] (He.fAd K ("look_place", none)) fd := T.c.def_ 2 (d := ⟨("look_place", none), "look_place", "look_place", defArgs s_look_place, defBody s_look_place, defScope s_look_place, [], []⟩)
theorem fn_Window_init (T : TX K mg) : ∃ fd, FunD K "__init__" "Window.__init__" (defArgs s_Window_init) (defBody s_Window_init) (defScope s_Window_init) [] [] (He.fAd K ("Window", some "__init__")) fd := T.c.def_ 3 (d := ⟨("Window", some "__init__"), "__init__", "Window.__init__", defArgs s_Window_init, defBody s_Window_init, defScope s_Window_init, [], []⟩)
theorem fn_Window_view (T : TX K mg) : ∃ fd, FunD K "view" "Window.view" (defArgs s_Window_view) (defBody s_Window_view) (defScope s_Window_view) [] [] (He.fAd K ("Window", some "view")) fd := T.c.def_ 4 (d := ⟨("Window", some "view"), "view", "Window.view", defArgs s_Window_view, defBody s_Window_view, defScope s_Window_view, [], []⟩)
theorem fn_l_cell (T : TX K mg) : ∃ fd, FunD K "_law_cell" "_law_cell" (defArgs s_l_cell) (defBody s_l_cell) (defScope s_l_cell) [] [] (He.fAd K ("_law_cell", none)) fd := T.c.def_ 5 (d := ⟨("_law_cell", none), "_law_cell", "_law_cell", defArgs s_l_cell, defBody s_l_cell, defScope s_l_cell, [], []⟩)
theorem fn_l_mix (T : TX K mg) : ∃ fd, FunD K "_law_mix" "_law_mix" (defArgs s_l_mix) (defBody s_l_mix) (defScope s_l_mix) [] [] (He.fAd K ("_law_mix", none)) fd := T.c.def_ 6 (d := ⟨("_law_mix", none), "_law_mix", "_law_mix", defArgs s_l_mix, defBody s_l_mix, defScope s_l_mix, [], []⟩)
theorem fn_l_draw (T : TX K mg) : ∃ fd, FunD K "_law_draw" "_law_draw" (defArgs s_l_draw) (defBody s_l_draw) (defScope s_l_draw) [] [] (He.fAd K ("_law_draw", none)) fd := T.c.def_ 7 (d := ⟨("_law_draw", none), "_law_draw", "_law_draw", defArgs s_l_draw, defBody s_l_draw, defScope s_l_draw, [], []⟩)
theorem fn_l_pick (T : TX K mg) : ∃ fd, FunD K "_law_pick" "_law_pick" (defArgs s_l_pick) (defBody s_l_pick) (defScope s_l_pick) [] [] (He.fAd K ("_law_pick", none)) fd := T.c.def_ 8 (d := ⟨("_law_pick", none), "_law_pick", "_law_pick", defArgs s_l_pick, defBody s_l_pick, defScope s_l_pick, [], []⟩)
theorem fn_l_refusal (T : TX K mg) : ∃ fd, FunD K "_law_refusal" "_law_refusal" (defArgs s_l_refusal) (defBody s_l_refusal) (defScope s_l_refusal) [] [] (He.fAd K ("_law_refusal", none)) fd := T.c.def_ 9 (d := ⟨("_law_refusal", none), "_law_refusal", "_law_refusal", defArgs s_l_refusal, defBody s_l_refusal, defScope s_l_refusal, [], []⟩)
theorem fn_l_told (T : TX K mg) : ∃ fd, FunD K "_law_told" "_law_told" (defArgs s_l_told) (defBody s_l_told) (defScope s_l_told) [] [] (He.fAd K ("_law_told", none)) fd := T.c.def_ 10 (d := ⟨("_law_told", none), "_law_told", "_law_told", defArgs s_l_told, defBody s_l_told, defScope s_l_told, [], []⟩)
theorem fn_l_first (T : TX K mg) : ∃ fd, FunD K "_law_first" "_law_first" (defArgs s_l_first) (defBody s_l_first) (defScope s_l_first) [] [] (He.fAd K ("_law_first", none)) fd := T.c.def_ 11 (d := ⟨("_law_first", none), "_law_first", "_law_first", defArgs s_l_first, defBody s_l_first, defScope s_l_first, [], []⟩)
theorem fn_law (T : TX K mg) : ∃ fd, FunD K "law" "law" (defArgs s_law) (defBody s_law) (defScope s_law) [] [] (He.fAd K ("law", none)) fd := T.c.def_ 12 (d := ⟨("law", none), "law", "law", defArgs s_law, defBody s_law, defScope s_law, [], []⟩)
end
abbrev n_is_sign : List Str := ["sign"]
abbrev p_is_sign : List Str := ["sign"]
theorem sc_is_sign : FnScope n_is_sign p_is_sign (defScope s_is_sign) := ⟨rfl, rfl, rfl, by decide +kernel, rfl, by decide +kernel, by decide +kernel⟩
theorem bd_is_sign : Bnd "is_sign" "is_sign" s_is_sign p_is_sign := fun _ _ _ _ _ _ us hl => match us, hl with | [_], _ => rfl
abbrev n_look_text : List Str := ["text", "sign"]
abbrev p_look_text : List Str := ["text"]
theorem sc_look_text : FnScope n_look_text p_look_text (defScope s_look_text) := ⟨rfl, rfl, rfl, by decide +kernel, rfl, by decide +kernel, by decide +kernel⟩
theorem bd_look_text : Bnd "look_text" "look_text" s_look_text p_look_text := fun _ _ _ _ _ _ us hl => match us, hl with | [_], _ => rfl
abbrev n_look_place : List Str := ["text", "at"]
abbrev p_look_place : List Str := ["text", "at"]
theorem sc_look_place : FnScope n_look_place p_look_place (defScope s_look_place) := ⟨rfl, rfl, rfl, by decide +kernel, rfl, by decide +kernel, by decide +kernel⟩
theorem bd_look_place : Bnd "look_place" "look_place" s_look_place p_look_place := fun _ _ _ _ _ _ us hl => match us, hl with | [_, _], _ => rfl
abbrev n_Window_init : List Str := ["self", "width"]
abbrev p_Window_init : List Str := ["self", "width"]
theorem sc_Window_init : FnScope n_Window_init p_Window_init (defScope s_Window_init) := ⟨rfl, rfl, rfl, by decide +kernel, rfl, by decide +kernel, by decide +kernel⟩
theorem bd_Window_init : Bnd "__init__" "Window.__init__" s_Window_init p_Window_init := fun _ _ _ _ _ _ us hl => match us, hl with | [_, _], _ => rfl
abbrev n_Window_view : List Str := ["self", "text", "at", "room", "left", "right", "part"]
abbrev p_Window_view : List Str := ["self", "text", "at"]
theorem sc_Window_view : FnScope n_Window_view p_Window_view (defScope s_Window_view) := ⟨rfl, rfl, rfl, by decide +kernel, rfl, by decide +kernel, by decide +kernel⟩
theorem bd_Window_view : Bnd "view" "Window.view" s_Window_view p_Window_view := fun _ _ _ _ _ _ us hl => match us, hl with | [_, _, _], _ => rfl
abbrev n_l_cell : List Str := ["_law_script", "_law_k"]
abbrev p_l_cell : List Str := ["_law_script", "_law_k"]
theorem sc_l_cell : FnScope n_l_cell p_l_cell (defScope s_l_cell) := ⟨rfl, rfl, rfl, by decide +kernel, rfl, by decide +kernel, by decide +kernel⟩
theorem bd_l_cell : Bnd "_law_cell" "_law_cell" s_l_cell p_l_cell := fun _ _ _ _ _ _ us hl => match us, hl with | [_, _], _ => rfl
abbrev n_l_mix : List Str := ["_law_script", "_law_k", "_law_number"]
abbrev p_l_mix : List Str := ["_law_script", "_law_k"]
theorem sc_l_mix : FnScope n_l_mix p_l_mix (defScope s_l_mix) := ⟨rfl, rfl, rfl, by decide +kernel, rfl, by decide +kernel, by decide +kernel⟩
theorem bd_l_mix : Bnd "_law_mix" "_law_mix" s_l_mix p_l_mix := fun _ _ _ _ _ _ us hl => match us, hl with | [_, _], _ => rfl
abbrev n_l_draw : List Str := ["_law_script", "_law_town", "_law_many"]
abbrev p_l_draw : List Str := ["_law_script", "_law_town", "_law_many"]
theorem sc_l_draw : FnScope n_l_draw p_l_draw (defScope s_l_draw) := ⟨rfl, rfl, rfl, by decide +kernel, rfl, by decide +kernel, by decide +kernel⟩
theorem bd_l_draw : Bnd "_law_draw" "_law_draw" s_l_draw p_l_draw := fun _ _ _ _ _ _ us hl => match us, hl with | [_, _, _], _ => rfl
abbrev n_l_pick : List Str := ["_law_script", "_law_town", "_law_some"]
abbrev p_l_pick : List Str := ["_law_script", "_law_town", "_law_some"]
theorem sc_l_pick : FnScope n_l_pick p_l_pick (defScope s_l_pick) := ⟨rfl, rfl, rfl, by decide +kernel, rfl, by decide +kernel, by decide +kernel⟩
theorem bd_l_pick : Bnd "_law_pick" "_law_pick" s_l_pick p_l_pick := fun _ _ _ _ _ _ us hl => match us, hl with | [_, _, _], _ => rfl
abbrev n_l_refusal : List Str := ["_law_held", "_law_kinds"]
abbrev p_l_refusal : List Str := ["_law_held"]
theorem sc_l_refusal : FnScope n_l_refusal p_l_refusal (defScope s_l_refusal) := ⟨rfl, rfl, rfl, by decide +kernel, rfl, by decide +kernel, by decide +kernel⟩
theorem bd_l_refusal : Bnd "_law_refusal" "_law_refusal" s_l_refusal p_l_refusal := fun _ _ _ _ _ _ us hl => match us, hl with | [_], _ => rfl
abbrev n_l_told : List Str := ["_law_window", "_law_text", "_law_at", "_law_held", "_law_found", "e"]
abbrev p_l_told : List Str := ["_law_window", "_law_text", "_law_at"]
theorem sc_l_told : FnScope n_l_told p_l_told (defScope s_l_told) := ⟨rfl, rfl, rfl, by decide +kernel, rfl, by decide +kernel, by decide +kernel⟩
theorem bd_l_told : Bnd "_law_told" "_law_told" s_l_told p_l_told := fun _ _ _ _ _ _ us hl => match us, hl with | [_, _, _], _ => rfl
abbrev n_l_first : List Str := ["_law_first_here", "_law_size", "_law_at", "_law_room"]
abbrev p_l_first : List Str := ["_law_first_here", "_law_size", "_law_at", "_law_room"]
theorem sc_l_first : FnScope n_l_first p_l_first (defScope s_l_first) := ⟨rfl, rfl, rfl, by decide +kernel, rfl, by decide +kernel, by decide +kernel⟩
theorem bd_l_first : Bnd "_law_first" "_law_first" s_l_first p_l_first := fun _ _ _ _ _ _ us hl => match us, hl with | [_, _, _, _], _ => rfl
abbrev n_law : List Str := ["_law_script", "_law_town", "_law_width", "_law_window", "_law_signs", "_law_text", "_law_k", "_law_at", "_law_first_here", "_law_way", "_law_due", "_law_room", "_law_left", "_law_right", "_law_part", "_law_found", "_law_some", "_law_size"]
abbrev p_law : List Str := ["_law_script"]
theorem sc_law : FnScope n_law p_law (defScope s_law) := ⟨rfl, rfl, rfl, by decide +kernel, rfl, by decide +kernel, by decide +kernel⟩
theorem bd_law : Bnd "law" "law" s_law p_law := fun _ _ _ _ _ _ us hl => match us, hl with | [_], _ => rfl
def fs_Window (a0 a1 : V) : List (Str × V) := [("width", a0), ("first", a1)]
theorem lk_Window : (∀ a0 a1 : V, (fs_Window a0 a1).lookup ("width" : Str) = some a0) ∧ (∀ a0 a1 : V, (fs_Window a0 a1).lookup ("first" : Str) = some a1) ∧ (∀ a0 a1 : V, (fs_Window a0 a1).lookup ("view" : Str) = none) ∧ (∀ a0 a1 x : V, putF "width" x (fs_Window a0 a1) = fs_Window x a1) ∧ (∀ a0 a1 x : V, putF "first" x (fs_Window a0 a1) = fs_Window a0 x) ∧ (∀ a0 a1 : V, ((fs_Window a0 a1).length < 1000) = True) := by
  refine ⟨?_, ?_, ?_, ?_, ?_, ?_⟩ <;> intros <;> first | rfl | exact eq_true (by show _ < _; simp [fs_Window])
theorem mk_fs_Window : (∀ a0 : V, putF "width" a0 [] = [(("width" : Str), a0)]) ∧ (∀ a0 a1 : V, putF "first" a1 [(("width" : Str), a0)] = fs_Window a0 a1) ∧ ((([] : List (Str × V)).length < 1000) = True) ∧ (∀ a0 : V, (([(("width" : Str), a0)] : List (Str × V)).length < 1000) = True) := by
  refine ⟨?_, ?_, ?_, ?_⟩ <;> intros <;> first | rfl | exact eq_true (by show _ < _; simp)
theorem inj_Window {a0 a1 b0 b1 : V} : (fs_Window a0 a1 = fs_Window b0 b1) = (a0 = b0 ∧ a1 = b1) := by
  unfold fs_Window
  simp only [List.cons.injEq, Prod.mk.injEq, true_and, and_true]
theorem fk_Window {K : PySem.W.Frag} {mg : Str → Option Value} (T : TX K mg) : (Cls K (He.ga K "Window") = True) ∧ (NoAttr K (He.ga K "Window") "width" = True) ∧ (NoAttr K (He.ga K "Window") "first" = True) := ⟨eq_true (cl_Window T), eq_true (na_Window_width T), eq_true (na_Window_first T)⟩
end LH
/-! ## Rd: readings by simp; loops, comprehensions -/
namespace LH
open PySem PySem.Spec PyProof.Rows L2
/-- texts as values -/
abbrev tv (t : List Nat) : V := .str (S t)
abbrev tvs (ts : List (List Nat)) : List V := ts.map tv
theorem tvs_add (us : List (List Nat)) (u : List Nat) : tvs (us ++ [u]) = tvs us ++ [tv u] := List.map_append
theorem ex_eq {α : Sort u} {a : α} {p : α → Prop} : (∃ x, a = x ∧ p x) = p a := propext ⟨fun ⟨_, e, h⟩ => e ▸ h, fun h => ⟨a, rfl, h⟩⟩
theorem ex_eq' {α : Sort u} {a : α} {p : α → Prop} : (∃ x, x = a ∧ p x) = p a := propext ⟨fun ⟨_, e, h⟩ => e ▸ h, fun h => ⟨a, rfl, h⟩⟩
theorem ex_eq0 {α : Sort u} {a : α} : (∃ x, a = x) = True := propext ⟨fun _ => trivial, fun _ => ⟨a, rfl⟩⟩
theorem cxK {CX : CXT} {P : Program} {w : World} {K : PySem.W.Frag} {mg : Str → Option Value} {base : Heap} {N : List Str} {qual : Str} {scope : Scope} {f : Addr} {cd : Value} {A : Around} {outer : List Env} {s : Shared} {H : Hp} {E : XK} :
    (cxOf CX P w K mg base N qual scope f cd A outer s H E).K = K := rfl
theorem if_tt {A B : Prop} : (if true = true then A else B) = A := if_pos rfl
theorem if_ff {A B : Prop} : (if false = true then A else B) = B := if_neg Bool.false_ne_true
theorem scII {i j : Int} : scal (.int i) (.int j) = true := rfl
theorem scSS {i j : Str} : scal (.str i) (.str j) = true := rfl
theorem scBB {i j : Bool} : scal (.bl i) (.bl j) = true := rfl
theorem scNN : scal .non .non = true := rfl
theorem scNI {j : Int} : scal .non (.int j) = true := rfl
theorem scNS {j : Str} : scal .non (.str j) = true := rfl
theorem scNB {j : Bool} : scal .non (.bl j) = true := rfl
theorem scIN {j : Int} : scal (.int j) .non = true := rfl
theorem scSN {j : Str} : scal (.str j) .non = true := rfl
theorem scBN {j : Bool} : scal (.bl j) .non = true := rfl
theorem scIS {i : Int} {j : Str} : scal (.int i) (.str j) = true := rfl
theorem scSI {i : Str} {j : Int} : scal (.str i) (.int j) = true := rfl
/-- the list comprehension behind its walk's making -/
def LcB (J : It) (g : TG) (tt : TT) (te : TE) (vs : List Nat) (σ : L2.St) (H1 : Hp) (Q : VK) : Prop := ∀ D, H1 D = none → ∃ W : Nat → Nat → Hp → Prop, (∃ m, W 0 m (upd H1 D (.lst []))) ∧ ∀ i m H, W i m H →
  (J.stop i H ∧ Q (.ref D) H) ∨ (J.go i H ∧ ∃ Nx : Hp → Prop, (∀ H', Nx H' → ∃ m', m' < m ∧ W (i + 1) m' H') ∧ ∀ x H', J.yld i H x H' → g x (wipe σ vs) H' fun σ2 H2 => wipe σ2 vs = wipe σ vs ∧ tt σ2 H2 fun b H3 =>
    if b = true then te σ2 H3 fun y H4 => ∃ acc, H4 D = some (.lst acc) ∧ acc.length < sizeLine ∧ Nx (upd H4 D (.lst (acc ++ [y]))) else Nx H3)
theorem tLc_eq {wi : TI} {g : TG} {tt : TT} {te : TE} {vs : List Nat} {σ : L2.St} {H : Hp} {Q : VK} : tLc wi g tt te vs σ H Q = wi σ H fun J H1 => LcB J g tt te vs σ H1 Q := rfl
/-- the for behind its walk's making -/
def ForB (J : It) (g : TG) (tb : TS) (D : Ends) (σ : L2.St) (H1 : Hp) : Prop := ∃ W : Nat → Nat → L2.St → Hp → Prop, (∃ m, W 0 m σ H1) ∧ ∀ i m σ H, W i m σ H →
  (J.stop i H ∧ D.nx σ H) ∨ (J.go i H ∧ ∃ N : L2.St → Hp → Prop, (∀ σ' H', N σ' H' → ∃ m', m' < m ∧ W (i + 1) m' σ' H') ∧ ∀ x H', J.yld i H x H' → g x σ H' fun σ2 H2 => tb { D with nx := N, ct := N, bk := D.nx } σ2 H2)
theorem tFor_eq {wi : TI} {g : TG} {tb : TS} {D : Ends} {σ : L2.St} {H : Hp} : tFor wi g tb D σ H = wi σ H fun J H1 => ForB J g tb D σ H1 := rfl

theorem same_upd {H H' : Hp} {p : Addr} {o : HO} (s : Same H H') (h : H p = none) : Same H (upd H' p o) := fun b u e => by
  rw [upd_ne (ne_of_none e h)]
  exact s b u e
theorem same_new {H : Hp} {p : Addr} {o : HO} (h : H p = none) : Same H (upd H p o) := same_upd (Same.refl H) h
theorem sq_of {K : PySem.W.Frag} {H : Hp} {a : Addr} {xs : List V} (h : H a = some (.lst xs)) : SqL K H a xs := .inl (.inl h)
theorem st_of {K : PySem.W.Frag} {H : Hp} {a : Addr} {xs : List V} (h : H a = some (.tup xs)) : SqT K H a xs := .inl (.inl h)
theorem rd_same {H H' : Hp} {a : Addr} {u : HO} (s : Same H H') (h : Rd H a u) : Rd H' a u := by
  rcases h with h | ⟨o, h⟩
  · exact .inl (s _ _ h)
  · exact .inr ⟨o, s _ _ h⟩
theorem seqT {K : PySem.W.Frag} {H H' : Hp} {a : Addr} {xs : List V} (s : Same H H') (h : SqT K H a xs) : SqT K H' a xs := by
  rcases h with h | h
  · exact .inl (rd_same s h)
  · exact .inr h

section
variable {g : TG} {tt : TT} {te : TE} {vs : List Nat} {σ : L2.St} {H : Hp} {Q : VK}
/-- a comprehension whose elements make nothing that matters: ys the items, f which are kept, v what is made of them -/
theorem lcb_gen {α : Type} {J : It} {n : Nat} {G : Hp → Prop} (ys : List α) (inj : α → V) (f : α → Bool) (v : α → V) (w : Walk J n G (YAt (ys.map inj))) (hn : n = ys.length) (hG : ∀ H', Same H H' → G H') (hz : ys.length ≤ 100000)
    (hs : ∀ y H', y ∈ ys → Same H H' → ∀ (Y : V → Hp → Prop) (N : Hp → Prop), (f y = true → ∀ H4, Same H' H4 → Y (v y) H4) → (f y = false → ∀ H3, Same H' H3 → N H3) →
      g (inj y) (wipe σ vs) H' fun σ2 H2 => wipe σ2 vs = wipe σ vs ∧ tt σ2 H2 fun b H3 => if b = true then te σ2 H3 Y else N H3)
    (hd : ∀ D H', H D = none → Same H H' → H' D = some (.lst ((ys.filter f).map v)) → Q (.ref D) H') : LcB J g tt te vs σ H Q := by
  intro D hD
  refine lc_it w (fun i H' => Same H H' ∧ H' D = some (.lst (((ys.take i).filter f).map v))) ⟨same_new hD, upd_same⟩ (fun i H' _ p => hG H' p.1) ?_ ?_
  · rintro i x H1 H2 hi ⟨s, e⟩ ⟨rfl, hx⟩
    rw [List.getElem?_map] at hx
    cases hy : ys[i]? with
    | none =>
      rw [hy] at hx
      cases hx
    | some y =>
      rw [hy] at hx
      have ex : inj y = x := Option.some.inj hx
      subst ex
      have et : ys.take (i + 1) = ys.take i ++ [y] := by rw [List.take_add_one, hy]; rfl
      refine hs y _ (List.mem_of_getElem? hy) s _ _ (fun hf H4 s4 => ?_) (fun hf H3 s3 => ?_)
      · refine ⟨_, s4 _ _ e, ?_, same_upd (s.trans s4) hD, ?_⟩
        · refine slt ?_
          have h1 := List.length_filter_le f (ys.take i)
          have h2 := List.length_take_le i ys
          have h3 : i < ys.length := by omega
          rw [List.length_map]
          have h4 : (ys.take i).length = i := by rw [List.length_take]; omega
          omega
        · rw [upd_same, et, List.filter_append, List.map_append, List.filter_cons, if_pos hf]
          rfl
      · refine ⟨s.trans s3, ?_⟩
        rw [s3 _ _ e, et, List.filter_append, List.map_append, List.filter_cons, if_neg (by rw [hf]; decide)]
        simp
  · rintro H' ⟨s, e⟩
    rw [hn, List.take_length] at e
    exact hd D H' hD s e
theorem walk_strS {t : List Nat} : Walk (Its (S t)) t.length (fun _ => True) (YAt (t.map fun c => V.str (S [c]))) := by
  have w := walk_str (z := S t)
  have e : (S t).cps.size = t.length := S_len t
  rw [e] at w
  refine w.mono (fun _ _ => trivial) fun i H x H' _ _ ⟨h1, c, h2, h3⟩ => ⟨h1, ?_⟩
  have h4 : t[i]? = some c := by
    rw [← h2]
    show t[i]? = (t.toArray)[i]?
    rw [List.getElem?_toArray]
  rw [List.getElem?_map, h4, h3]
  rfl
theorem walk_rng {lo : Int} {n : Nat} : Walk (Itr lo n) n (fun _ => True) (YAt ((List.range n).map fun i : Nat => V.int (lo + (i : Int)))) :=
  walk_range.mono (fun _ _ => trivial) fun i H x H' hi _ ⟨h1, h2⟩ => ⟨h1, by rw [List.getElem?_map, List.getElem?_range hi, h2]; rfl⟩
theorem lcb_str (t : List Nat) (f : Nat → Bool) (v : Nat → V) (hz : t.length ≤ 100000)
    (hs : ∀ c H', c ∈ t → Same H H' → ∀ (Y : V → Hp → Prop) (N : Hp → Prop), (f c = true → ∀ H4, Same H' H4 → Y (v c) H4) → (f c = false → ∀ H3, Same H' H3 → N H3) →
      g (.str (S [c])) (wipe σ vs) H' fun σ2 H2 => wipe σ2 vs = wipe σ vs ∧ tt σ2 H2 fun b H3 => if b = true then te σ2 H3 Y else N H3)
    (hd : ∀ D H', H D = none → Same H H' → H' D = some (.lst ((t.filter f).map v)) → Q (.ref D) H') : LcB (Its (S t)) g tt te vs σ H Q :=
  lcb_gen t (fun c => V.str (S [c])) f v walk_strS rfl (fun _ _ => trivial) hz hs hd
theorem lcb_rng (lo : Int) (n : Nat) (f : Int → Bool) (v : Int → V) (hz : n ≤ 100000)
    (hs : ∀ (k : Nat) H', k < n → Same H H' → ∀ (Y : V → Hp → Prop) (N : Hp → Prop), (f (lo + k) = true → ∀ H4, Same H' H4 → Y (v (lo + k)) H4) → (f (lo + k) = false → ∀ H3, Same H' H3 → N H3) →
      g (.int (lo + k)) (wipe σ vs) H' fun σ2 H2 => wipe σ2 vs = wipe σ vs ∧ tt σ2 H2 fun b H3 => if b = true then te σ2 H3 Y else N H3)
    (hd : ∀ D H', H D = none → Same H H' → H' D = some (.lst ((((List.range n).map fun k : Nat => lo + (k : Int)).filter f).map v)) → Q (.ref D) H') : LcB (Itr lo n) g tt te vs σ H Q := by
  refine lcb_gen ((List.range n).map fun k : Nat => lo + (k : Int)) V.int f v (by rw [List.map_map]; exact walk_rng) (by rw [List.length_map, List.length_range]) (fun _ _ => trivial) (by rw [List.length_map, List.length_range]; exact hz) (fun y H' hy => ?_) hd
  obtain ⟨k, hk, rfl⟩ := List.mem_map.mp hy
  exact hs k H' (List.mem_range.mp hk)
theorem lcb_list {α : Type} {K : PySem.W.Frag} {a : Addr} (ys : List α) (inj : α → V) (f : α → Bool) (v : α → V) (hl : SqL K H a (ys.map inj)) (hz : ys.length ≤ 100000)
    (hs : ∀ y H', y ∈ ys → Same H H' → ∀ (Y : V → Hp → Prop) (N : Hp → Prop), (f y = true → ∀ H4, Same H' H4 → Y (v y) H4) → (f y = false → ∀ H3, Same H' H3 → N H3) →
      g (inj y) (wipe σ vs) H' fun σ2 H2 => wipe σ2 vs = wipe σ vs ∧ tt σ2 H2 fun b H3 => if b = true then te σ2 H3 Y else N H3)
    (hd : ∀ D H', H D = none → Same H H' → H' D = some (.lst ((ys.filter f).map v)) → Q (.ref D) H') : LcB (Itl K a) g tt te vs σ H Q :=
  lcb_gen ys inj f v walk_list (by rw [List.length_map]) (fun _ s => s.seq hl) hz hs hd
theorem filter_tt {α : Type} : ∀ l : List α, l.filter (fun _ => true) = l
  | [] => rfl
  | a :: l => by rw [List.filter_cons, if_pos rfl, filter_tt l]
/-- the same where all are kept -/
theorem lcb_strM (t : List Nat) (v : Nat → V) (hz : t.length ≤ 100000)
    (hs : ∀ c H', c ∈ t → Same H H' → ∀ (Y : V → Hp → Prop), (∀ H4, Same H' H4 → Y (v c) H4) → g (.str (S [c])) (wipe σ vs) H' fun σ2 H2 => wipe σ2 vs = wipe σ vs ∧ te σ2 H2 Y)
    (hd : ∀ D H', H D = none → Same H H' → H' D = some (.lst (t.map v)) → Q (.ref D) H') : LcB (Its (S t)) g tYes te vs σ H Q := by
  refine lcb_str t (fun _ => true) v hz (fun c H' hc s Y N h1 _ => ?_) (by rw [filter_tt]; exact hd)
  have h := hs c H' hc s Y (h1 rfl)
  exact h
end
end LH
/-! ### loops, frames -/
namespace LH
open PySem PySem.Spec PyProof.Rows L2
section
variable {g : TG} {tb : TS} {D : Ends} {σ : L2.St} {H : Hp} {K : PySem.W.Frag}
theorem forb_rng {lo : Int} {n : Nat} (Pv : Nat → L2.St → Hp → Prop) (h0 : Pv 0 σ H) (hs : ∀ (i : Nat) σ' H', i < n → Pv i σ' H' → g (.int (lo + i)) σ' H' fun σ2 H2 => tb { D with nx := Pv (i + 1), ct := Pv (i + 1), bk := D.nx } σ2 H2)
    (hd : ∀ σ' H', Pv n σ' H' → D.nx σ' H') : ForB (Itr lo n) g tb D σ H := for_range Pv h0 hs hd
theorem forb_list {a : Addr} {xs : List V} (Pv : Nat → L2.St → Hp → Prop) (h0 : Pv 0 σ H) (hl : ∀ i σ' H', i ≤ xs.length → Pv i σ' H' → SqL K H' a xs)
    (hs : ∀ i x σ' H', xs[i]? = some x → Pv i σ' H' → g x σ' H' fun σ2 H2 => tb { D with nx := Pv (i + 1), ct := Pv (i + 1), bk := D.nx } σ2 H2) (hd : ∀ σ' H', Pv xs.length σ' H' → D.nx σ' H') : ForB (Itl K a) g tb D σ H := for_list Pv h0 hl hs hd
end
/-- what was tracked is as it was, but at F (tuples are at no time another); nothing goes -/
def Fx (F : List Addr) (H H' : Hp) : Prop := ∀ c o, H c = some o → (∃ o', H' c = some o') ∧ ((c ∉ F ∨ ∃ xs, o = .tup xs) → H' c = some o)
/-- no tuple is there -/
def NT (H : Hp) (p : Addr) : Prop := ∀ xs, H p ≠ some (.tup xs)
section
variable {F G : List Addr} {H H1 H2 H' : Hp} {a b c p : Addr} {o : HO} {xs : List V} {K : PySem.W.Frag}
theorem nt_lst {H : Hp} {p : Addr} {ys : List V} (e : H p = some (.lst ys)) : NT H p := fun xs h => by
  rw [e] at h
  cases h
theorem nt_ins {H : Hp} {p C dx : Addr} {fs : List (Str × V)} (e : H p = some (.ins C dx fs)) : NT H p := fun xs h => by
  rw [e] at h
  cases h
theorem nt_dK {H : Hp} {p : Addr} {kvs : List (Key × V)} (e : H p = some (.dK kvs)) : NT H p := fun xs h => by
  rw [e] at h
  cases h
theorem Fx.refl (F : List Addr) (H : Hp) : Fx F H H := fun _ _ e => ⟨⟨_, e⟩, fun _ => e⟩
theorem Fx.trans (x : Fx F H H1) (y : Fx F H1 H2) : Fx F H H2 := fun c o e => by
  obtain ⟨⟨o1, e1⟩, k⟩ := x c o e
  exact ⟨(y c o1 e1).1, fun n => (y c o (k n)).2 n⟩
theorem Fx.of (s : Same H H') : Fx F H H' := fun c o e => ⟨⟨_, s c o e⟩, fun _ => s c o e⟩
theorem Fx.mono (x : Fx F H H') (h : ∀ c ∈ F, c ∈ G) : Fx G H H' := fun c o e => ⟨(x c o e).1, fun n => (x c o e).2 (n.imp (fun q m => q (h c m)) id)⟩
theorem Fx.comp (x : Fx F H H1) (y : Fx G H1 H2) (h : ∀ c ∈ G, c ∈ F ∨ H c = none) : Fx F H H2 := fun c o e => by
  obtain ⟨⟨o1, e1⟩, k⟩ := x c o e
  refine ⟨(y c o1 e1).1, fun n => (y c o (k n)).2 (n.imp (fun n m => ?_) id)⟩
  rcases h c m with q | q
  · exact n q
  · rw [e] at q
    cases q
theorem Fx.upd (h : p ∈ F) (hp : NT H p) : Fx F H (L2.upd H p o) := fun c u e => by
  refine ⟨?_, fun n => ?_⟩
  · by_cases q : c = p
    · exact ⟨o, by rw [q, upd_same]⟩
    · exact ⟨u, by rw [upd_ne q]; exact e⟩
  · have ne : c ≠ p := fun z => by
      rcases n with n | ⟨xs, n⟩
      · exact n (by rw [z]; exact h)
      · rw [z, n] at e
        exact hp xs e
    rw [upd_ne ne]
    exact e
theorem Fx.new (h : H p = none) : Fx F H (L2.upd H p o) := Fx.of (same_new h)
theorem Fx.up (x : Fx F H H1) (h : p ∈ F) (hp : NT H1 p) : Fx F H (L2.upd H1 p o) := x.trans (Fx.upd h hp)
theorem Fx.nw (x : Fx F H H1) (h : H1 p = none) : Fx F H (L2.upd H1 p o) := x.trans (Fx.new h)
theorem Fx.at (x : Fx F H H') (e : H c = some o) (n : c ∉ F) : H' c = some o := (x c o e).2 (.inl n)
theorem Fx.tup (x : Fx F H H') (e : H c = some (.tup xs)) : H' c = some (.tup xs) := (x c _ e).2 (.inr ⟨_, rfl⟩)
theorem Fx.same (x : Fx [] H H') : Same H H' := fun c o e => (x c o e).2 (.inl List.not_mem_nil)
theorem Fx.rd {u : HO} (x : Fx F H H') (h : Rd H a u) (n : a ∉ F) : Rd H' a u := by
  rcases h with h | ⟨o, h⟩
  · exact .inl (x.at h n)
  · exact .inr ⟨o, x.at h n⟩
theorem Fx.sql (x : Fx F H H') (h : SqL K H a xs) (n : a ∉ F) : SqL K H' a xs := h.elim (fun q => .inl (x.rd q n)) .inr
theorem Fx.sqt (x : Fx F H H') (h : SqT K H a xs) (n : a ∉ F) : SqT K H' a xs := h.elim (fun q => .inl (x.rd q n)) .inr
/-- what is free was free -/
theorem Fx.free (x : Fx F H H') (n : H' p = none) : H p = none := by
  cases e : H p with
  | none => rfl
  | some o =>
    obtain ⟨⟨o', q⟩, _⟩ := x p o e
    rw [n] at q
    cases q
theorem tru_lst (h : H a = some (.lst xs)) : TruV K (.ref a) H (decide (xs ≠ [])) := by
  refine .inl ⟨xs, sq_of h, ?_⟩
  cases xs <;> rfl
theorem ne_of2 {p q : Addr} {o u : HO} (e : H p = some o) (f : H q = some u) (n : o ≠ u) : p ≠ q := fun z => n (by
  rw [z, f] at e
  exact (Option.some.inj e).symm)
theorem ne_il {p q C dx : Addr} {fs : List (Str × V)} {ys : List V} (e : H p = some (.ins C dx fs)) (f : H q = some (.lst ys)) : p ≠ q := ne_of2 e f (by intro z; cases z)
theorem ne_new {p q : Addr} {o : HO} (e : H p = some o) (f : H q = none) : p ≠ q := ne_of_none e f
/-- an address that a method leaves in the place of another one -/
abbrev New (H : Hp) (l l' : Addr) : Prop := l' = l ∨ H l' = none
/-- a free one is none of those put -/
theorem un {x : Addr} (h : upd H x o p = none) : x ≠ p ∧ H p = none := by
  by_cases e : p = x
  · rw [e, upd_same] at h
    cases h
  · rw [upd_ne e] at h
    exact ⟨fun q => e q.symm, h⟩
theorem Fx.nil (s : Same H H') : Fx [] H H' := Fx.of s
end
end LH
/-! ## X1: an error caught and kept, isinstance of it; further rules: o.f as a target, text * n, list.count -/
namespace LH
open PySem PySem.Spec PyProof.Rows L2

/-- an error of the class C that was caught, at a -/
def KX (C a : Addr) : HO := .ext fun h => ∃ (oe : Obj) (vs : Array Value), h.get? a = some oe ∧ Zc (.ref C) none oe ∧ oe.data = .fields vs
theorem kx_ok {P : Program} {w : World} {H : Hp} {h : Heap} {a C : Addr} {oe : Obj} {vs : Array Value} (e : h.get? a = some oe) (z : Zc (.ref C) none oe) (d : oe.data = .fields vs) : ObjOk P w H h a (KX C a) :=
  ⟨⟨oe, vs, e, z, d⟩, ⟨oe, e⟩, fun _ _ ⟨o, v, q, r⟩ k => ⟨o, v, k o q, r⟩⟩
section
variable {X : Cx} {pins : List (Addr × Obj)} {σ : L2.St} {H : Hp} {s : Shared}
/-- an object that is pinned, made behind the entry: from now on it is tracked -/
theorem track {a C : Addr} {oe : Obj} {vs : Array Value} (I : Inv X ((a, oe) :: pins) σ H s) (n0 : X.s_0.heap.get? a = none) (z : Zc (.ref C) none oe) (d : oe.data = .fields vs) (np : ∀ p ∈ X.pn ++ pins, p.1 ≠ a) : Inv X pins σ (upd H a (KX C a)) s := by
  obtain ⟨ea, na, nL, nF, _⟩ := I.pin (a, oe) (List.mem_append_right _ List.mem_cons_self)
  have old : ∀ b o, X.s_0.heap.get? b = some o → b ≠ a := fun b o e q => by
    rw [q, n0] at e
    cases e
  have ne : ∀ b o, H b = some o → b ≠ a := fun b o e => ne_of_none e na
  have B := I.base
  refine ⟨I.ok, I.os, I.bare, ⟨B.keep, B.slot, fun b o e n hx => ?_, B.there, fun b xs e => ?_, fun b o u e => ?_, fun b ps e => ?_⟩, I.loc, I.cell, ?_, fun x c e => ?_, fun p hp => ?_, fun b u e => ?_, I.len⟩
  · rw [upd_ne (old b o e)]
    exact B.free b o e n hx
  · have q := B.tups b xs e
    rw [upd_ne (ne b _ q)]
    exact q
  · have q := B.frzs b o u e
    rw [upd_ne (ne b _ q)]
    exact q
  · obtain ⟨m, q⟩ := B.tbls b ps e
    exact ⟨m, by rw [upd_ne (ne b _ q)]; exact q⟩
  · rw [upd_ne (Ne.symm nL)]
    exact I.free
  · have nc : c ≠ a := fun q => by
      obtain ⟨v, o, ho, hd⟩ := I.cell x c e
      rw [q, ea] at ho
      cases ho
      rw [d] at hd
      cases hd
    rw [upd_ne nc]
    exact I.freeC x c e
  · have hp2 : p ∈ X.pn ++ (a, oe) :: pins := by
      rcases List.mem_append.mp hp with q | q
      · exact List.mem_append_left _ q
      · exact List.mem_append_right _ (List.mem_cons_of_mem _ q)
    obtain ⟨e, n, r⟩ := I.pin p hp2
    exact ⟨e, by rw [upd_ne (np p hp)]; exact n, r⟩
  · by_cases hb : b = a
    · rw [hb, upd_same] at e
      cases e
      rw [hb]
      exact kx_ok ea z d
    · rw [upd_ne hb] at e
      exact (I.hok b u e).stay (fun _ _ _ q => q) (fun c q => by rw [upd_ne (ne c _ q)]; exact q) fun c xs q => by rw [upd_ne (ne c _ q)]; exact q
/-- what the clause 'except x as n' wishes, its one statement keeping the error: slot i is n's -/
def wKeep (K : PySem.W.Frag) (c : Value) (i : Nat) (ts : Addr → Value → Option Addr → TS) (D : Ends) : WX := fun cls d σ H =>
  ∃ C, cls = .ref C ∧ d = none ∧ PySem.W.exmOne K cls c = some true ∧ ∀ a, H a = none → ts a cls d { nx := fun σ' H' => D.nx (σ'.set i none) (upd H' a (KX C a)), rt := fun _ _ => False } (σ.set i (some (.ref a))) H
variable {x n : Str} {c : Value} {i : Nat} {body suite : List Stmt} {b₀ : Stmt} {np pos pos' : Pos} {tb : WX → TS} {ts : Addr → Value → Option Addr → TS}
/-- try: body / except x as n: suite, where the suite keeps the error: behind it the error is tracked -/
theorem ps_try_keep (hs : X.stack = X.env :: X.outer) (hf : X.env.frame = some X.env.locals) (hex : X.ex = []) (hN : X.N.Nodup) (hi : X.N[i]? = some n) (hln : X.env.kindOf n = some .local) (hc : Names X x c)
    (hb : ∀ (W : WX) (pn : List (Addr × Obj)) (xe : Value → Shared → Prop), Takes (X.tr pn xe) W → PassesOwn (model X.prog X.w) X.A X.env xe → PSs (X.tr pn xe) body (tb W))
    (hsu : ∀ (a : Addr) (oe : Obj) (cls : Value) (d : Option Addr) (pn : List (Addr × Obj)), Zc cls d oe → (∃ vs, oe.data = .fields vs) → PSs (X.suite a ((a, oe) :: pn)) (b₀ :: suite) (ts a cls d)) :
    PS X (.Try body [.ExceptHandler (some (.Name x np)) (some n) (b₀ :: suite) pos'] [] [] pos) (fun D σ H => tb (wKeep X.K c i ts D) D σ H) := by
  refine ⟨fun pins s σ H D I h => wpAny_Try_except ?_⟩
  have ok := I.ok
  let land : Value → Shared → Prop := fun e z1 => wpAny (model X.prog X.w) X.A (noteFrame e X.env) (fun _ z2 => wpAny (model X.prog X.w) X.A (setFlight e none) (fun _ z3 =>
    wpAny (model X.prog X.w) X.A (handleBy e X.env [.ExceptHandler (some (.Name x np)) (some n) (b₀ :: suite) pos']) (SP X pins D) X.xe z3) X.xe z2) X.xe z1
  have through := (hb (wKeep X.K c i ts D) (X.pn ++ pins) land (fun u z xx => ?_) PassesOwn.looking).run [] s σ H D (I.toTry _) h
  · refine wpAny_mono through (fun f z1 q => ?_) (fun e z1 he => he)
    cases f with
    | next =>
      obtain ⟨σ1, H1, J, q⟩ := q
      exact wpAny_execs_nil ⟨σ1, H1, J.ofTry ok, q⟩
    | brk =>
      obtain ⟨σ1, H1, J, q⟩ := q
      exact ⟨σ1, H1, J.ofTry ok, q⟩
    | cont =>
      obtain ⟨σ1, H1, J, q⟩ := q
      exact ⟨σ1, H1, J.ofTry ok, q⟩
    | ret u =>
      obtain ⟨v, σ1, H1, J, r, q⟩ := q
      exact ⟨v, σ1, H1, J.ofTry ok, r, q⟩
  · -- the error is here
    obtain ⟨a, B, sI, pins2, σ1, H1, cls, d, rfl, J0, nb, up, sky, na, os, ag, C, rfl, rfl, hm, hyes⟩ := xx
    have J : Inv X pins σ1 H1 sI := J0.ofTry ok
    have sky1 : Sky B (X.env :: X.outer) a (Zc (.ref C) none) X.env.locals z.heap := hs ▸ sky
    show land (.ref a) z
    refine Sky.land Zc.steady (by rw [ok.frames, hs]) hf sky1 fun h3 fly up3 => ?_
    have K3 : Inv X pins σ1 H1 { z with heap := h3 } := J.landed nb fly.1 (up.trans up3) os ag
    obtain ⟨o3, v3, g3, z3, d3⟩ := fly.there
    have noFr : a ∉ frs (X.env :: X.outer) := fun hm => by
      obtain ⟨_, o, e, bad⟩ := fly.2.2.1.mem hm
      rw [g3] at e
      cases e
      exact bad _ d3
    have nL : a ≠ X.env.locals := fun q => noFr (List.mem_filterMap.mpr ⟨X.env, List.mem_cons_self, by rw [hf, q]⟩)
    have nF : a ∉ X.fs := fun hm => by
      obtain ⟨e, he, q⟩ := List.mem_filterMap.mp hm
      exact noFr (List.mem_filterMap.mpr ⟨e, List.mem_cons_of_mem _ he, q⟩)
    -- it is younger than the entry, and no pinned object
    have gone : sI.heap.get? a = none := by
      cases e : sI.heap.get? a with
      | none => rfl
      | some o =>
        have q := nb a o e (by rw [show (X.tr (X.pn ++ pins) land).stack = X.env :: X.outer from hs]; exact noFr)
        rw [fly.2.1] at q
        cases q
    have n0 : X.s_0.heap.get? a = none := by
      cases e : X.s_0.heap.get? a with
      | none => rfl
      | some o =>
        obtain ⟨o2, q⟩ := J.base.there a o e (by rw [hex]; exact List.not_mem_nil)
        rw [gone] at q
        cases q
    have nP : ∀ p ∈ X.pn ++ pins, p.1 ≠ a := fun p hp q => by
      have e := (J.pin p hp).1
      rw [q, gone] at e
      cases e
    have S3 := K3.suite g3 d3 na nL nF
    refine wpAny_handleBy_cons (codeAny_handlers_test ?_) (by intro q; cases q)
    have ty : PySem.W.Looks (model X.prog X.w) h3 (typeOf (.ref a)) (.ref C) := fun A Q E s k q => wpAny_typeOf_ref (k _ _ g3) (by rw [z3.1]; exact q)
    have named : ∀ {Q : Value → Shared → Prop} {E : Value → Shared → Prop}, Q c { z with heap := h3 } → wpAny (model X.prog X.w) (X.A.mark (some (.ref a))) (eval (.Name x np) X.env) Q E { z with heap := h3 } := fun {Q E} q => by
      obtain ⟨hg, hdb, hx | ⟨hx, hv, hnn⟩⟩ := hc
      · exact ld_glob (X := X.suite a ((a, o3) :: (X.pn ++ pins))) S3 hg hx q hdb
      · exact ld_blt (X := X.suite a ((a, o3) :: (X.pn ++ pins))) S3 hg hx hv q hnn hdb
    refine named ((PySem.W.exm_one (M := model X.prog X.w) K3.kIn ty hm).here (codeAny_handlers_suite_as (HandSPX.lands_againZ fly fun h4 fl4 up4 => ?_)))
    obtain ⟨o4, v4, g4, z4, d4⟩ := fl4.there
    have K4 : Inv X pins σ1 H1 { z with heap := h4 } := J.landed nb fl4.1 ((up.trans up3).trans up4) os ag
    have S4 := K4.suite g4 d4 na nL nF
    refine store_ok (X := X.suite a ((a, o4) :: (X.pn ++ pins))) (v := .ref a) S4 hN hi (.inl hln) rfl (fun s5 S5 => ?_) (.inr hln)
    refine wpAny_mono ((hsu a o4 (.ref C) none (X.pn ++ pins) z4 ⟨_, d4⟩).run [] s5 _ H1 _ S5 (hyes a na)) (fun f s6 hsp => ?_) (fun _ _ q => False.elim q)
    cases f with
    | next =>
      obtain ⟨σ6, H6, S6, q6⟩ := hsp
      have S7 : Inv X ((a, o4) :: pins) σ6 H6 s6 := (S6.unsuite ok).pins_of fun p hp => by
        rcases List.mem_cons.mp hp with e | hp
        · exact S6.pin p (by rw [e]; exact List.mem_append_left _ List.mem_cons_self)
        · exact S6.pin p (List.mem_append_left _ (List.mem_cons_of_mem _ (List.mem_append_right _ hp)))
      exact gone_ok S7 hN hi hln fun s7 J7 => ⟨_, _, track J7 n0 z4 d4 nP, q6⟩
    | brk =>
      obtain ⟨_, _, _, q⟩ := hsp
      exact False.elim q
    | cont =>
      obtain ⟨_, _, _, q⟩ := hsp
      exact False.elim q
    | ret u =>
      obtain ⟨_, _, _, _, _, q⟩ := hsp
      exact False.elim q
/-- isinstance(e, c), e an error that was kept -/
def rIsX (K : PySem.W.Frag) : List V → Hp → VK → Prop := fun xs H Q => ∃ (a C : Addr) (c : V) (cv : Value) (b : Bool), xs = [.ref a, c] ∧ H a = some (KX C a) ∧ ExcC K C ∧ (∀ u, RelV c u → u = cv) ∧ PySem.W.kitOne K (.ref C) cv = some b ∧ Q (.bl b) H
theorem call_isX : CallR X (.builtin "isinstance") (rIsX X.K) := by
  intro pins s σ H xs us Q I r h
  obtain ⟨a, D, c, cv, b, rfl, ha, C, hcv, e, q⟩ := h
  cases r with
  | cons rx rr =>
    cases rr with
    | cons rt rr =>
      cases rr
      cases rx
      have ec := hcv _ rt
      subst ec
      obtain ⟨⟨⟨oc, od, oda, osl⟩, vs, hget, ⟨h1, h2⟩, hv⟩, _⟩ := I.hok a _ ha
      dsimp only at h1 h2 hv
      subst h1 h2 hv
      exact PySem.W.kia_one (PySem.W.handS_kitx_exc C.hg C.hk C.hs C.hd C.ha C.hn C.ht C.hm) I.kIn ⟨hget, rfl, rfl, trivial⟩ e (fun z => nomatch z) fun tk => ⟨.bl b, H, I.kept (t' := tk) fun _ _ z => z, rfl, q⟩
/-- list.count of flat items -/
def rCntF (K : PySem.W.Frag) : V → List V → Hp → VK → Prop := fun x xs H Q => ∃ (p : Addr) (ys : List V) (y : V), x = .ref p ∧ xs = [y] ∧ SqL K H p ys ∧ flatV y = true ∧ ys.all flatV = true ∧ Q (.int (ys.countP fun z => eqV z y : Nat)) H
theorem count_rel {y : V} : ∀ {ys : List V} {us : List Value}, Vals ys us → ys.all flatV = true → us.countP (eqU y) = ys.countP fun z => eqV z y
  | [], [], _, _ => rfl
  | z :: ys, u :: us, .cons r t, f => by
    rw [List.all_cons, Bool.and_eq_true] at f
    rw [List.countP_cons, List.countP_cons, count_rel t f.2, eqU_of r f.1]
theorem mt_countB : MtR X "list.count" (rCntF X.K) := by
  intro pins s σ H x xs v us Q I rx rxs h
  obtain ⟨p, ys, y, rfl, rfl, hl, fy, fys, q⟩ := h
  cases rx
  obtain ⟨u, rfl, ru⟩ := rxs.one
  obtain ⟨its, rv, ⟨⟨cls, dd, data, sl⟩, n, ho, hc, hdn, hd⟩, hlen⟩ := I.list hl
  simp only at hc hd
  subst hc hd
  refine call_meets PySem.F.slot_list_count ⟨_, ho, rfl⟩ PySem.F.entry_list_count (PySem.F.args_list_count_2 _ _) (SeqAt.list_countAt p its.toArray n dd sl u (eqU y)) ⟨ho, fun u2 hu2 => mem_eqAt ru fy rv fys u2 (by simpa using hu2), ?_⟩
  have e : its.toArray.toList.countP (eqU y) = ys.countP fun z => eqV z y := count_rel rv fys
  refine ⟨.int (ys.countP fun z => eqV z y : Nat), H, I.tok _, ⟨s.toks, ?_⟩, q⟩
  show Value.int ((its.toArray.toList.countP (eqU y) : Nat) : Int) s.toks = _
  rw [e]
/-- o.f as a target among others -/
def gAttr (K : PySem.W.Frag) (to : TE) (f : Str) : TG := fun v σ H Q => to σ H fun x H1 => ∃ a C dx fs, x = .ref a ∧ H1 a = some (.ins C dx fs) ∧ Cls K C ∧ NoAttr K C f ∧ fs.length < 1000 ∧ Q σ (upd H1 a (.ins C dx (putF f v fs)))
theorem pg_attr {o : Expr} {f : Str} {to : TE} {pos : Pos} (ho : PE X o to) : PG X (.Attribute o f pos) (gAttr X.K to f) := by
  refine ⟨fun pins s σ H v u Q I r h => PySem.W.kas_attr (thn (ho.run pins s σ H _ I h) fun ov s1 hq => ?_)⟩
  obtain ⟨y, H1, I1, rx, a, C, dx, fs, rfl, ea, c, n, l, q⟩ := hq
  cases rx
  exact setattr_ok I1 ea c n l r fun s2 I2 => ⟨σ, _, I2, q⟩
/-- text * n -/
def rRepS : R2 := fun x y H Q => ∃ z k, x = .str z ∧ y = .int k ∧ MulOk z k ∧ Q (.str (Txt.mul z k)) H
theorem op_repS : OpR X (binaryOp .Mult) rRepS := by
  intro pins s σ H x y v u Q I rx ry h
  obtain ⟨z, k, rfl, rfl, hk, q⟩ := h
  obtain ⟨t, rfl⟩ := rx
  obtain ⟨t2, rfl⟩ := ry
  exact SB.mul hk fun t' k' => ⟨.str _, H, I.tok _, ⟨_, rfl⟩, q⟩
end
section
variable {X : Cx} {k : Nat} {C : Addr} {x m : Str} {ps : List Str} {sp : Sp} {E : L2.St → XK} {p pos apos : Pos} {e o : Expr} {es : List Expr} {ta : TE} {t : TA}
/-- calls in a try's body: what is let out is wished for at the slots -/
theorem pcS (D : Dn X.prog X.w X.K X.mg X.base k x ps sp) (hr : Room k X.A) (hx : ∀ σ, PassesAt (L2.CX X.prog X.w) X σ (E σ)) (ha : PA X (e :: es) t) (hg : Gl X x := by rfl) (hdb : (x == ("__debug__" : Str)) = false := by decide)
    (he : starEach (e :: es) X.env = (false, eval e X.env) :: starEach es X.env := by rfl) (hpl : (backTo pos (starEach es X.env)).any (·.1) = false := by rfl) : PE X (.Call (.Name x p) (e :: es) [] pos) (tCallS sp E t) := by
  obtain ⟨f, fd, F, b, hm, kp⟩ := D.ex
  exact pe_callS F hr hg hm kp b hx ha hdb he hpl
def tMethW (C : Addr) (m : Str) (sp : Sp) (E : L2.St → XK) (ta : TE) (t : TA) : TE := fun σ H Q => ta σ H fun x H1 => ∃ a dx fs, x = .ref a ∧ H1 a = some (.ins C dx fs) ∧ fs.lookup m = none ∧ t σ H1 fun vs H2 => sp (x :: vs) H2 Q (E σ)
theorem pmS {pl : Sem Bool} (M : Mt X.prog X.w X.K X.mg X.base k C m ps sp) (hr : Room k X.A) (hx : ∀ σ, PassesAt (L2.CX X.prog X.w) X σ (E σ)) (ho : PE X o ta) (ha : PA X (e :: es) t)
    (hst : starEach (e :: es) X.env = (false, eval e X.env) :: starEach es X.env := by rfl) (hpl : (backTo pos (starEach es X.env)).any (·.1) = false := by rfl)
    (ht : eval (.Call (.Attribute o m apos) (e :: es) [] pos) X.env = (do
      let ov ← eval o X.env
      standAt apos.atName
      let (f, first) ← holding [ov] (getMethod ov m pl)
      callWith pos f first (backTo pos (starEach (e :: es) X.env)) (backToKw pos (keywordEach [] X.env))) := by rfl) : PE X (.Call (.Attribute o m apos) (e :: es) [] pos) (tMethW C m sp E ta t) := by
  obtain ⟨f, fd, F, b, hm⟩ := M.ex
  refine ⟨fun pins s σ H Q I h => PySem.W.methodCall_KW (pl := pl) (thn (ho.run pins s σ H _ I h) fun u s1 hq => ?_) ht⟩
  obtain ⟨y, H1, I1, rx, a, dx, fs, rfl, ea, l, q⟩ := hq
  cases rx
  refine getmeth_ok I1 ea M.cl hm l (PySem.W.callWith_K (first := [.ref a]) (h₀ := X.base) I.ok.mod.kin hm.kp (thn (ha.run pos pins s1 σ H1 _ I1 q) fun us s2 hv => ?_) hst hpl)
  obtain ⟨vs, H2, I2, r, q2⟩ := hv
  exact ⟨I2.kIn, run_fnS (us := .ref a :: us) (vs := .ref a :: vs) F hr b (hx σ) I2 (.cons rfl r) q2⟩
/-- a new one, made in a try's body -/
def tMakeS (C : Addr) (sp : Sp) (E : L2.St → XK) (t : TA) : TE := fun σ H Q => t σ H fun vs H1 => ∀ x dx, H1 x = none → H1 dx = none → dx ≠ x →
  sp (.ref x :: vs) (upd (upd H1 dx (.own x)) x (.ins C dx [])) (fun v H2 => v = .non ∧ Q (.ref x) H2) (E σ)
theorem pnS (D : Mn X.prog X.w X.K X.mg X.base k x C ps sp) (hr : Room (k + 1) X.A) (hx : ∀ σ, PassesAt (L2.CX X.prog X.w) X σ (E σ)) (ha : PA X (e :: es) t) (hg : Gl X x := by rfl) (hdb : (x == ("__debug__" : Str)) = false := by decide)
    (he : starEach (e :: es) X.env = (false, eval e X.env) :: starEach es X.env := by rfl) (hpl : (backTo pos (starEach es X.env)).any (·.1) = false := by rfl) : PE X (.Call (.Name x p) (e :: es) [] pos) (tMakeS C sp E t) := by
  obtain ⟨f, fd, F, b, M⟩ := D.ex
  refine ⟨fun pins s0 σ H0 Q0 I0 h0 => ?_⟩
  refine wpAny_Call_Name_kw (ld_glob I0 hg D.gl ?_ hdb)
  refine PySem.W.callWith_K (h₀ := X.base) I0.ok.mod.kin M.kp (thn (ha.run pos pins s0 σ H0 _ I0 h0) fun us s ⟨vs, H, I, r, h⟩ => ⟨I.kIn, ?_⟩) he hpl
  have hq := h (s.heap.objs.size + 1) s.heap.objs.size (I.hok.fresh (Nat.le_succ _)) (I.hok.fresh (Nat.le_refl _)) (Nat.ne_of_lt (Nat.lt_succ_self _))
  have I2 := Inv.made (C := C) I
  have r2 : Vals (V.ref (s.heap.objs.size + 1) :: vs) (Value.ref (s.heap.objs.size + 1) :: us) := .cons rfl r
  have hl : (Value.ref (s.heap.objs.size + 1) :: us).length = ps.length := by
    have e := r2.length
    rw [F.len _ _ _ _ hq] at e
    exact e.symm
  have bt := b _ (Value.ref (s.heap.objs.size + 1) :: us) I2.kIn (by rw [List.append_nil]; exact hl)
  rw [List.append_nil] at bt
  refine wpAny_call (make_map (f := f) I.kIn M.makes M.init (beq_iff_eq.mp M.fn) (codeAny_mono (F.run _ X.stack _ _ ⟨Value.ref (s.heap.objs.size + 1) :: us, []⟩ (Value.ref (s.heap.objs.size + 1) :: us) _ _ (E σ) (hr.make C us [])
    (I2.env0.make C us []) bt r2 hq) fun r s' hq' => ?_))
  cases r with
  | error e => exact hx σ pins _ _ e s' I2 hq'
  | ok fl =>
    cases fl with
    | ret u =>
      obtain ⟨v, H', I3, rv, ev, q3⟩ := I2.after hq'
      subst ev
      exact ⟨rv, ⟨V.ref (s.heap.objs.size + 1), H', I3, rfl, q3⟩⟩
    | next => exact False.elim hq'
    | brk => exact False.elim hq'
    | cont => exact False.elim hq'
theorem pmS0 {pl : Sem Bool} (M : Mt X.prog X.w X.K X.mg X.base k C m ps sp) (hr : Room k X.A) (hx : ∀ σ, PassesAt (L2.CX X.prog X.w) X σ (E σ)) (ho : PE X o ta)
    (ht : eval (.Call (.Attribute o m apos) [] [] pos) X.env = (do
      let ov ← eval o X.env
      standAt apos.atName
      let (f, first) ← holding [ov] (getMethod ov m pl)
      callWith pos f first (backTo pos (starEach [] X.env)) (backToKw pos (keywordEach [] X.env))) := by rfl) : PE X (.Call (.Attribute o m apos) [] [] pos) (tMethW C m sp E ta tNil) := by
  obtain ⟨f, fd, F, b, hm⟩ := M.ex
  refine ⟨fun pins s σ H Q I h => PySem.W.methodCall_KW (pl := pl) (thn (ho.run pins s σ H _ I h) fun u s1 hq => ?_) ht⟩
  obtain ⟨y, H1, I1, rx, a, dx, fs, rfl, ea, l, q⟩ := hq
  cases rx
  exact getmeth_ok I1 ea M.cl hm l (PySem.W.callWith_K0 (first := [.ref a]) I1.kIn hm.kp (run_fnS (us := [.ref a]) (vs := [.ref a]) F hr b (hx σ) I1 (.cons rfl .nil) q))
end
/-- an attribute is handed out -/
def spGet (K : PySem.W.Frag) (C f : Str) : Sp := fun vs H Q _ => ∃ (x dx : Addr) (fs : List (Str × V)) (v : V), vs = [.ref x] ∧ H x = some (.ins (He.ga K C) dx fs) ∧ fs.lookup f = some v ∧ Q v H
end LH
open L2 LH PySem in
local macro_rules | `(tactic| walk_at "rd0") => `(tactic| simp only [L2.start, List.map_cons, List.map_nil, List.length_cons, List.length_nil, Nat.reduceAdd, Nat.reduceSub, List.replicate_succ, List.replicate_zero, List.cons_append, List.nil_append, List.append_nil])
open L2 LH PySem in
local macro_rules | `(tactic| walk_at "rd1") => `(tactic| dsimp only [tVar, tC, tOp, tUn, tAndV, tOrV, tNotV, tIf, tAnd, tOr, tNot, tB, tTest, tChain, tCons, tNil, tTup, tLst, tCB, tCall, tMeth, tMake, tFld, sFld, tSeq, tNext, tAsg, gName, tIfS, tRet, tRetN, tDrop, tM0, tM1, tBM, tBM0, rAppend, rPop, tLits, tCallS, tMethW, tMakeS, WE, wKeep, iStr, iRng1, iRng2, iList, iTup, tSl, tPart, tNoPart,
  rI, rI0, rU, rEq, rNe, rIxL, rIxT, rIxS, rSlS, rSlL])
open L2 LH PySem in
local macro_rules | `(tactic| walk_at "rd2") => `(tactic| simp only [List.getElem?_cons_zero, List.getElem?_cons_succ, List.set_cons_zero, List.set_cons_succ, List.cons_append, List.nil_append, List.append_nil, Option.some.injEq, V.int.injEq, V.str.injEq, V.bl.injEq, V.ref.injEq, List.cons.injEq, HO.ins.injEq, HO.lst.injEq, HO.tup.injEq, S_inj, ofS_inj, String.reduceEq, ex_eq, ex_eq', ex_eq0, tLc_eq, tFor_eq, iStr, iRng1, iRng2, iList, iTup, tVar, tC, tOp, tCons, tNil, tCB, tFld, tCallS, tMethW, tMakeS, WE, wKeep, tLits, tLst, tTup, wipe, rI, rI0, rU, rEq, rNe, scII, scSS, scBB, scNN, scNI, scNS, scNB, scIN, scSN, scBN, scIS, scSI, if_tt, if_ff, and_true, true_and, and_assoc, exists_and_left, exists_and_right, exists_const, cxK, decide_true, decide_false, Bool.not_true, Bool.not_false, eq_self_iff_true, Bool.true_eq_false, Bool.false_eq_true, if_true, if_false, reduceCtorEq, S_len, S_one, S_tl, decide_eq_true_eq, tUn, tAndV, tOrV, tNotV, tIf, tAnd, tOr, tNot, tB, tTest, tChain, tCall, tMeth, tMake, sFld, tSeq, tNext, tAsg, gName, tIfS, tRet, tRetN, tDrop, tM0, tM1, tBM, tBM0, rAppend, rPop, tSl, tPart, tNoPart, rIxL, rIxT, rIxS, rSlS, rSlL, rCat, iRng3, tRevL, tDisp, tPairs, tDGet, sDPut, gTup, gCons, gNil, gSub, gAttr, rSetL, tv])
local macro_rules | `(tactic| walk_at "rd") => `(tactic| ((try walk_at "rd0"); (try walk_at "rd1"); (try walk_at "rd2")))
/-! ## Words: signs, texts, places -/
namespace LH
open PySem PySem.Spec PyProof.Rows L2

def isSign (t : List Nat) : Bool := match t with
  | [c] => decide (32 ≤ c) && decide (c < 127) && decide (c ≠ 37)
  | _ => false
def okText (t : List Nat) : Bool := decide (t.length ≤ 400) && t.all fun c => isSign [c]
def letters : List Nat := ("abcdefghijklmnopqrstuvwxyzABCDEFGHIJKLMNOPQRSTUVWXYZ0123456789" : Str).cps.toList
def isLetC (c : Nat) : Bool := decide (c ∈ letters)
def isLet (t : List Nat) (i : Int) : Bool := decide (0 ≤ i) && (match t[i.toNat]? with
  | some c => isLetC c
  | none => false)
def spIsSign : Sp := fun vs H Q _ => ∃ t : List Nat, vs = [.str (S t)] ∧ t.length ≤ 100000 ∧ Q (.bl (isSign t)) H
/-- refused: an exception of that class -/
abbrev Rf (K : PySem.W.Frag) (c : Str) (E : XK) (H : Hp) : Prop := ∀ H', Same H H' → E (.ref (He.ga K c)) none H'
def spLookText (K : PySem.W.Frag) : Sp := fun vs H Q E => ∃ t : List Nat, vs = [.str (S t)] ∧ t.length ≤ 100000 ∧ if okText t = true then ∀ H', Same H H' → Q .non H' else Rf K "BadText" E H
def spLookPlace (K : PySem.W.Frag) : Sp := fun vs H Q E => ∃ (t : List Nat) (i : Int), vs = [.str (S t), .int i] ∧ t.length ≤ 100000 ∧ if 0 ≤ i ∧ i ≤ t.length then Q .non H else Rf K "BadPlace" E H
def spIsLetter : Sp := fun vs H Q _ => ∃ (t : List Nat) (i : Int), vs = [.str (S t), .int i] ∧ t.length ≤ 100000 ∧ Q (.bl (isLet t i)) H
theorem S_get0 (t : List Nat) : (S t).cps.getD 0 0 = t.getD 0 0 := by
  unfold S
  cases t <;> rfl
theorem isSign_lt {c : Nat} (h : isSign [c] = true) : c < 128 := by
  have e : (decide (32 ≤ c) && decide (c < 127) && decide (c ≠ 37)) = true := h
  simp only [Bool.and_eq_true, decide_eq_true_eq] at e
  omega
theorem okText_lt {t : List Nat} (h : okText t = true) : ∀ c ∈ t, c < 128 := fun c hc => by
  unfold okText at h
  exact isSign_lt (List.all_eq_true.mp (Bool.and_eq_true_iff.mp h).2 c hc)
theorem okText_len {t : List Nat} (h : okText t = true) : t.length ≤ 400 := by
  unfold okText at h
  exact of_decide_eq_true (Bool.and_eq_true_iff.mp h).1
section
variable {P : Program} {w : World} {K : PySem.W.Frag} {mg : Str → Option Value} {base : Heap}
theorem d_is_sign (T : TX K mg) : Dn P w K mg base 1 "is_sign" p_is_sign spIsSign := by
  refine dn_of (fn_is_sign T) (g_is_sign T) sc_is_sign bd_is_sign (fun vs H Q E h => ?_) (fun cdv A outer s H vs Q E hr h => ?_)
  · obtain ⟨t, rfl, _⟩ := h
    rfl
  · obtain ⟨t, rfl, ht, k⟩ := h
    refine ⟨_, (pss_one (ps_ret (pe_and (pe_cmpR op_eq (pe_callB call_len_str (by rfl) (b_len T) boot_len (pa_cons (pv 0) pa_nil)) pe_int (nomark _)) (pe_and (pe_chain op_le op_lt pe_int (pe_callB call_ord (by rfl) (b_ord T) (by decide +kernel) (pa_cons (pv 0) pa_nil)) pe_int) (pe_one (pe_cmpR op_ne (pe_callB call_ord (by rfl) (b_ord T) (by decide +kernel) (pa_cons (pv 0) pa_nil)) pe_int (nomark _))))))), ?_⟩
    walk_at "rd"
    refine ⟨sline ht, ?_⟩
    match t, k with
    | [], k => exact k
    | [c], k =>
      rw [S_get0, if_pos (show (([c].length : Nat) : Int) = 1 from rfl)]
      refine ⟨rfl, ?_⟩
      have e : isSign [c] = (decide (32 ≤ c) && decide (c < 127) && decide (c ≠ 37)) := rfl
      rw [e] at k
      have ec : [c].getD 0 0 = c := rfl
      rw [ec]
      by_cases h1 : 32 ≤ c
      · rw [if_pos (show (32 : Int) ≤ (c : Int) by omega)]
        by_cases h2 : c < 127
        · rw [if_pos (show (c : Int) < 127 by omega)]
          refine ⟨rfl, ?_⟩
          have e2 : (decide (32 ≤ c) && decide (c < 127) && decide (c ≠ 37)) = !decide ((c : Int) = 37) := by
            rw [decide_eq_true h1, decide_eq_true h2]
            by_cases h3 : c = 37
            · subst h3; rfl
            · rw [decide_eq_true h3, decide_eq_false (show ¬ (c : Int) = 37 by omega)]; rfl
          rw [e2] at k
          exact k
        · rw [if_neg (show ¬ (c : Int) < 127 by omega)]
          rw [decide_eq_false h2, Bool.and_false, Bool.false_and] at k
          exact k
      · rw [if_neg (show ¬ (32 : Int) ≤ (c : Int) by omega)]
        rw [decide_eq_false h1, Bool.false_and, Bool.false_and] at k
        exact k
    | a :: b :: r, k =>
      rw [if_neg (show ¬ (((a :: b :: r).length : Nat) : Int) = 1 by rw [List.length_cons, List.length_cons]; omega)]
      exact k
theorem d_look_place (T : TX K mg) : Dn P w K mg base 1 "look_place" p_look_place (spLookPlace K) := by
  refine dn_of (fn_look_place T) (g_look_place T) sc_look_place bd_look_place (fun vs H Q E h => ?_) (fun cdv A outer s H vs Q E hr h => ?_)
  · obtain ⟨t, i, rfl, _⟩ := h
    rfl
  · obtain ⟨t, i, rfl, ht, k⟩ := h
    refine ⟨_, (pss_one (ps_if (pt_not (pt_chain op_le op_le pe_int (pv 1) (pe_callB call_len_str (by rfl) (b_len T) boot_len (pa_cons (pv 0) pa_nil)))) (pss_one (ps_raise rfl (takes_of rfl rfl rfl rfl) (pmk_own PySem.F.excBase_ValueError (xc_BadPlace T).1 (g_BadPlace T) (xc_BadPlace T).2.1 (raises_own (xc_BadPlace T).2.2.1 (xc_BadPlace T).2.2.2) rfl))) pss_nil)), ?_⟩
    walk_at "rd"
    by_cases h0 : 0 ≤ i
    · rw [if_pos h0]
      refine ⟨sline ht, ?_⟩
      by_cases h1 : i ≤ (t.length : Int)
      · rw [if_pos ⟨h0, h1⟩] at k
        rw [decide_eq_true h1]
        exact k
      · rw [if_neg fun z => h1 z.2] at k
        rw [decide_eq_false h1]
        exact k H (Same.refl H)
    · rw [if_neg h0]
      rw [if_neg fun z => h0 z.1] at k
      exact k H (Same.refl H)
theorem d_look_text (T : TX K mg) : Dn P w K mg base 2 "look_text" p_look_text (spLookText K) := by
  refine dn_of (fn_look_text T) (g_look_text T) sc_look_text bd_look_text (fun vs H Q E h => ?_) (fun cdv A outer s H vs Q E hr h => ?_)
  · obtain ⟨t, rfl, _⟩ := h
    rfl
  · obtain ⟨t, rfl, ht, k⟩ := h
    refine ⟨_, (pss_one (ps_if (PW.pt (pw_or (pt_cmpR op_gt (pe_callB call_len_str (by rfl) (b_len T) boot_len (pa_cons (pv 0) pa_nil)) (pgi (i_MOST_TEXT T)) (nomark _)) (pw_or1 (pt_not (pt_val (pe_callB (cr_all rfl) (by rfl) (b_all T) (by decide +kernel) (pa_cons (pe_lc (own := [("sign", 1)]) rfl sc_look_text.nd (pi_str (pv 0)) (blkOk_by (own := [("sign", 1)]) (N := n_look_text) (sc := defScope s_look_text) (by decide +kernel)) (fun _ _ _ _ _ => (pg_name (i := 1) sc_look_text.nd rfl (Or.inl rfl))) (fun _ _ _ _ _ => pts_nil) (fun _ _ _ _ _ => (pc (d_is_sign T) (hr.mono (by decide)) px0 (pa_cons (pv 1) pa_nil)))) pa_nil))))))) (pss_one (ps_raise rfl (takes_of rfl rfl rfl rfl) (pmk_own PySem.F.excBase_ValueError (xc_BadText T).1 (g_BadText T) (xc_BadText T).2.1 (raises_own (xc_BadText T).2.2.1 (xc_BadText T).2.2.2) rfl))) pss_nil)), ?_⟩
    walk_at "rd"
    refine ⟨sline ht, ?_⟩
    unfold okText at k
    by_cases h4 : (400 : Int) < (t.length : Int)
    · rw [if_pos h4]
      rw [decide_eq_false (by omega), Bool.false_and, if_neg Bool.false_ne_true] at k
      exact k H (Same.refl H)
    · rw [if_neg h4]
      rw [decide_eq_true (show t.length ≤ 400 by omega), Bool.true_and] at k
      refine lcb_strM t (fun c => .bl (isSign [c])) (by omega) (fun c H' hc s Y hY => ?_) (fun D H' hD s e => ?_)
      · walk_at "rd"
        exact ⟨[c], rfl, by simp, hY H' (Same.refl H')⟩
      · refine ⟨D, t.map fun c => isSign [c], rfl, sq_of (by rw [e, List.map_map]; rfl), _, rfl, ?_⟩
        have ea : (t.map fun c => isSign [c]).all id = t.all fun c => isSign [c] := by rw [List.all_map]; rfl
        rw [ea]
        cases ho : t.all fun c => isSign [c] with
        | true =>
          rw [ho] at k
          exact k H' s
        | false =>
          rw [ho] at k
          exact k H' s
end
end LH
/-! ## D1: the law's draws; how a refusal is told -/
namespace LH
open PySem PySem.Spec PyProof.Rows L2
/-- the script at a (it is no town), the town at b: its length the draws so far, at most z -/
structure Dr (K : PySem.W.Frag) (H : Hp) (a b : Addr) (ns : List Int) (z : Nat) : Prop where
  scr : (Rd H a (.lst (ns.map V.int)) ∧ a ≠ b) ∨ ∀ H' : Hp, SqL K H' a (ns.map V.int)
  len : ns.length ≤ 63
  tow : ∃ zs, H b = some (.lst zs) ∧ zs.length ≤ z
theorem Dr.sql {K : PySem.W.Frag} {H : Hp} {a b : Addr} {ns : List Int} {z : Nat} (d : Dr K H a b ns z) : SqL K H a (ns.map V.int) := d.scr.elim (fun q => .inl q.1) fun q => q H
theorem Dr.mono {K : PySem.W.Frag} {H : Hp} {a b : Addr} {ns : List Int} {z z' : Nat} (d : Dr K H a b ns z) (h : z ≤ z') : Dr K H a b ns z' :=
  ⟨d.scr, d.len, let ⟨zs, e, l⟩ := d.tow; ⟨zs, e, Nat.le_trans l h⟩⟩
/-- carried over what leaves the town and the script -/
theorem Dr.fx {K : PySem.W.Frag} {F : List Addr} {H H' : Hp} {a b : Addr} {ns : List Int} {z : Nat} (d : Dr K H a b ns z) (x : Fx F H H') (na : (∃ u, Rd H a u) → a ∉ F) (nb : b ∉ F) : Dr K H' a b ns z :=
  ⟨d.scr.elim (fun q => .inl ⟨x.rd q.1 (na ⟨_, q.1⟩), q.2⟩) .inr, d.len, let ⟨zs, e, l⟩ := d.tow; ⟨zs, x.at e nb, l⟩⟩
theorem Dr.same {K : PySem.W.Frag} {H H' : Hp} {a b : Addr} {ns : List Int} {z : Nat} (d : Dr K H a b ns z) (s : Same H H') : Dr K H' a b ns z := d.fx (F := []) (Fx.of s) (fun _ => List.not_mem_nil) List.not_mem_nil
theorem Dr.there {K : PySem.W.Frag} {H : Hp} {a b : Addr} {ns : List Int} {z : Nat} (d : Dr K H a b ns z) : H b ≠ none := by
  obtain ⟨zs, e, _⟩ := d.tow
  rw [e]
  exact fun q => nomatch q
/-- the script is a constant of the module -/
abbrev Cst (K : PySem.W.Frag) (a : Addr) (ns : List Int) : Prop := ∀ H' : Hp, SqL K H' a (ns.map V.int)
/-- the script is none of these -/
def Ap (K : PySem.W.Frag) (a : Addr) (ns : List Int) (F : List Addr) : Prop := Cst K a ns ∨ a ∉ F
theorem Dr.new {K : PySem.W.Frag} {H : Hp} {a b c : Addr} {ns : List Int} {z : Nat} (d : Dr K H a b ns z) (h : H c = none) : Ap K a ns [c] := by
  rcases d.scr with ⟨q, _⟩ | q
  · refine .inr fun m => ?_
    rw [List.mem_singleton] at m
    rw [← m] at h
    rcases q with q | ⟨o, q⟩
    · rw [h] at q
      cases q
    · rw [h] at q
      cases q
  · exact .inl q
theorem Ap.cons {K : PySem.W.Frag} {a c : Addr} {ns : List Int} {F : List Addr} (h : Ap K a ns [c]) (g : Ap K a ns F) : Ap K a ns (c :: F) := by
  rcases h with h | h
  · exact .inl h
  · rcases g with g | g
    · exact .inl g
    · refine .inr fun m => ?_
      rcases List.mem_cons.mp m with m | m
      · exact h (by rw [m]; exact List.mem_cons_self)
      · exact g m
theorem Ap.mono {K : PySem.W.Frag} {a : Addr} {ns : List Int} {F G : List Addr} (h : Ap K a ns G) (s : ∀ c ∈ F, c ∈ G) : Ap K a ns F := h.imp id fun n m => n (s a m)
theorem Dr.fy {K : PySem.W.Frag} {F : List Addr} {H H' : Hp} {a b : Addr} {ns : List Int} {z : Nat} (d : Dr K H a b ns z) (x : Fx F H H') (na : Ap K a ns F) (nb : b ∉ F) : Dr K H' a b ns z := by
  refine ⟨?_, d.len, let ⟨zs, e, l⟩ := d.tow; ⟨zs, x.at e nb, l⟩⟩
  rcases na with na | na
  · exact .inr na
  · exact d.scr.elim (fun q => .inl ⟨x.rd q.1 na, q.2⟩) .inr
theorem Dr.ne {K : PySem.W.Frag} {H : Hp} {a b c : Addr} {ns : List Int} {z : Nat} (d : Dr K H a b ns z) (h : H c = none) : b ≠ c := fun e => by
  obtain ⟨zs, q, _⟩ := d.tow
  rw [e, h] at q
  cases q
/-- a script, a new town -/
theorem Dr.start {K : PySem.W.Frag} {H : Hp} {a p : Addr} {ns : List Int} (hS : SqL K H a (ns.map V.int)) (hl : ns.length ≤ 63) (hp : H p = none) : Dr K (upd H p (.lst [])) a p ns 0 := by
  refine ⟨?_, hl, [], upd_same, Nat.le_refl _⟩
  rcases hS with h | h
  · have ne : a ≠ p := by
      rcases h with h | ⟨o, h⟩
      · exact ne_of_none h hp
      · exact ne_of_none h hp
    exact .inl ⟨(Fx.of (F := []) (same_new hp)).rd h List.not_mem_nil, ne⟩
  · exact .inr fun _ => .inr h
def spCell (K : PySem.W.Frag) : Sp := fun vs H Q _ => ∃ (a : Addr) (ns : List Int) (k : Int), vs = [.ref a, .int k] ∧ SqL K H a (ns.map V.int) ∧ ns.length ≤ 63 ∧ 0 ≤ k ∧ ∀ i : Int, Q (.int i) H
def spMix (K : PySem.W.Frag) : Sp := fun vs H Q _ => ∃ (a : Addr) (ns : List Int) (k : Int), vs = [.ref a, .int k] ∧ SqL K H a (ns.map V.int) ∧ ns.length ≤ 63 ∧ 0 ≤ k ∧ k ≤ 100000 ∧ ∀ i : Int, 0 ≤ i → i < 4294967231 → Q (.int i) H
def spDraw (K : PySem.W.Frag) : Sp := fun vs H Q _ => ∃ (a b : Addr) (m : Int) (ns : List Int) (z : Nat), vs = [.ref a, .ref b, .int m] ∧ Dr K H a b ns z ∧ z < 90000 ∧ 0 < m ∧ m < 1000000 ∧
  ∀ (d : Int) (H' : Hp), 0 ≤ d → d < m → Fx [b] H H' → Dr K H' a b ns (z + 1) → Q (.int d) H'
def spPick (K : PySem.W.Frag) : Sp := fun vs H Q _ => ∃ (a b l : Addr) (xs : List V) (ns : List Int) (z : Nat), vs = [.ref a, .ref b, .ref l] ∧ Dr K H a b ns z ∧ z < 90000 ∧ SqL K H l xs ∧ l ≠ b ∧ xs ≠ [] ∧ xs.length ≤ 1000 ∧
  ∀ (j : Nat) (v : V) (H' : Hp), xs[j]? = some v → Fx [b] H H' → Dr K H' a b ns (z + 1) → Q v H'
section
variable {P : Program} {w : World} {K : PySem.W.Frag} {mg : Str → Option Value} {base : Heap}
theorem d_l_cell (T : TX K mg) : Dn P w K mg base 1 "_law_cell" p_l_cell (spCell K) := by
  refine dn_of (fn_l_cell T) (g__law_cell T) sc_l_cell bd_l_cell (fun vs H Q E h => ?_) (fun cdv A outer s H vs Q E hr h => ?_)
  · obtain ⟨a, ns, k, rfl, _⟩ := h
    rfl
  · obtain ⟨a, ns, k, rfl, hS, hl, hk, q⟩ := h
    refine ⟨_, (pss_cons (ps_if (pt_truth (pv 0) (by intro _; rfl)) (pss_one (ps_ret (pe_ix ix_list (pv 0) (pe_op op_modN (pv 1) (pe_callB call_len_seq (by rfl) (b_len T) boot_len (pa_cons (pv 0) pa_nil))) (fun _ _ => rfl)))) pss_nil) (pss_one (ps_ret pe_int))), ?_⟩
    walk_at "rd"
    cases ns with
    | nil => exact ⟨false, .inl ⟨_, hS, rfl⟩, q 0⟩
    | cons n r =>
      refine ⟨true, .inl ⟨_, hS, rfl⟩, ?_⟩
      rw [if_pos rfl]
      refine ⟨_, .inl hS, by rw [List.length_map, List.length_cons]; omega, _, hS, ?_⟩
      have hp : (0 : Int) < ((((n :: r).map V.int).length : Nat) : Int) := by rw [List.length_map, List.length_cons]; omega
      generalize hm : k.fmod (((n :: r).map V.int).length : Nat) = m
      rw [Int.fmod_eq_emod_of_nonneg _ (by omega)] at hm
      have h1 : 0 ≤ m := by rw [← hm]; exact Int.emod_nonneg _ (by omega)
      have h2 : m < (((n :: r).map V.int).length : Nat) := by rw [← hm]; exact Int.emod_lt_of_pos _ hp
      rw [atI_in h1 h2, List.getElem?_map]
      have h3 : m.toNat < (n :: r).length := by
        rw [List.length_map] at h2
        omega
      rw [List.getElem?_eq_getElem h3]
      exact ⟨_, rfl, q _⟩
theorem d_l_mix (T : TX K mg) : Dn P w K mg base 2 "_law_mix" p_l_mix (spMix K) := by
  refine dn_of (fn_l_mix T) (g__law_mix T) sc_l_mix bd_l_mix (fun vs H Q E h => ?_) (fun cdv A outer s H vs Q E hr h => ?_)
  · obtain ⟨a, ns, k, rfl, _⟩ := h
    rfl
  · obtain ⟨a, ns, k, rfl, hS, hl, hk, hk2, q⟩ := h
    refine ⟨_, (pss_cons (ps_set (i := 2) sc_l_mix.nd rfl (Or.inl rfl) (pe_op op_modN (pe_op op_add (pc (d_l_cell T) (hr.mono (by decide)) px (pa_cons (pv 0) (pa_cons (pv 1) pa_nil))) (pe_op op_mul pe_int (pe_op op_add (pv 1) pe_int))) pe_int)) (pss_cons (ps_set (i := 2) sc_l_mix.nd rfl (Or.inl rfl) (pe_op op_modN (pe_op op_pow (pv 2) pe_int) pe_int)) (pss_one (ps_ret (pe_op op_modN (pe_op op_add (pe_op op_mul (pe_op op_fdivN (pv 2) pe_int) pe_int) (pv 2)) pe_int))))), ?_⟩
    walk_at "rd"
    refine ⟨a, ns, k, rfl, hS, hl, hk, fun i => ?_⟩
    have pos : ∀ (x m : Int), 0 < m → 0 ≤ x.fmod m ∧ x.fmod m < m := fun x m hm => by
      rw [Int.fmod_eq_emod_of_nonneg _ (by omega)]
      exact ⟨Int.emod_nonneg _ (by omega), Int.emod_lt_of_pos _ hm⟩
    refine ⟨.inl (by omega), _, rfl, by omega, ?_⟩
    obtain ⟨a1, a2⟩ := pos (i + 104729 * (k + 1)) 4294967291 (by omega)
    generalize (i + 104729 * (k + 1)).fmod 4294967291 = u at a1 a2 ⊢
    refine ⟨⟨by omega, by omega, by omega⟩, by omega, ?_⟩
    obtain ⟨b1, b2⟩ := pos (u ^ Int.toNat 5) 4294967279 (by omega)
    generalize (u ^ Int.toNat 5).fmod 4294967279 = v at b1 b2 ⊢
    refine ⟨⟨by omega, by decide⟩, ?_⟩
    have e : v.fdiv 64 = v / 64 := Int.fdiv_eq_ediv_of_nonneg _ (by omega)
    rw [e]
    refine ⟨.inl (by omega), by omega, ?_⟩
    obtain ⟨c1, c2⟩ := pos (v / 64 * 69621 + v) 4294967231 (by omega)
    exact q _ c1 c2
theorem d_l_draw (T : TX K mg) : Dn P w K mg base 3 "_law_draw" p_l_draw (spDraw K) := by
  refine dn_of (fn_l_draw T) (g__law_draw T) sc_l_draw bd_l_draw (fun vs H Q E h => ?_) (fun cdv A outer s H vs Q E hr h => ?_)
  · obtain ⟨a, b, m, ns, z, rfl, _⟩ := h
    rfl
  · obtain ⟨a, b, m, ns, z, rfl, D, hz, hm, hm2, q⟩ := h
    refine ⟨_, (pss_cons (ps_expr (pe_bm PySem.F.plainAttrs_list PySem.F.slot_list_append PySem.F.type_list_append mt_append (pv 1) (pa_cons pe_int pa_nil))) (pss_one (ps_ret (pe_op op_modN (pe_op op_fdivN (pc (d_l_mix T) (hr.mono (by decide)) px (pa_cons (pv 0) (pa_cons (pe_callB call_len_seq (by rfl) (b_len T) boot_len (pa_cons (pv 1) pa_nil)) pa_nil))) pe_int) (pv 2))))), ?_⟩
    walk_at "rd"
    obtain ⟨zs, et, lt⟩ := D.tow
    refine ⟨.inl ⟨rfl, _, sq_of et⟩, zs, et, slt (by omega), _, .inl (sq_of upd_same), ?_⟩
    have nl : ((zs ++ [V.int 0]).length : Nat) ≤ z + 1 := by rw [List.length_append]; simp; omega
    have hf : Fx [b] H (upd H b (.lst (zs ++ [.int 0]))) := Fx.upd List.mem_cons_self (nt_lst et)
    have D' : Dr K (upd H b (.lst (zs ++ [.int 0]))) a b ns (z + 1) := ⟨D.scr.elim (fun q => .inl ⟨hf.rd q.1 (by simp [q.2]), q.2⟩) .inr, D.len, _, upd_same, nl⟩
    refine ⟨a, ns, _, rfl, D'.sql, D.len, by omega, by omega, fun i h0 h1 => ⟨_, rfl, ⟨by omega, by decide⟩, by omega, ?_⟩⟩
    rw [Int.fmod_eq_emod_of_nonneg _ (by omega)]
    exact q _ _ (Int.emod_nonneg _ (by omega)) (Int.emod_lt_of_pos _ hm) hf D'
theorem d_l_pick (T : TX K mg) : Dn P w K mg base 4 "_law_pick" p_l_pick (spPick K) := by
  refine dn_of (fn_l_pick T) (g__law_pick T) sc_l_pick bd_l_pick (fun vs H Q E h => ?_) (fun cdv A outer s H vs Q E hr h => ?_)
  · obtain ⟨a, b, l, xs, ns, z, rfl, _⟩ := h
    rfl
  · obtain ⟨a, b, l, xs, ns, z, rfl, D, hz, hL, nl, hx, hx2, q⟩ := h
    refine ⟨_, (pss_one (ps_ret (pe_ix ix_list (pv 2) (pc (d_l_draw T) (hr.mono (by decide)) px (pa_cons (pv 0) (pa_cons (pv 1) (pa_cons (pe_callB call_len_seq (by rfl) (b_len T) boot_len (pa_cons (pv 2) pa_nil)) pa_nil)))) (fun _ _ => rfl)))), ?_⟩
    walk_at "rd"
    have hp : 0 < xs.length := List.length_pos_iff.mpr hx
    refine ⟨_, .inl hL, a, b, _, ns, z, rfl, D, hz, by omega, by omega, fun d H' h0 h1 B D' => ⟨_, _, rfl, B.sql hL (by simp [nl]), ?_⟩⟩
    rw [atI_in h0 h1, List.getElem?_eq_getElem (by omega)]
    exact ⟨_, rfl, q d.toNat _ _ (List.getElem?_eq_getElem (by omega)) B D'⟩
/-- the errors and how they are told -/
def kinds : List (Str × Str) := [("BadKey", "key"), ("BadText", "text"), ("BadSize", "size"), ("BadPlace", "place")]
def spRefusal (K : PySem.W.Frag) : Sp := fun vs H Q _ => ∃ (x : Addr) (c d : Str), vs = [.ref x] ∧ (c, d) ∈ kinds ∧ H x = some (KX (He.ga K c) x) ∧
  ∀ p H', H p = none → Same H H' → H' p = some (.tup [.str "refused", .str d]) → Q (.ref p) H'
/-- the four answers, one of them true -/
structure Ans4 (bs : List Bool) (j : Nat) : Prop where
  len : bs.length = 4
  cnt : (bs.map V.bl).countP (fun z => eqV z (.bl true)) = 1
  at_ : bs[j]? = some true
  no : ∀ m, m < j → bs[m]? = some false
theorem d_l_refusal (T : TX K mg) : Dn P w K mg base 1 "_law_refusal" p_l_refusal (spRefusal K) := by
  refine dn_of (fn_l_refusal T) (g__law_refusal T) sc_l_refusal bd_l_refusal (fun vs H Q E h => ?_) (fun cdv A outer s H vs Q E hr h => ?_)
  · obtain ⟨x, c, d, rfl, _⟩ := h
    rfl
  · obtain ⟨x, c, d, rfl, hc, hx, k⟩ := h
    refine ⟨_, (pss_cons (ps_if (pt_cmpR op_isN (pv 0) pe_non (nomark _)) (pss_one (ps_ret (pe_tup (pa_cons pe_str pa_nil)))) pss_nil) (pss_cons (ps_set (i := 1) sc_l_refusal.nd rfl (Or.inl rfl) (pe_lst (pa_cons (pe_callB call_isX (by rfl) (b_isinstance T) (by decide +kernel) (pa_cons (pv 0) (pa_cons (pgr (g_BadKey T)) pa_nil))) (pa_cons (pe_callB call_isX (by rfl) (b_isinstance T) (by decide +kernel) (pa_cons (pv 0) (pa_cons (pgr (g_BadText T)) pa_nil))) (pa_cons (pe_callB call_isX (by rfl) (b_isinstance T) (by decide +kernel) (pa_cons (pv 0) (pa_cons (pgr (g_BadSize T)) pa_nil))) pa_nil))))) (pss_cons (ps_expr (pe_bm PySem.F.plainAttrs_list PySem.F.slot_list_append PySem.F.type_list_append mt_append (pv 1) (pa_cons (pe_callB call_isX (by rfl) (b_isinstance T) (by decide +kernel) (pa_cons (pv 0) (pa_cons (pgr (g_BadPlace T)) pa_nil))) pa_nil))) (pss_cons (ps_if (PW.pt (pw_or (pt_cmpR op_ne (pe_bm PySem.F.plainAttrs_list PySem.F.slot_list_count PySem.F.type_list_count mt_countB (pv 1) (pa_cons pe_bl pa_nil)) pe_int (nomark _)) (pw_or1 (pt_not (pt_val (pe_callB call_isX (by rfl) (b_isinstance T) (by decide +kernel) (pa_cons (pv 0) (pa_cons (pe_bltn (v := .ty "ValueError") rfl (b_ValueError T) (by decide +kernel) rfl) pa_nil)))))))) (pss_one (ps_ret (pe_tup (pa_cons pe_str pa_nil)))) pss_nil) (pss_one (ps_ret (pe_tup (pa_cons pe_str (pa_cons (pe_ix ix_list (pe_lst (pa_lits rfl)) (pe_bm PySem.F.plainAttrs_list PySem.F.slot_list_index PySem.F.type_list_index mt_index (pv 1) (pa_cons pe_bl pa_nil)) (fun _ _ => rfl)) pa_nil))))))))), ?_⟩
    walk_at "rd"
    have facts : ∃ (b0 b1 b2 b3 : Bool) (j : Nat), ExcC K (He.ga K c) ∧ PySem.W.kitOne K (.ref (He.ga K c)) (.ref (He.ga K "BadKey")) = some b0 ∧ PySem.W.kitOne K (.ref (He.ga K c)) (.ref (He.ga K "BadText")) = some b1 ∧
        PySem.W.kitOne K (.ref (He.ga K c)) (.ref (He.ga K "BadSize")) = some b2 ∧ PySem.W.kitOne K (.ref (He.ga K c)) (.ref (He.ga K "BadPlace")) = some b3 ∧ PySem.W.kitOne K (.ref (He.ga K c)) (.type "ValueError") = some true ∧
        Ans4 [b0, b1, b2, b3] j ∧ [V.str "key", .str "text", .str "size", .str "place"][j]? = some (.str d) := by
      have hc2 : (c, d) = (("BadKey", "key") : Str × Str) ∨ (c, d) = (("BadText", "text") : Str × Str) ∨ (c, d) = (("BadSize", "size") : Str × Str) ∨ (c, d) = (("BadPlace", "place") : Str × Str) := by
        simpa [kinds] using hc
      rcases hc2 with e | e | e | e
      · cases e
        exact ⟨_, _, _, _, 0, ex_BadKey T, ki_BadKey_BadKey T, ki_BadKey_BadText T, ki_BadKey_BadSize T, ki_BadKey_BadPlace T, ki_BadKey_ValueError T, ⟨rfl, rfl, rfl, fun m hm => by omega⟩, rfl⟩
      · cases e
        exact ⟨_, _, _, _, 1, ex_BadText T, ki_BadText_BadKey T, ki_BadText_BadText T, ki_BadText_BadSize T, ki_BadText_BadPlace T, ki_BadText_ValueError T, ⟨rfl, rfl, rfl, fun m hm => match m, hm with | 0, _ => rfl⟩, rfl⟩
      · cases e
        exact ⟨_, _, _, _, 2, ex_BadSize T, ki_BadSize_BadKey T, ki_BadSize_BadText T, ki_BadSize_BadSize T, ki_BadSize_BadPlace T, ki_BadSize_ValueError T, ⟨rfl, rfl, rfl, fun m hm => match m, hm with | 0, _ => rfl | 1, _ => rfl⟩, rfl⟩
      · cases e
        exact ⟨_, _, _, _, 3, ex_BadPlace T, ki_BadPlace_BadKey T, ki_BadPlace_BadText T, ki_BadPlace_BadSize T, ki_BadPlace_BadPlace T, ki_BadPlace_ValueError T, ⟨rfl, rfl, rfl, fun m hm => match m, hm with | 0, _ => rfl | 1, _ => rfl | 2, _ => rfl⟩, rfl⟩
    obtain ⟨b0, b1, b2, b3, j, hC, k0, k1, k2, k3, kV, A, hd⟩ := facts
    refine ⟨x, _, _, _, b0, rfl, hx, hC, fun _ r => r, k0, x, _, _, _, b1, rfl, hx, hC, fun _ r => r, k1, x, _, _, _, b2, rfl, hx, hC, fun _ r => r, k2, (by show 3 ≤ sizeLine; decide), fun p hp => ?_⟩
    have n1 : x ≠ p := ne_of_none hx hp
    have h1 : upd H p (.lst [.bl b0, .bl b1, .bl b2]) x = some (KX (He.ga K c) x) := by rw [upd_ne n1]; exact hx
    refine ⟨.inl ⟨rfl, _, sq_of upd_same⟩, x, _, _, _, b3, rfl, h1, hC, fun _ r => r, k3, _, upd_same, (by show 3 < sizeLine; decide), ?_⟩
    have h2 : upd (upd H p (.lst [.bl b0, .bl b1, .bl b2])) p (.lst ([.bl b0, .bl b1, .bl b2] ++ [.bl b3])) x = some (KX (He.ga K c) x) := by rw [upd_ne n1]; exact h1
    have flat : ([V.bl b0, .bl b1, .bl b2] ++ [V.bl b3]).all flatV = true := rfl
    refine ⟨.inl ⟨rfl, _, sq_of upd_same⟩, p, _, _, rfl, rfl, sq_of upd_same, rfl, flat, rfl, ?_⟩
    have ec : ([V.bl b0, .bl b1, .bl b2] ++ [V.bl b3]).countP (fun z => eqV z (.bl true)) = 1 := A.cnt
    rw [ec, if_neg (by decide)]
    refine ⟨x, _, _, _, true, rfl, h2, hC, fun _ r => r, kV, _, rfl, ?_⟩
    rw [if_neg (by decide)]
    refine ⟨by show 4 ≤ sizeLine; decide, fun p1 hp1 => ?_⟩
    have n2 : p ≠ p1 := ne_of_none upd_same hp1
    have hb : (upd (upd (upd H p (.lst [.bl b0, .bl b1, .bl b2])) p (.lst ([.bl b0, .bl b1, .bl b2] ++ [.bl b3]))) p1 (.lst ([("key" : Str), "text", "size", "place"].map V.str))) p = some (.lst ([.bl b0, .bl b1, .bl b2] ++ [.bl b3])) := by
      rw [upd_ne n2]
      exact upd_same
    have hz : ([V.bl b0, .bl b1, .bl b2] ++ [V.bl b3])[j]? = some (.bl true) := by
      have e := A.at_
      show ([b0, b1, b2, b3].map V.bl)[j]? = some (.bl true)
      rw [List.getElem?_map, e]
      rfl
    have hno : ∀ (m : Nat) (z : V), m < j → ([V.bl b0, .bl b1, .bl b2] ++ [V.bl b3])[m]? = some z → eqV z (.bl true) = false := fun m z hm e => by
      have e2 : ([b0, b1, b2, b3].map V.bl)[m]? = some z := e
      rw [List.getElem?_map, A.no m hm] at e2
      cases e2
      rfl
    have hj : j < 4 := by
      have := (List.getElem?_eq_some_iff.mp hz).1
      exact this
    refine ⟨.inl ⟨rfl, _, sq_of hb⟩, p, _, _, j, _, rfl, rfl, sq_of hb, rfl, flat, hz, rfl, hno, _, _, rfl, sq_of upd_same, .str d, ?_, (by show 2 ≤ sizeLine; decide), fun p2 hp2 => ?_⟩
    · rw [atI_in (by omega) (by show (j : Int) < 4; omega), Int.toNat_natCast]
      exact hd
    · have s1 : Same H (upd (upd (upd H p (.lst [.bl b0, .bl b1, .bl b2])) p (.lst ([.bl b0, .bl b1, .bl b2] ++ [.bl b3]))) p1 (.lst ([("key" : Str), "text", "size", "place"].map V.str))) := by
        refine same_upd (same_upd (same_new hp) hp) ?_
        have e := hp1
        rw [upd_ne n2.symm, upd_ne n2.symm] at e
        exact e
      exact k p2 _ (s1.free hp2) (same_upd s1 (s1.free hp2)) upd_same
end
/-- a refusal, told -/
def IsRef (H : Hp) (d : Str) (v : V) : Prop := ∃ p, v = .ref p ∧ H p = some (.tup [.str "refused", .str d])
/-- an error that a try's body lets out is kept in slot j -/
theorem rf_keep {K : PySem.W.Frag} {c : Str} {i j : Nat} {D : Ends} {σ : L2.St} {H : Hp} (xm : PySem.W.exmOne K (.ref (He.ga K c)) (.ref (He.ga K "HandError")) = some true) (hl : i < σ.length)
    (h : ∀ a H', Same H H' → H' a = none → D.nx (((σ.set i (some (.ref a))).set j (some (.ref a))).set i none) (upd H' a (KX (He.ga K c) a))) :
    ∀ H', Same H H' → WE (wKeep K (.ref (He.ga K "HandError")) i (fun _ _ _ => tAsg (tVar i) (gName j)) D) σ (.ref (He.ga K c)) none H' :=
  fun H' s => ⟨_, rfl, rfl, xm, fun a ha => ⟨.ref a, List.getElem?_set_self hl, h a H' s ha⟩⟩
/-- .. and told -/
theorem ref_end {K : PySem.W.Frag} {c d : Str} {a : Addr} {H H' : Hp} {Q : VK} {E : XK} (hk : (c, d) ∈ kinds) (s : Same H H') (na : H' a = none) (k : ∀ v H2, Same H H2 → IsRef H2 d v → Q v H2) : spRefusal K [.ref a] (upd H' a (KX (He.ga K c) a)) Q E := by
  refine ⟨a, c, d, rfl, hk, upd_same, fun p H2 hp s2 e => k _ H2 ((same_upd s (s.free na)).trans s2) ⟨p, rfl, e⟩⟩
theorem k_text : (("BadText", "text") : Str × Str) ∈ kinds := by simp [kinds]
theorem k_place : (("BadPlace", "place") : Str × Str) ∈ kinds := by simp [kinds]
theorem k_size : (("BadSize", "size") : Str × Str) ∈ kinds := by simp [kinds]
theorem k_key : (("BadKey", "key") : Str × Str) ∈ kinds := by simp [kinds]
/-! ### comparisons of data, lists of refusals -/
section
variable {K : PySem.W.Frag} {H : Hp} {x y : V} {d e : PyData} {Q : VK}
theorem ne_data (hx : Dp K H x d) (hy : Dp K H y e) (h1 : SeqAt.shaped d = true) (h2 : SeqAt.shaped e = true) (q : Q (.bl (!PyData.eqv d e)) H) : rNeD K x y H Q := ⟨d, e, hx, hy, h1, h2, q⟩
theorem eq_data' (hx : Dp K H x d) (hy : Dp K H y e) (h1 : SeqAt.shaped d = true) (h2 : SeqAt.shaped e = true) (q : Q (.bl (PyData.eqv d e)) H) : rEqD K x y H Q := ⟨d, e, hx, hy, h1, h2, q⟩
theorem ne_same (hx : Dp K H x d) (hy : Dp K H y d) (h1 : SeqAt.shaped d = true) (q : Q (.bl false) H) : rNeD K x y H Q := ne_data hx hy h1 h1 (by rw [SeqAt.eqv_refl _ (SeqAt.canLay_of_shaped h1)]; exact q)
theorem eq_same (hx : Dp K H x d) (hy : Dp K H y d) (h1 : SeqAt.shaped d = true) (q : Q (.bl true) H) : rEqD K x y H Q := eq_data' hx hy h1 h1 (by rw [SeqAt.eqv_refl _ (SeqAt.canLay_of_shaped h1)]; exact q)
theorem IsRef.same {H' : Hp} {d : Str} {v : V} (h : IsRef H d v) (s : Same H H') : IsRef H' d v := let ⟨p, e, q⟩ := h; ⟨p, e, s _ _ q⟩
abbrev refD (d : Str) : PyData := .tuple [.str "refused", .str d]
theorem IsRef.dp {d : Str} {v : V} (h : IsRef H d v) : Dp K H v (refD d) := by
  obtain ⟨p, rfl, q⟩ := h
  exact .tup (st_of q) (.cons (.str _) (.cons (.str _) .nil))
theorem dp_refs {d : Str} : ∀ {vs : List V}, (∀ v ∈ vs, IsRef H d v) → DpAll K H vs (List.replicate vs.length (refD d))
  | [], _ => .nil
  | v :: vs, h => .cons (h v List.mem_cons_self).dp (dp_refs fun u hu => h u (List.mem_cons_of_mem _ hu))
/-- a comprehension of refusals -/
theorem lcb_ref {g : TG} {te : TE} {vs : List Nat} {σ : L2.St} {α : Type} {J : It} {n : Nat} {G : Hp → Prop} (ys : List α) (inj : α → V) (w : Walk J n G (YAt (ys.map inj))) (hn : n = ys.length) (hG : ∀ H', Same H H' → G H') (hz : ys.length ≤ 1000) (d : Str)
    (hs : ∀ y H', y ∈ ys → Same H H' → ∀ Y : V → Hp → Prop, (∀ v H4, Same H' H4 → IsRef H4 d v → Y v H4) → g (inj y) (wipe σ vs) H' fun σ2 H2 => wipe σ2 vs = wipe σ vs ∧ te σ2 H2 Y)
    (hd : ∀ D acc H', Same H H' → H' D = some (.lst acc) → acc.length = n → (∀ v ∈ acc, IsRef H' d v) → Q (.ref D) H') : LcB J g tYes te vs σ H Q := by
  intro D hD
  refine lc_it w (fun i H' => Same H H' ∧ ∃ acc, H' D = some (.lst acc) ∧ acc.length = i ∧ ∀ v ∈ acc, IsRef H' d v) ⟨same_new hD, [], upd_same, rfl, fun v hv => absurd hv List.not_mem_nil⟩ (fun i H' _ p => hG H' p.1) ?_ ?_
  · rintro i x H1 H2 hi ⟨s, acc, e, la, ra⟩ ⟨rfl, hx⟩
    rw [List.getElem?_map] at hx
    cases hy : ys[i]? with
    | none =>
      rw [hy] at hx
      cases hx
    | some y =>
      rw [hy] at hx
      have ex : inj y = x := Option.some.inj hx
      subst ex
      refine hs y _ (List.mem_of_getElem? hy) s _ fun v H4 s4 rv => ⟨acc, s4 _ _ e, slt (by omega), same_upd (s.trans s4) hD, acc ++ [v], upd_same, by rw [List.length_append, la]; rfl, fun u hu => ?_⟩
      have key : ∀ u, IsRef H4 d u → IsRef (upd H4 D (.lst (acc ++ [v]))) d u := fun u hu => by
        obtain ⟨p, rfl, q⟩ := hu
        refine ⟨p, rfl, ?_⟩
        have ne : p ≠ D := ne_of q (s4 _ _ e) (by intro z; cases z)
        rw [upd_ne ne]
        exact q
      rcases List.mem_append.mp hu with h | h
      · exact key u ((ra u h).same s4)
      · rw [List.mem_singleton.mp h]
        exact key v rv
  · rintro H' ⟨s, acc, e, la, ra⟩
    exact hd D acc H' s e la ra
/-- compared with so many like one that is written -/
theorem ne_refs {d : Str} {n : Nat} {D q p : Addr} {acc ys : List V} {R : VK} (e : H D = some (.lst acc)) (la : acc.length = n) (ra : ∀ v ∈ acc, IsRef H d v) (eq : H q = some (.lst ys)) (hp : H p = some (.tup [.str "refused", .str d])) (hy : ys = List.replicate n (.ref p))
    (hs : SeqAt.shaped (.list (List.replicate n (refD d))) = true) (k : R (.bl false) H) : rNeD K (.ref D) (.ref q) H R := by
  have h1 : Dp K H (.ref D) (.list (List.replicate n (refD d))) := .lst (sq_of e) (by rw [← la]; exact dp_refs ra)
  have h2 : Dp K H (.ref q) (.list (List.replicate n (refD d))) := by
    refine .lst (sq_of eq) ?_
    rw [hy]
    have := dp_refs (K := K) (H := H) (d := d) (vs := List.replicate n (.ref p)) fun v hv => by
      rw [List.eq_of_mem_replicate hv]
      exact ⟨p, rfl, hp⟩
    rw [List.length_replicate] at this
    exact this
  exact ne_same h1 h2 hs k
theorem eq_refs {d : Str} {n : Nat} {D q p : Addr} {acc ys : List V} {R : VK} (e : H D = some (.lst acc)) (la : acc.length = n) (ra : ∀ v ∈ acc, IsRef H d v) (eq : H q = some (.lst ys)) (hp : H p = some (.tup [.str "refused", .str d])) (hy : ys = List.replicate n (.ref p))
    (hs : SeqAt.shaped (.list (List.replicate n (refD d))) = true) (k : R (.bl true) H) : rEqD K (.ref D) (.ref q) H R := by
  have h1 : Dp K H (.ref D) (.list (List.replicate n (refD d))) := .lst (sq_of e) (by rw [← la]; exact dp_refs ra)
  have h2 : Dp K H (.ref q) (.list (List.replicate n (refD d))) := by
    refine .lst (sq_of eq) ?_
    rw [hy]
    have := dp_refs (K := K) (H := H) (d := d) (vs := List.replicate n (.ref p)) fun v hv => by
      rw [List.eq_of_mem_replicate hv]
      exact ⟨p, rfl, hp⟩
    rw [List.length_replicate] at this
    exact this
  exact eq_same h1 h2 hs k
/-- [("refused", d)] * n -/
theorem mk_refs {d : Str} {n : Nat} {R : VK} (hn : n ≤ 1000) (k : ∀ p q H', Same H H' → H' p = some (.tup [.str "refused", .str d]) → H' q = some (.lst (List.replicate n (.ref p))) → R (.ref q) H') :
    [V.str "refused", V.str d].length ≤ sizeLine ∧ ∀ p, H p = none → [V.ref p].length ≤ sizeLine ∧ ∀ l, upd H p (.tup [.str "refused", .str d]) l = none → rRep (.ref l) (.int (n : Nat)) (upd (upd H p (.tup [.str "refused", .str d])) l (.lst [.ref p])) R := by
  refine ⟨by show 2 ≤ sizeLine; decide, fun p hp => ⟨by show 1 ≤ sizeLine; decide, fun l hl => ?_⟩⟩
  refine ⟨l, n, _, rfl, rfl, upd_same, by omega, by omega, sline (by rw [Int.toNat_natCast]; show 1 * n ≤ 100000; omega), fun q hq => ?_⟩
  have s1 : Same H (upd (upd H p (.tup [.str "refused", .str d])) l (.lst [.ref p])) := (same_new hp).trans (same_new hl)
  have e1 : upd (upd H p (.tup [.str "refused", .str d])) l (.lst [.ref p]) p = some (.tup [.str "refused", .str d]) := by
    rw [upd_ne (ne_of_none upd_same hl)]
    exact upd_same
  refine k p q _ (s1.trans (same_new hq)) (same_new hq _ _ e1) ?_
  rw [upd_same, Int.toNat_natCast]
  have e : (List.replicate n [V.ref p]).flatten = List.replicate n (V.ref p) := by
    clear k hn
    induction n with
    | zero => rfl
    | succ n ih => rw [List.replicate_succ, List.flatten_cons, ih, List.replicate_succ]; rfl
  rw [e]
end
/-- signs alone, at most n -/
def okPiece (n : Nat) (z : Str) : Bool := decide (z.cps.toList.length ≤ n) && z.cps.toList.all fun c => isSign [c]
theorem pick_str {zs : List Str} {j : Nat} {v : V} (h : (zs.map V.str)[j]? = some v) : ∃ z ∈ zs, v = .str z := by
  rw [List.getElem?_map] at h
  cases e : zs[j]? with
  | none =>
    rw [e] at h
    cases h
  | some z =>
    rw [e] at h
    exact ⟨z, List.mem_of_getElem? e, (Option.some.inj h).symm⟩
theorem pick_piece {zs : List Str} {n j : Nat} {v : V} (h : (zs.map V.str)[j]? = some v) (ok : zs.all (okPiece n) = true) : ∃ t : List Nat, v = .str (S t) ∧ t.length ≤ n ∧ t.all (fun c => isSign [c]) = true := by
  obtain ⟨z, hz, rfl⟩ := pick_str h
  have q := List.all_eq_true.mp ok z hz
  unfold okPiece at q
  rw [Bool.and_eq_true, decide_eq_true_iff] at q
  exact ⟨z.cps.toList, rfl, q.1, q.2⟩
/-- one of a list that is made for it -/
theorem pick_new {K : PySem.W.Frag} {H : Hp} {a b : Addr} {ns : List Int} {z : Nat} {xs : List V} {R : VK} {E : XK} (D : Dr K H a b ns z) (hz : z < 90000) (hx : xs ≠ []) (hl : xs.length ≤ 1000)
    (k : ∀ (j : Nat) (v : V) (H' : Hp), xs[j]? = some v → Fx [b] H H' → Dr K H' a b ns (z + 1) → R v H') : xs.length ≤ sizeLine ∧ ∀ p, H p = none → spPick K [.ref a, .ref b, .ref p] (upd H p (.lst xs)) R E := by
  refine ⟨sline (by omega), fun p hp => ?_⟩
  have D1 := D.same (same_new (o := .lst xs) hp)
  refine ⟨a, b, p, xs, ns, z, rfl, D1, hz, sq_of upd_same, ?_, hx, hl, fun j v H' hj F D' => k j v H' hj ((Fx.of (same_new hp)).trans F) D'⟩
  intro e
  exact D.there (by rw [← e]; exact hp)
/-! ### lists of texts, compared -/
/-- signs that are told as data -/
abbrev Asc (t : List Nat) : Prop := ∀ c ∈ t, c < 128
abbrev AscL (ts : List (List Nat)) : Prop := ∀ u ∈ ts, Asc u
theorem strOk_asc {t : List Nat} (h : Asc t) : PyData.strOk (S t) = true := by
  show (t.toArray.all fun c => decide (c < 0x110000)) = true
  rw [List.all_toArray]
  exact List.all_eq_true.mpr fun c hc => decide_eq_true (by have := h c hc; omega)
abbrev tds (ts : List (List Nat)) : List PyData := ts.map fun u => .str (S u)
theorem canLay_texts : ∀ {ts : List (List Nat)}, AscL ts → PyData.canLayAll0 (tds ts) = true
  | [], _ => by simp [PyData.canLayAll0]
  | u :: us, h => by
    have h1 := strOk_asc (h u List.mem_cons_self)
    have h2 := canLay_texts (ts := us) fun x hx => h x (List.mem_cons_of_mem _ hx)
    show PyData.canLayAll0 (.str (S u) :: tds us) = true
    simp only [PyData.canLayAll0, PyData.canLay0, h1, h2, Bool.and_self]
theorem depth_texts : ∀ (ts : List (List Nat)), PyData.depthAll (tds ts) = 0
  | [] => by simp [PyData.depthAll]
  | u :: us => by
    show PyData.depthAll (.str (S u) :: tds us) = 0
    simp only [PyData.depthAll, PyData.depth, depth_texts us, Nat.max_self]
theorem shaped_texts {ts : List (List Nat)} (h : AscL ts) : SeqAt.shaped (.list (tds ts)) = true := by
  show (PyData.canLay0 _ && decide (PyData.depth _ ≤ 64)) = true
  have e1 : PyData.canLay0 (.list (tds ts)) = true := by
    simp only [PyData.canLay0]
    exact canLay_texts h
  have e2 : PyData.depth (.list (tds ts)) = 1 := by
    simp only [PyData.depth, depth_texts]
  rw [e1, e2]
  rfl
theorem dp_all {K : PySem.W.Frag} {H : Hp} : ∀ (ts : List (List Nat)), DpAll K H (tvs ts) (tds ts)
  | [] => .nil
  | u :: us => .cons (.str _) (dp_all us)
theorem dp_texts {K : PySem.W.Frag} {H : Hp} {t : Addr} {ts : List (List Nat)} (e : H t = some (.lst (tvs ts))) : Dp K H (.ref t) (.list (tds ts)) := .lst (sq_of e) (dp_all ts)
theorem eqv_nil {ts : List (List Nat)} : PyData.eqv (.list (tds ts)) (.list []) = decide (ts = []) := by
  cases ts with
  | nil => rfl
  | cons u us => rfl
/-- texts != [] -/
theorem ne_empty {K : PySem.W.Frag} {H : Hp} {t q : Addr} {ts : List (List Nat)} {Q : VK} (e : H t = some (.lst (tvs ts))) (f : H q = some (.lst [])) (h : AscL ts) (k : Q (.bl (decide (ts ≠ []))) H) : rNeD K (.ref t) (.ref q) H Q := by
  refine ne_data (dp_texts e) (.lst (sq_of f) .nil) (shaped_texts h) (by decide +kernel) ?_
  rw [eqv_nil]
  have e2 : (!decide (ts = [])) = decide (ts ≠ []) := by
    by_cases z : ts = [] <;> simp [z]
  rw [e2]
  exact k
theorem ne_texts {K : PySem.W.Frag} {H : Hp} {t q : Addr} {ts : List (List Nat)} {Q : VK} (e : H t = some (.lst (tvs ts))) (f : H q = some (.lst (tvs ts))) (h : AscL ts) (k : Q (.bl false) H) : rNeD K (.ref t) (.ref q) H Q := ne_same (dp_texts e) (dp_texts f) (shaped_texts h) k
theorem eq_texts {K : PySem.W.Frag} {H : Hp} {t q : Addr} {ts : List (List Nat)} {Q : VK} (e : H t = some (.lst (tvs ts))) (f : H q = some (.lst (tvs ts))) (h : AscL ts) (k : Q (.bl true) H) : rEqD K (.ref t) (.ref q) H Q := eq_same (dp_texts e) (dp_texts f) (shaped_texts h) k
theorem inV_strs (z : Str) : ∀ zs : List Str, inV (.str z) (zs.map V.str) = decide (z ∈ zs)
  | [] => by
    show ([] : List V).any _ = _
    simp
  | y :: zs => by
    have ih := inV_strs z zs
    show ((V.str y :: zs.map V.str).any fun u => eqV u (.str z)) = _
    rw [List.any_cons]
    have e : ((zs.map V.str).any fun u => eqV u (.str z)) = decide (z ∈ zs) := ih
    rw [e]
    have e2 : eqV (.str y) (.str z) = (y == z) := rfl
    rw [e2]
    by_cases h : z = y
    · subst h
      simp
    · have h2 : ¬ y = z := fun q => h q.symm
      simp [h, h2]
theorem flat_strs (zs : List Str) : (zs.map V.str).all flatV = true := by
  rw [List.all_map]
  exact List.all_eq_true.mpr fun _ _ => rfl
theorem in_strs {K : PySem.W.Frag} {H : Hp} {z : Str} {p : Addr} (zs : List Str) {Q : VK} (e : SqT K H p (zs.map V.str)) (k : Q (.bl (decide (z ∈ zs))) H) : rIn K false (.str z) (.ref p) H Q := by
  refine ⟨p, _, rfl, .inr e, rfl, flat_strs zs, ?_⟩
  rw [if_neg (by decide), inV_strs]
  exact k
theorem notin_strs {K : PySem.W.Frag} {H : Hp} {z : Str} {p : Addr} (zs : List Str) {Q : VK} (e : SqT K H p (zs.map V.str)) (k : Q (.bl (decide (z ∉ zs))) H) : rIn K true (.str z) (.ref p) H Q := by
  refine ⟨p, _, rfl, .inr e, rfl, flat_strs zs, ?_⟩
  rw [if_pos rfl, inV_strs]
  have e2 : (!decide (z ∈ zs)) = decide (z ∉ zs) := by
    by_cases h : z ∈ zs <;> simp [h]
  rw [e2]
  exact k
/-! ### two things apart -/
/-- the town, the script, what stands at F, what stands at G: all apart -/
structure Sep (K : PySem.W.Frag) (H : Hp) (a p : Addr) (ns : List Int) (z : Nat) (F G : List Addr) : Prop where
  D : Dr K H a p ns z
  ap : Ap K a ns F
  aq : Ap K a ns G
  pn : p ∉ F
  qn : p ∉ G
  dj : ∀ c ∈ F, c ∉ G
  oF : ∀ c ∈ F, H c ≠ none
  oG : ∀ c ∈ G, H c ≠ none
section
variable {K : PySem.W.Frag} {H H' : Hp} {a p : Addr} {ns : List Int} {z z' : Nat} {F G F' G' : List Addr}
theorem Fx.old (f : Fx F H H') {c : Addr} (h : H c ≠ none) : H' c ≠ none := fun e => h (f.free e)
theorem Sep.symm (S : Sep K H a p ns z F G) : Sep K H a p ns z G F := ⟨S.D, S.aq, S.ap, S.qn, S.pn, fun c h g => S.dj c g h, S.oG, S.oF⟩
theorem Sep.draw (S : Sep K H a p ns z F G) (f : Fx [p] H H') (D : Dr K H' a p ns z') : Sep K H' a p ns z' F G := ⟨D, S.ap, S.aq, S.pn, S.qn, S.dj, fun c h => f.old (S.oF c h), fun c h => f.old (S.oG c h)⟩
theorem Sep.same (S : Sep K H a p ns z F G) (s : Same H H') : Sep K H' a p ns z F G := S.draw (Fx.of s) (S.D.same s)
theorem Sep.mono (S : Sep K H a p ns z F G) (h : z ≤ z') : Sep K H a p ns z' F G := ⟨S.D.mono h, S.ap, S.aq, S.pn, S.qn, S.dj, S.oF, S.oG⟩
theorem Ap.each (h : ∀ c ∈ F, Ap K a ns [c]) : Ap K a ns F := by
  induction F with
  | nil => exact .inr List.not_mem_nil
  | cons c F ih => exact (h c List.mem_cons_self).cons (ih fun d hd => h d (List.mem_cons_of_mem _ hd))
theorem Ap.of (h : Ap K a ns F) {c : Addr} (m : c ∈ F) : Ap K a ns [c] := h.mono fun d hd => by rw [List.mem_singleton.mp hd]; exact m
theorem Sep.left (S : Sep K H a p ns z F G) (f : Fx F H H') (n : ∀ c ∈ F', c ∈ F ∨ H c = none) (o : ∀ c ∈ F', H' c ≠ none) : Sep K H' a p ns z F' G := by
  refine ⟨S.D.fy f S.ap S.pn, Ap.each fun c hc => ?_, S.aq, fun h => ?_, S.qn, fun c hc g => ?_, o, fun c h => f.old (S.oG c h)⟩
  · rcases n c hc with q | q
    · exact S.ap.of q
    · exact S.D.new q
  · rcases n p h with q | q
    · exact S.pn q
    · exact S.D.ne q rfl
  · rcases n c hc with q | q
    · exact S.dj c q g
    · exact S.oG c g q
theorem Sep.right (S : Sep K H a p ns z F G) (f : Fx G H H') (n : ∀ c ∈ G', c ∈ G ∨ H c = none) (o : ∀ c ∈ G', H' c ≠ none) : Sep K H' a p ns z F G' := (S.symm.left f n o).symm
theorem Sep.nG (S : Sep K H a p ns z F G) {c : Addr} (h : c ∈ G) : c ∉ F := fun m => S.dj c m h
theorem Sep.nF (S : Sep K H a p ns z F G) {c : Addr} (h : c ∈ F) : c ∉ G := S.dj c h
theorem Sep.npF (S : Sep K H a p ns z F G) {c : Addr} (h : c ∈ F) : c ∉ [p] := fun m => S.pn (by rw [← List.mem_singleton.mp m]; exact h)
theorem Sep.npG (S : Sep K H a p ns z F G) {c : Addr} (h : c ∈ G) : c ∉ [p] := fun m => S.qn (by rw [← List.mem_singleton.mp m]; exact h)
end
/-- the texts that the law writes -/
def smallT (t : List Nat) : Bool := okText t && decide (t.length ≤ 10)
theorem small_len {i : Nat} (h : i < 31) : ("t" : Str).length + (Str.ofString (toString (i : Int))).length ≤ 100 := by
  have : ∀ i : Fin 31, ("t" : Str).length + (Str.ofString (toString ((i : Nat) : Int))).length ≤ 100 := by decide +kernel
  exact this ⟨i, h⟩
theorem small_num {i : Nat} (h : i < 31) : smallT (("t" : Str) ++ Str.ofString (toString (i : Int))).cps.toList = true := by
  have : ∀ i : Fin 31, smallT (("t" : Str) ++ Str.ofString (toString ((i : Nat) : Int))).cps.toList = true := by decide +kernel
  exact this ⟨i, h⟩
theorem shaped_str {t : List Nat} (h : Asc t) : SeqAt.shaped (.str (S t)) = true := by
  show (PyData.canLay0 (.str (S t)) && decide (PyData.depth (.str (S t)) ≤ 64)) = true
  simp only [PyData.canLay0, PyData.depth, strOk_asc h]
  rfl
end LH
/-! ## Windows -/
namespace LH
open PySem PySem.Spec PyProof.Rows L2
theorem mul_small {c : Nat} {k : Int} (h0 : 0 ≤ k) (h1 : k ≤ 100000) : MulOk (S [c]) k ∧ Txt.mul (S [c]) k = S (List.replicate k.toNat c) := by
  have l1 : (S [c]).length = 1 := S_len [c]
  refine ⟨⟨?_, fun n _ => ?_, fun n _ => ?_⟩, ?_⟩
  · rw [decide_eq_false (by omega), decide_eq_false (by omega)]
    rfl
  · rw [l1]
    have : (1 : Int) ≤ (2 ^ 63 - 1) / k := by
      rw [Int.le_ediv_iff_mul_le (by omega)]
      omega
    show ¬ ((1 : Nat) : Int) > _
    omega
  · rw [l1]
    unfold Builtin.Str.tooLong
    have : 1 * k.toNat ≤ sizeLine := sline (by omega)
    exact decide_eq_false (by omega)
  · have e2 := mul_one_list c k
    rw [← e2]
    rfl
/-- a slice whose end may lie behind the text -/
theorem cut_S2 (l : List Nat) (i j : Int) (h0 : 0 ≤ i) (h1 : i ≤ l.length) (h2 : i ≤ j) : cutS (S l) (some i) (some j) = S ((l.drop i.toNat).take (j.toNat - i.toNat)) := by
  have e1 : HT.sIx l.length 0 (some i) = i.toNat := by
    show (if i < 0 then _ else min i.toNat l.length) = _
    rw [if_neg (by omega)]
    omega
  have e2 : HT.sIx l.length l.length (some j) = min j.toNat l.length := by
    show (if j < 0 then _ else min j.toNat l.length) = _
    rw [if_neg (by omega)]
  unfold cutS
  show (⟨((l.drop (HT.sIx l.length 0 (some i))).take (HT.sIx l.length l.length (some j) - HT.sIx l.length 0 (some i))).toArray⟩ : Str) = _
  rw [e1, e2, List.take_eq_take_min (i := j.toNat - i.toNat), List.length_drop, show min j.toNat l.length - i.toNat = min (j.toNat - i.toNat) (l.length - i.toNat) by omega]
  rfl
def WinAt (K : PySem.W.Frag) (H : Hp) (x : Addr) (w : Nat) (f : Int) : Prop := ∃ dx, H x = some (.ins (He.ga K "Window") dx (fs_Window (.int w) (.int f)))
/-- the first place that is shown of n signs, the caret at c -/
def firstW (w : Nat) (f : Int) (n : Nat) (c : Int) : Int := if n < w then 0 else max (c - (w - 2) + 1) (min (min f (n + 1 - (w - 2))) c)
/-- what is shown -/
def shownW (w : Nat) (f : Int) (t : List Nat) : List Nat :=
  if t.length < w then t else
    (if f > 0 then [60] else [32]) ++ (t.drop f.toNat).take (w - 2) ++ List.replicate (w - 2 - ((t.drop f.toNat).take (w - 2)).length) 32 ++ (if f + (w - 2) < t.length then [62] else [32])
def colW (w : Nat) (f : Int) (n : Nat) (c : Int) : Int := if n < w then c else c - f + 1
/-- the first place lies in the text, the caret in the window -/
theorem firstW_in {w n : Nat} {f c : Int} (w4 : 4 ≤ w) (hf : 0 ≤ f) (hc : 0 ≤ c) (hn : c ≤ n) : 0 ≤ firstW w f n c ∧ firstW w f n c ≤ n ∧ (¬ n < w → firstW w f n c ≤ c ∧ c - firstW w f n c ≤ (w : Int) - 2 - 1) := by
  unfold firstW
  split
  · omega
  · omega
theorem shownW_len {w : Nat} {f : Int} {t : List Nat} (w4 : 4 ≤ w) : (shownW w f t).length = if t.length < w then t.length else w := by
  unfold shownW
  by_cases h : t.length < w
  · rw [if_pos h, if_pos h]
  · rw [if_neg h, if_neg h]
    have l1 : (if f > 0 then [60] else [32] : List Nat).length = 1 := by split <;> rfl
    have l2 : (if f + (w - 2) < t.length then [62] else [32] : List Nat).length = 1 := by split <;> rfl
    have l3 : ((t.drop f.toNat).take (w - 2)).length ≤ w - 2 := List.length_take_le _ _
    rw [List.length_append, List.length_append, List.length_append, l1, l2, List.length_replicate]
    omega
/-- the caret's sign is at its column -/
theorem shownW_at {w : Nat} {f c : Int} {t : List Nat} (w4 : 4 ≤ w) (hf : 0 ≤ f) (hc : 0 ≤ c) (hn : c < t.length) (h1 : ¬ t.length < w → f ≤ c ∧ c - f ≤ (w : Int) - 2 - 1) :
    0 ≤ colW w f t.length c ∧ (shownW w f t)[(colW w f t.length c).toNat]? = t[c.toNat]? := by
  unfold shownW colW
  by_cases h : t.length < w
  · rw [if_pos h, if_pos h]
    exact ⟨hc, rfl⟩
  · rw [if_neg h, if_neg h]
    obtain ⟨a, b⟩ := h1 h
    have l1 : (if f > 0 then [60] else [32] : List Nat).length = 1 := by split <;> rfl
    refine ⟨by omega, ?_⟩
    have l3 : ((t.drop f.toNat).take (w - 2)).length = min (w - 2) (t.length - f.toNat) := by rw [List.length_take, List.length_drop]
    rw [List.append_assoc, List.append_assoc, List.getElem?_append_right (by rw [l1]; omega), l1, List.getElem?_append_left (by rw [l3]; omega), List.getElem?_take, if_pos (by omega), List.getElem?_drop]
    congr 1
    omega
/-- padded and cut -/
theorem pad_take {x : List Nat} {r : Nat} (h : x.length ≤ r) : (x ++ List.replicate r 32).take r = x ++ List.replicate (r - x.length) 32 := by
  rw [List.take_append, List.take_of_length_le h, List.take_replicate, show min (r - x.length) r = r - x.length by omega]
def spWin (K : PySem.W.Frag) : Sp := fun vs H Q E => ∃ (x dx : Addr) (m : Int), vs = [.ref x, .int m] ∧ H x = some (.ins (He.ga K "Window") dx []) ∧
  if 4 ≤ m ∧ m ≤ 400 then (∀ H', Fx [x] H H' → WinAt K H' x m.toNat 0 → Q .non H') else Rf K "BadSize" E H
def spView (K : PySem.W.Frag) : Sp := fun vs H Q E => ∃ (x : Addr) (w : Nat) (f : Int) (t : List Nat) (c : Int), vs = [.ref x, tv t, .int c] ∧ WinAt K H x w f ∧ 4 ≤ w ∧ w ≤ 400 ∧ 0 ≤ f ∧ t.length ≤ 100000 ∧
  if okText t = true then (if 0 ≤ c ∧ c ≤ t.length then
    (∀ q H', H q = none → Fx [x] H H' → WinAt K H' x w (firstW w f t.length c) → H' q = some (.tup [tv (shownW w (firstW w f t.length c) t), .int (colW w (firstW w f t.length c) t.length c)]) → Q (.ref q) H')
    else Rf K "BadPlace" E H) else Rf K "BadText" E H
section
variable {P : Program} {w : World} {K : PySem.W.Frag} {mg : Str → Option Value} {base : Heap}
theorem d_Window_init (T : TX K mg) : Mn P w K mg base 1 "Window" (He.ga K "Window") p_Window_init (spWin K) := by
  refine mn_of (fn_Window_init T) (mk_Window T) (g_Window T) sc_Window_init bd_Window_init (fun vs H Q E h => ?_) (fun cdv A outer s H vs Q E hr h => ?_)
  · obtain ⟨x, dx, m, rfl, _⟩ := h
    rfl
  · obtain ⟨x, dx, m, rfl, hp, k⟩ := h
    refine ⟨_, (pss_cons (ps_if (pt_not (pt_chain op_le op_le (pgi (i_LEAST T)) (pv 1) (pgi (i_MOST T)))) (pss_one (ps_raise rfl (takes_of rfl rfl rfl rfl) (pmk_own PySem.F.excBase_ValueError (xc_BadSize T).1 (g_BadSize T) (xc_BadSize T).2.1 (raises_own (xc_BadSize T).2.2.1 (xc_BadSize T).2.2.2) rfl))) pss_nil) (pss_cons (ps_fld (pv 0) (pv 1) rfl) (pss_one (ps_fld (pv 0) pe_int rfl)))), ?_⟩
    walk_at "rd"
    simp only [List.getElem?_cons_zero, List.getElem?_cons_succ, List.set_cons_zero, List.set_cons_succ, List.cons_append, List.nil_append, List.append_nil, Option.some.injEq, V.int.injEq, V.str.injEq, V.bl.injEq, V.ref.injEq, List.cons.injEq, HO.ins.injEq, HO.lst.injEq, HO.tup.injEq, S_inj, ofS_inj, String.reduceEq, ex_eq, ex_eq', ex_eq0, tLc_eq, tFor_eq, iStr, iRng1, iRng2, iList, iTup, tVar, tC, tOp, tCons, tNil, tCB, tFld, tCallS, tMethW, tMakeS, WE, wKeep, tLits, tLst, tTup, wipe, rI, rI0, rU, rEq, rNe, scII, scSS, scBB, scNN, scNI, scNS, scNB, scIN, scSN, scBN, scIS, scSI, if_tt, if_ff, and_true, true_and, and_assoc, exists_and_left, exists_and_right, exists_const, cxK, decide_true, decide_false, Bool.not_true, Bool.not_false, eq_self_iff_true, Bool.true_eq_false, Bool.false_eq_true, if_true, if_false, reduceCtorEq, S_len, S_one, S_tl, decide_eq_true_eq, tUn, tAndV, tOrV, tNotV, tIf, tAnd, tOr, tNot, tB, tTest, tChain, tCall, tMeth, tMake, sFld, tSeq, tNext, tAsg, gName, tIfS, tRet, tRetN, tDrop, tM0, tM1, tBM, tBM0, rAppend, rPop, tSl, tPart, tNoPart, rIxL, rIxT, rIxS, rSlS, rSlL, rCat, iRng3, tRevL, tDisp, tPairs, tDGet, sDPut, gTup, gCons, gNil, gSub, gAttr, rSetL, tv, upd_same, upd_upd, List.length_cons, List.length_nil, Nat.reduceAdd, Nat.zero_add, lines, fk_Window T, lk_Window, inj_Window, hp, mk_fs_Window]
    have no : ¬ (4 ≤ m ∧ m ≤ 400) → E (.ref (He.ga K "BadSize")) none H := fun n => by
      rw [if_neg n] at k
      exact k H (Same.refl H)
    by_cases h1 : 4 ≤ m
    · rw [if_pos h1]
      by_cases h2 : m ≤ 400
      · rw [if_neg (by rw [decide_eq_true h2]; decide)]
        rw [if_pos ⟨h1, h2⟩] at k
        refine ⟨by decide, by decide, k _ (Fx.upd List.mem_cons_self (nt_ins hp)) ⟨dx, ?_⟩⟩
        rw [upd_same, Int.toNat_of_nonneg (by omega)]
      · rw [if_pos (by rw [decide_eq_false h2]; rfl)]
        exact no fun h => h2 h.2
    · rw [if_neg h1]
      exact no fun h => h1 h.1
theorem d_Window_view (T : TX K mg) : Mt P w K mg base 3 (He.ga K "Window") "view" p_Window_view (spView K) := by
  refine mt_of (fn_Window_view T) (cl_Window T) (me_Window_view T) sc_Window_view bd_Window_view (fun vs H Q E h => ?_) (fun cdv A outer s H vs Q E hr h => ?_)
  · obtain ⟨x, w, f, t, c, rfl, _⟩ := h
    rfl
  · obtain ⟨x, w, f, t, c, rfl, R, w4, w400, hf, ht, k⟩ := h
    obtain ⟨dx, hp⟩ := id R
    refine ⟨_, (pss_cons (ps_expr (pc (d_look_text T) (hr.mono (by decide)) px (pa_cons (pv 1) pa_nil))) (pss_cons (ps_expr (pc (d_look_place T) (hr.mono (by decide)) px (pa_cons (pv 1) (pa_cons (pv 2) pa_nil)))) (pss_cons (ps_if (pt_cmpR op_lt (pe_callB call_len_str (by rfl) (b_len T) boot_len (pa_cons (pv 1) pa_nil)) (pe_fld (pv 0) rfl) (nomark _)) (pss_cons (ps_fld (pv 0) pe_int rfl) (pss_one (ps_ret (pe_tup (pa_cons (pv 1) (pa_cons (pv 2) pa_nil)))))) pss_nil) (pss_cons (ps_set (i := 3) sc_Window_view.nd rfl (Or.inl rfl) (pe_op op_sub (pe_fld (pv 0) rfl) pe_int)) (pss_cons (ps_fld (pv 0) (pe_callB (call_min2 rfl) (by rfl) (b_min T) (by decide +kernel) (pa_cons (pe_fld (pv 0) rfl) (pa_cons (pe_op op_sub (pe_op op_add (pe_callB call_len_str (by rfl) (b_len T) boot_len (pa_cons (pv 1) pa_nil)) pe_int) (pv 3)) pa_nil))) rfl) (Evl.pss_cut (ps_fld (pv 0) (pe_callB (call_max2 rfl) (by rfl) (b_max T) (by decide +kernel) (pa_cons (pe_op op_add (pe_op op_sub (pv 2) (pv 3)) pe_int) (pa_cons (pe_callB (call_min2 rfl) (by rfl) (b_min T) (by decide +kernel) (pa_cons (pe_fld (pv 0) rfl) (pa_cons (pv 2) pa_nil))) pa_nil))) rfl) (Evl.pss_cut (ps_set (i := 4) sc_Window_view.nd rfl (Or.inl rfl) (pe_ifExp (pt_cmpR op_gt (pe_fld (pv 0) rfl) pe_int (nomark _)) pe_str pe_str)) (Evl.pss_cut (ps_set (i := 5) sc_Window_view.nd rfl (Or.inl rfl) (pe_ifExp (pt_cmpR op_lt (pe_op op_add (pe_fld (pv 0) rfl) (pv 3)) (pe_callB call_len_str (by rfl) (b_len T) boot_len (pa_cons (pv 1) pa_nil)) (nomark _)) pe_str pe_str)) (pss_cons (ps_set (i := 6) sc_Window_view.nd rfl (Or.inl rfl) (pe_slice sl_str (pv 1) (po_some (pe_fld (pv 0) rfl)) (po_some (pe_op op_add (pe_fld (pv 0) rfl) (pv 3))))) (pss_one (ps_ret (pe_tup (pa_cons (pe_op op_add_str (pe_op op_add_str (pe_op op_add_str (pv 4) (pv 6)) (pe_op op_repS pe_str (pe_op op_sub (pv 3) (pe_callB call_len_str (by rfl) (b_len T) boot_len (pa_cons (pv 6) pa_nil))))) (pv 5)) (pa_cons (pe_op op_add (pe_op op_sub (pv 2) (pe_fld (pv 0) rfl)) pe_int) pa_nil)))))))))))))), ?_⟩
    walk_at "rd"
    refine ⟨t, rfl, ht, ?_⟩
    by_cases ok : okText t = true
    · rw [if_pos ok] at k ⊢
      intro H1 s1
      have hp1 := s1 _ _ hp
      refine ⟨t, c, rfl, ht, ?_⟩
      by_cases hc : 0 ≤ c ∧ c ≤ (t.length : Int)
      · rw [if_pos hc] at k ⊢
        obtain ⟨f2, ef⟩ : ∃ f2 : Int, firstW w f t.length c = f2 := ⟨_, rfl⟩
        rw [ef] at k
        simp only [List.getElem?_cons_zero, List.getElem?_cons_succ, List.set_cons_zero, List.set_cons_succ, List.cons_append, List.nil_append, List.append_nil, Option.some.injEq, V.int.injEq, V.str.injEq, V.bl.injEq, V.ref.injEq, List.cons.injEq, HO.ins.injEq, HO.lst.injEq, HO.tup.injEq, S_inj, ofS_inj, String.reduceEq, ex_eq, ex_eq', ex_eq0, tLc_eq, tFor_eq, iStr, iRng1, iRng2, iList, iTup, tVar, tC, tOp, tCons, tNil, tCB, tFld, tCallS, tMethW, tMakeS, WE, wKeep, tLits, tLst, tTup, wipe, rI, rI0, rU, rEq, rNe, scII, scSS, scBB, scNN, scNI, scNS, scNB, scIN, scSN, scBN, scIS, scSI, if_tt, if_ff, and_true, true_and, and_assoc, exists_and_left, exists_and_right, exists_const, cxK, decide_true, decide_false, Bool.not_true, Bool.not_false, eq_self_iff_true, Bool.true_eq_false, Bool.false_eq_true, if_true, if_false, reduceCtorEq, S_len, S_one, S_tl, decide_eq_true_eq, tUn, tAndV, tOrV, tNotV, tIf, tAnd, tOr, tNot, tB, tTest, tChain, tCall, tMeth, tMake, sFld, tSeq, tNext, tAsg, gName, tIfS, tRet, tRetN, tDrop, tM0, tM1, tBM, tBM0, rAppend, rPop, tSl, tPart, tNoPart, rIxL, rIxT, rIxS, rSlS, rSlL, rCat, iRng3, tRevL, tDisp, tPairs, tDGet, sDPut, gTup, gCons, gNil, gSub, gAttr, rSetL, tv, upd_same, upd_upd, List.length_cons, List.length_nil, Nat.reduceAdd, Nat.zero_add, lines, fk_Window T, lk_Window, inj_Window, hp1]
        refine ⟨sline ht, ?_⟩
        by_cases hw : (t.length : Int) < w
        · rw [if_pos hw]
          intro q hq
          have e0 : f2 = 0 := by
            rw [← ef]
            exact if_pos (by omega)
          subst e0
          obtain ⟨nq, hq1⟩ := un hq
          refine k q _ (s1.free hq1) ((Fx.of s1).trans (Fx.nw (Fx.upd List.mem_cons_self (nt_ins hp1)) hq)) ⟨dx, by rw [upd_ne nq, upd_same]⟩ ?_
          rw [upd_same]
          have e1 : shownW w 0 t = t := if_pos (by omega)
          have e2 : colW w 0 t.length c = c := if_pos (by omega)
          rw [e1, e2]
        · rw [if_neg hw]
          have f2b : 0 ≤ f2 ∧ f2 ≤ c ∧ f2 = (if (if c < (if (t.length : Int) + 1 - (w - 2) < f then (t.length : Int) + 1 - (w - 2) else f) then c else (if (t.length : Int) + 1 - (w - 2) < f then (t.length : Int) + 1 - (w - 2) else f)) > c - (w - 2) + 1 then
              (if c < (if (t.length : Int) + 1 - (w - 2) < f then (t.length : Int) + 1 - (w - 2) else f) then c else (if (t.length : Int) + 1 - (w - 2) < f then (t.length : Int) + 1 - (w - 2) else f)) else c - (w - 2) + 1) := by
            have e : firstW w f t.length c = max (c - (w - 2) + 1) (min (min f (t.length + 1 - (w - 2))) c) := if_neg (by omega)
            rw [← ef, e]
            refine ⟨by omega, by omega, ?_⟩
            split <;> split <;> omega
          let L : List Nat := if f2 > 0 then [60] else [32]
          let R : List Nat := if f2 + (w - 2) < t.length then [62] else [32]
          let Mid : Option V → Option V → L2.St → Hp → Prop := fun l r σ' H' => σ' = [some (.ref x), some (tv t), some (.int c), some (.int ((w : Int) - 2)), l, r, none] ∧ WinAt K H' x w f2 ∧ Fx [x] H1 H'
          refine ⟨sline ht, Mid none none, ?_, ?_⟩
          · walk_at "rd"
            simp only [List.getElem?_cons_zero, List.getElem?_cons_succ, List.set_cons_zero, List.set_cons_succ, List.cons_append, List.nil_append, List.append_nil, Option.some.injEq, V.int.injEq, V.str.injEq, V.bl.injEq, V.ref.injEq, List.cons.injEq, HO.ins.injEq, HO.lst.injEq, HO.tup.injEq, S_inj, ofS_inj, String.reduceEq, ex_eq, ex_eq', ex_eq0, tLc_eq, tFor_eq, iStr, iRng1, iRng2, iList, iTup, tVar, tC, tOp, tCons, tNil, tCB, tFld, tCallS, tMethW, tMakeS, WE, wKeep, tLits, tLst, tTup, wipe, rI, rI0, rU, rEq, rNe, scII, scSS, scBB, scNN, scNI, scNS, scNB, scIN, scSN, scBN, scIS, scSI, if_tt, if_ff, and_true, true_and, and_assoc, exists_and_left, exists_and_right, exists_const, cxK, decide_true, decide_false, Bool.not_true, Bool.not_false, eq_self_iff_true, Bool.true_eq_false, Bool.false_eq_true, if_true, if_false, reduceCtorEq, S_len, S_one, S_tl, decide_eq_true_eq, tUn, tAndV, tOrV, tNotV, tIf, tAnd, tOr, tNot, tB, tTest, tChain, tCall, tMeth, tMake, sFld, tSeq, tNext, tAsg, gName, tIfS, tRet, tRetN, tDrop, tM0, tM1, tBM, tBM0, rAppend, rPop, tSl, tPart, tNoPart, rIxL, rIxT, rIxS, rSlS, rSlL, rCat, iRng3, tRevL, tDisp, tPairs, tDGet, sDPut, gTup, gCons, gNil, gSub, gAttr, rSetL, tv, upd_same, upd_upd, List.length_cons, List.length_nil, Nat.reduceAdd, Nat.zero_add, lines, fk_Window T, lk_Window, inj_Window, hp1]
            rw [← f2b.2.2]
            exact ⟨rfl, ⟨dx, upd_same⟩, Fx.upd List.mem_cons_self (nt_ins hp1)⟩
          · rintro σ' H2 ⟨rfl, ⟨dx2, hp2⟩, f2x⟩
            walk_at "rd"
            refine ⟨Mid (some (tv L)) none, ?_, ?_⟩
            · walk_at "rd"
              simp only [List.getElem?_cons_zero, List.getElem?_cons_succ, List.set_cons_zero, List.set_cons_succ, List.cons_append, List.nil_append, List.append_nil, Option.some.injEq, V.int.injEq, V.str.injEq, V.bl.injEq, V.ref.injEq, List.cons.injEq, HO.ins.injEq, HO.lst.injEq, HO.tup.injEq, S_inj, ofS_inj, String.reduceEq, ex_eq, ex_eq', ex_eq0, tLc_eq, tFor_eq, iStr, iRng1, iRng2, iList, iTup, tVar, tC, tOp, tCons, tNil, tCB, tFld, tCallS, tMethW, tMakeS, WE, wKeep, tLits, tLst, tTup, wipe, rI, rI0, rU, rEq, rNe, scII, scSS, scBB, scNN, scNI, scNS, scNB, scIN, scSN, scBN, scIS, scSI, if_tt, if_ff, and_true, true_and, and_assoc, exists_and_left, exists_and_right, exists_const, cxK, decide_true, decide_false, Bool.not_true, Bool.not_false, eq_self_iff_true, Bool.true_eq_false, Bool.false_eq_true, if_true, if_false, reduceCtorEq, S_len, S_one, S_tl, decide_eq_true_eq, tUn, tAndV, tOrV, tNotV, tIf, tAnd, tOr, tNot, tB, tTest, tChain, tCall, tMeth, tMake, sFld, tSeq, tNext, tAsg, gName, tIfS, tRet, tRetN, tDrop, tM0, tM1, tBM, tBM0, rAppend, rPop, tSl, tPart, tNoPart, rIxL, rIxT, rIxS, rSlS, rSlL, rCat, iRng3, tRevL, tDisp, tPairs, tDGet, sDPut, gTup, gCons, gNil, gSub, gAttr, rSetL, tv, upd_same, upd_upd, List.length_cons, List.length_nil, Nat.reduceAdd, Nat.zero_add, lines, fk_Window T, lk_Window, inj_Window, hp2]
              by_cases z : 0 < f2
              · rw [if_pos z]
                refine ⟨?_, ⟨dx2, hp2⟩, f2x⟩
                have eL : L = [60] := if_pos z
                rw [eL]
                rfl
              · rw [if_neg z]
                refine ⟨?_, ⟨dx2, hp2⟩, f2x⟩
                have eL : L = [32] := if_neg z
                rw [eL]
                rfl
            · rintro σ' H3 ⟨rfl, ⟨dx3, hp3⟩, f3x⟩
              walk_at "rd"
              refine ⟨Mid (some (tv L)) (some (tv R)), ?_, ?_⟩
              · walk_at "rd"
                simp only [List.getElem?_cons_zero, List.getElem?_cons_succ, List.set_cons_zero, List.set_cons_succ, List.cons_append, List.nil_append, List.append_nil, Option.some.injEq, V.int.injEq, V.str.injEq, V.bl.injEq, V.ref.injEq, List.cons.injEq, HO.ins.injEq, HO.lst.injEq, HO.tup.injEq, S_inj, ofS_inj, String.reduceEq, ex_eq, ex_eq', ex_eq0, tLc_eq, tFor_eq, iStr, iRng1, iRng2, iList, iTup, tVar, tC, tOp, tCons, tNil, tCB, tFld, tCallS, tMethW, tMakeS, WE, wKeep, tLits, tLst, tTup, wipe, rI, rI0, rU, rEq, rNe, scII, scSS, scBB, scNN, scNI, scNS, scNB, scIN, scSN, scBN, scIS, scSI, if_tt, if_ff, and_true, true_and, and_assoc, exists_and_left, exists_and_right, exists_const, cxK, decide_true, decide_false, Bool.not_true, Bool.not_false, eq_self_iff_true, Bool.true_eq_false, Bool.false_eq_true, if_true, if_false, reduceCtorEq, S_len, S_one, S_tl, decide_eq_true_eq, tUn, tAndV, tOrV, tNotV, tIf, tAnd, tOr, tNot, tB, tTest, tChain, tCall, tMeth, tMake, sFld, tSeq, tNext, tAsg, gName, tIfS, tRet, tRetN, tDrop, tM0, tM1, tBM, tBM0, rAppend, rPop, tSl, tPart, tNoPart, rIxL, rIxT, rIxS, rSlS, rSlL, rCat, iRng3, tRevL, tDisp, tPairs, tDGet, sDPut, gTup, gCons, gNil, gSub, gAttr, rSetL, tv, upd_same, upd_upd, List.length_cons, List.length_nil, Nat.reduceAdd, Nat.zero_add, lines, fk_Window T, lk_Window, inj_Window, hp3]
                refine ⟨sline ht, ?_⟩
                by_cases z : f2 + ((w : Int) - 2) < (t.length : Int)
                · rw [if_pos z]
                  refine ⟨?_, ⟨dx3, hp3⟩, f3x⟩
                  have eR : R = [62] := if_pos z
                  rw [eR]
                  rfl
                · rw [if_neg z]
                  refine ⟨?_, ⟨dx3, hp3⟩, f3x⟩
                  have eR : R = [32] := if_neg z
                  rw [eR]
                  rfl
              · rintro σ' H4 ⟨rfl, ⟨dx4, hp4⟩, f4x⟩
                walk_at "rd"
                simp only [List.getElem?_cons_zero, List.getElem?_cons_succ, List.set_cons_zero, List.set_cons_succ, List.cons_append, List.nil_append, List.append_nil, Option.some.injEq, V.int.injEq, V.str.injEq, V.bl.injEq, V.ref.injEq, List.cons.injEq, HO.ins.injEq, HO.lst.injEq, HO.tup.injEq, S_inj, ofS_inj, String.reduceEq, ex_eq, ex_eq', ex_eq0, tLc_eq, tFor_eq, iStr, iRng1, iRng2, iList, iTup, tVar, tC, tOp, tCons, tNil, tCB, tFld, tCallS, tMethW, tMakeS, WE, wKeep, tLits, tLst, tTup, wipe, rI, rI0, rU, rEq, rNe, scII, scSS, scBB, scNN, scNI, scNS, scNB, scIN, scSN, scBN, scIS, scSI, if_tt, if_ff, and_true, true_and, and_assoc, exists_and_left, exists_and_right, exists_const, cxK, decide_true, decide_false, Bool.not_true, Bool.not_false, eq_self_iff_true, Bool.true_eq_false, Bool.false_eq_true, if_true, if_false, reduceCtorEq, S_len, S_one, S_tl, decide_eq_true_eq, tUn, tAndV, tOrV, tNotV, tIf, tAnd, tOr, tNot, tB, tTest, tChain, tCall, tMeth, tMake, sFld, tSeq, tNext, tAsg, gName, tIfS, tRet, tRetN, tDrop, tM0, tM1, tBM, tBM0, rAppend, rPop, tSl, tPart, tNoPart, rIxL, rIxT, rIxS, rSlS, rSlL, rCat, iRng3, tRevL, tDisp, tPairs, tDGet, sDPut, gTup, gCons, gNil, gSub, gAttr, rSetL, tv, upd_same, upd_upd, List.length_cons, List.length_nil, Nat.reduceAdd, Nat.zero_add, lines, fk_Window T, lk_Window, inj_Window, hp4]
                have ec : cutS (S t) (some f2) (some (f2 + ((w : Int) - 2))) = S ((t.drop f2.toNat).take (w - 2)) := by
                  rw [cut_S2 t f2 _ f2b.1 (by omega) (by omega), show (f2 + ((w : Int) - 2)).toNat - f2.toNat = w - 2 by omega]
                rw [ec, S_len]
                obtain ⟨pt, hpt⟩ : ∃ pt : List Nat, (t.drop f2.toNat).take (w - 2) = pt := ⟨_, rfl⟩
                rw [hpt]
                have lp : pt.length ≤ w - 2 := by
                  rw [← hpt]
                  exact List.length_take_le _ _
                have lL : L.length = 1 := by
                  show (if f2 > 0 then [60] else [32]).length = 1
                  split <;> rfl
                have lR : R.length = 1 := by
                  show (if f2 + ((w : Int) - 2) < t.length then [62] else [32]).length = 1
                  split <;> rfl
                have mm := mul_small (c := 32) (k := (w : Int) - 2 - (pt.length : Nat)) (by omega) (by omega)
                have e32 : (" " : Str) = S [32] := by decide +kernel
                rw [e32]
                refine ⟨sline ht, sline (by omega), sline (by omega), ⟨_, _, rfl, rfl, mm.1, ?_⟩⟩
                rw [mm.2, show ((w : Int) - 2 - (pt.length : Nat)).toNat = w - 2 - pt.length by omega]
                refine ⟨_, rfl, ?_, ?_, ?_⟩
                · rw [S_app, S_len, S_len, List.length_append, List.length_replicate]
                  exact sline (by omega)
                · rw [S_app, S_app, S_len, List.length_append, List.length_append, List.length_replicate]
                  exact sline (by omega)
                · simp only [List.getElem?_cons_zero, List.getElem?_cons_succ, List.set_cons_zero, List.set_cons_succ, List.cons_append, List.nil_append, List.append_nil, Option.some.injEq, V.int.injEq, V.str.injEq, V.bl.injEq, V.ref.injEq, List.cons.injEq, HO.ins.injEq, HO.lst.injEq, HO.tup.injEq, S_inj, ofS_inj, String.reduceEq, ex_eq, ex_eq', ex_eq0, tLc_eq, tFor_eq, iStr, iRng1, iRng2, iList, iTup, tVar, tC, tOp, tCons, tNil, tCB, tFld, tCallS, tMethW, tMakeS, WE, wKeep, tLits, tLst, tTup, wipe, rI, rI0, rU, rEq, rNe, scII, scSS, scBB, scNN, scNI, scNS, scNB, scIN, scSN, scBN, scIS, scSI, if_tt, if_ff, and_true, true_and, and_assoc, exists_and_left, exists_and_right, exists_const, cxK, decide_true, decide_false, Bool.not_true, Bool.not_false, eq_self_iff_true, Bool.true_eq_false, Bool.false_eq_true, if_true, if_false, reduceCtorEq, S_len, S_one, S_tl, decide_eq_true_eq, tUn, tAndV, tOrV, tNotV, tIf, tAnd, tOr, tNot, tB, tTest, tChain, tCall, tMeth, tMake, sFld, tSeq, tNext, tAsg, gName, tIfS, tRet, tRetN, tDrop, tM0, tM1, tBM, tBM0, rAppend, rPop, tSl, tPart, tNoPart, rIxL, rIxT, rIxS, rSlS, rSlL, rCat, iRng3, tRevL, tDisp, tPairs, tDGet, sDPut, gTup, gCons, gNil, gSub, gAttr, rSetL, tv, upd_same, upd_upd, List.length_cons, List.length_nil, Nat.reduceAdd, Nat.zero_add, lines, fk_Window T, lk_Window, inj_Window, hp4]
                  intro q hq
                  refine k q _ (s1.free (f4x.free hq)) (((Fx.of s1).trans f4x).nw hq) ⟨dx4, same_new hq _ _ hp4⟩ ?_
                  rw [upd_same]
                  have e1 : shownW w f2 t = L ++ pt ++ List.replicate (w - 2 - pt.length) 32 ++ R := by
                    unfold shownW
                    rw [if_neg (by omega), hpt]
                  have e2 : colW w f2 t.length c = c - f2 + 1 := if_neg (by omega)
                  rw [e1, e2, S_app, S_app, S_app]
      · rw [if_neg hc] at k ⊢
        exact fun H' s => k H' (s1.trans s)
    · rw [if_neg ok] at k ⊢
      exact k
end
end LH
/-! ## L32: the law of windows -/
namespace LH
open PySem PySem.Spec PyProof.Rows L2
def spTold (K : PySem.W.Frag) : Sp := fun vs H Q _ => ∃ (wv one two : V), vs = [wv, one, two] ∧
  ((wv = .non ∧ ∃ n : Int, two = .int n ∧ ¬ (4 ≤ n ∧ n ≤ 400) ∧ ∀ v H', Same H H' → IsRef H' "size" v → Q v H') ∨
   ∃ (x : Addr) (w : Nat) (f : Int) (t : List Nat) (c : Int), wv = .ref x ∧ one = tv t ∧ two = .int c ∧ WinAt K H x w f ∧ 4 ≤ w ∧ w ≤ 400 ∧ 0 ≤ f ∧ t.length ≤ 100000 ∧
    if okText t = true then (if 0 ≤ c ∧ c ≤ t.length then
      (∀ q H', H q = none → Fx [x] H H' → WinAt K H' x w (firstW w f t.length c) → H' q = some (.tup [tv (shownW w (firstW w f t.length c) t), .int (colW w (firstW w f t.length c) t.length c)]) → Q (.ref q) H')
      else ∀ v H', Same H H' → IsRef H' "place" v → Q v H') else ∀ v H', Same H H' → IsRef H' "text" v → Q v H')
def spFirst : Sp := fun vs H Q _ => ∃ (f : Int) (n : Nat) (c : Int) (r : Int), vs = [.int f, .int (n : Nat), .int c, .int r] ∧ 1 ≤ r ∧ Q (.int (max (c - r + 1) (min (min f (n + 1 - r)) c))) H
theorem Fx.at_new {F : List Addr} {H H1 : Hp} {q : Addr} {o : HO} (x : Fx F H H1) (h : H q = none) : Fx F H (L2.upd H1 q o) := fun c u e => by
  have ne : c ≠ q := ne_of_none e h
  refine ⟨?_, fun n => ?_⟩
  · obtain ⟨o', e'⟩ := (x c u e).1
    exact ⟨o', by rw [upd_ne ne]; exact e'⟩
  · rw [upd_ne ne]
    exact (x c u e).2 n
/-- a comprehension whose elements are drawn -/
theorem lcb_town {K : PySem.W.Frag} {g : TG} {te : TE} {vs : List Nat} {σ : L2.St} {H : Hp} {Q : VK} {a p : Addr} {ns : List Int} {z n : Nat} (P : V → Prop) (D0 : Dr K H a p ns z) (hz : n ≤ 1000)
    (hs : ∀ (i : Nat) H', i < n → Fx [p] H H' → Dr K H' a p ns (z + i) → ∀ Y : V → Hp → Prop, (∀ v H4, P v → Fx [p] H' H4 → Dr K H4 a p ns (z + i + 1) → Y v H4) → g (.int (0 + (i : Nat))) (wipe σ vs) H' fun σ2 H2 => wipe σ2 vs = wipe σ vs ∧ te σ2 H2 Y)
    (hd : ∀ D acc H', H D = none → Fx [p] H H' → Dr K H' a p ns (z + n) → H' D = some (.lst acc) → acc.length = n → (∀ v ∈ acc, P v) → Q (.ref D) H') : LcB (Itr 0 n) g tYes te vs σ H Q := by
  intro D hD
  have pD := D0.ne hD
  have ap := D0.new hD
  refine lc_it (n := n) (walk_rng (lo := 0)) (fun i H' => Fx [p] H H' ∧ Dr K H' a p ns (z + i) ∧ ∃ acc, H' D = some (.lst acc) ∧ acc.length = i ∧ ∀ v ∈ acc, P v) ⟨Fx.new hD, D0.same (same_new hD), [], upd_same, rfl, fun v hv => absurd hv List.not_mem_nil⟩ (fun i H' _ _ => trivial) ?_ ?_
  · rintro i x H1 H2 hi ⟨f, Di, acc, e, la, ra⟩ ⟨rfl, hx⟩
    rw [List.getElem?_map, List.getElem?_range hi] at hx
    have ex : V.int (0 + (i : Int)) = x := Option.some.inj hx
    subst ex
    refine hs i _ hi f Di _ fun v H4 pv f4 D4 => ⟨acc, f4.at e (by simp [pD.symm]), slt (by omega), (f.trans f4).at_new hD, ?_, acc ++ [v], upd_same, by rw [List.length_append, la]; rfl, fun u hu => ?_⟩
    · have e4 := f4.at e (by simp [pD.symm])
      exact D4.fy (F := [D]) (Fx.upd List.mem_cons_self (nt_lst e4)) ap (by simp [pD])
    · rcases List.mem_append.mp hu with h | h
      · exact ra u h
      · rw [List.mem_singleton.mp h]
        exact pv
  · rintro H' ⟨f, Dn, acc, e, la, ra⟩
    exact hd D acc H' hD f Dn e la ra
theorem sign27 {j : Nat} (h : j < 27) : ∃ c, (("abcdefghijklmnopqrstuvwxyz " : Str).cps.toList)[j]? = some c ∧ isSign [c] = true := by
  have : ∀ j : Fin 27, (match (("abcdefghijklmnopqrstuvwxyz " : Str).cps.toList)[(j : Nat)]? with | some c => isSign [c] | none => false) = true := by decide +kernel
  have z := this ⟨j, h⟩
  cases e : (("abcdefghijklmnopqrstuvwxyz " : Str).cps.toList)[j]? with
  | none =>
    rw [show (((⟨j, h⟩ : Fin 27) : Nat)) = j from rfl, e] at z
    cases z
  | some c =>
    rw [show (((⟨j, h⟩ : Fin 27) : Nat)) = j from rfl, e] at z
    exact ⟨c, rfl, z⟩
theorem signs_of : ∀ {acc : List V}, (∀ v ∈ acc, ∃ c : Nat, v = .str (S [c]) ∧ isSign [c] = true) → ∃ cs : List Nat, acc = (cs.map fun c => S [c]).map V.str ∧ cs.length = acc.length ∧ (cs.all fun c => isSign [c]) = true
  | [], _ => ⟨[], rfl, rfl, rfl⟩
  | v :: acc, h => by
    obtain ⟨c, rfl, ic⟩ := h v List.mem_cons_self
    obtain ⟨cs, rfl, l, i⟩ := signs_of (acc := acc) fun u hu => h u (List.mem_cons_of_mem _ hu)
    refine ⟨c :: cs, rfl, by rw [List.length_cons, List.length_cons, l], ?_⟩
    rw [List.all_cons, ic, i]
    rfl
theorem mul_xy {d : Int} (h0 : 0 ≤ d) (h1 : d < 9) : MulOk ("XY" : Str) d ∧ ∃ l : List Nat, Txt.mul ("XY" : Str) d = S l ∧ l.length ≤ 16 ∧ (l.all fun c => isSign [c]) = true := by
  have e2 : ("XY" : Str).length = 2 := by decide +kernel
  refine ⟨⟨?_, fun n _ => ?_, fun n _ => ?_⟩, (Txt.mul ("XY" : Str) d).cps.toList, rfl, ?_⟩
  · rw [decide_eq_false (by omega), decide_eq_false (by omega)]
    rfl
  · rw [e2]
    have : (2 : Int) ≤ (2 ^ 63 - 1) / d := by
      rw [Int.le_ediv_iff_mul_le (by omega)]
      omega
    show ¬ ((2 : Nat) : Int) > _
    omega
  · rw [e2]
    unfold Builtin.Str.tooLong
    have : 2 * d.toNat ≤ sizeLine := sline (by omega)
    exact decide_eq_false (by omega)
  · have : ∀ j : Fin 9, (Txt.mul ("XY" : Str) ((j : Nat) : Int)).cps.toList.length ≤ 16 ∧ ((Txt.mul ("XY" : Str) ((j : Nat) : Int)).cps.toList.all fun c => isSign [c]) = true := by decide +kernel
    have z := this ⟨d.toNat, by omega⟩
    rw [show (((⟨d.toNat, by omega⟩ : Fin 9) : Nat) : Int) = d from Int.toNat_of_nonneg h0] at z
    exact z
theorem ok200 {t : List Nat} (h : (t.all fun c => isSign [c]) = true) (l : t.length ≤ 200) : okText t = true := by
  unfold okText
  rw [h, decide_eq_true (by omega)]
  rfl
theorem shownW_asc {w : Nat} {f : Int} {t : List Nat} (h : (t.all fun c => isSign [c]) = true) : Asc (shownW w f t) := by
  have ht : ∀ c ∈ t, c < 128 := fun c hc => isSign_lt (List.all_eq_true.mp h c hc)
  unfold shownW
  split
  · exact ht
  · intro c hc
    rcases List.mem_append.mp hc with hc | hc
    · rcases List.mem_append.mp hc with hc | hc
      · rcases List.mem_append.mp hc with hc | hc
        · split at hc <;> rw [List.mem_singleton.mp hc] <;> omega
        · exact ht c (List.mem_of_mem_drop (List.mem_of_mem_take hc))
      · rw [List.eq_of_mem_replicate hc]
        omega
    · split at hc <;> rw [List.mem_singleton.mp hc] <;> omega
theorem dp_two {K : PySem.W.Frag} {H : Hp} {q : Addr} {t : List Nat} {c : Int} (h : H q = some (.tup [tv t, .int c])) : Dp K H (.ref q) (.tuple [.str (S t), .int c]) := .tup (st_of h) (.cons (.str _) (.cons (.int _) .nil))
theorem shaped_two {t : List Nat} {c : Int} (h : Asc t) : SeqAt.shaped (.tuple [.str (S t), .int c]) = true := by
  show (PyData.canLay0 (.tuple [.str (S t), .int c]) && decide (PyData.depth (.tuple [.str (S t), .int c]) ≤ 64)) = true
  simp only [PyData.canLay0, PyData.canLayAll0, PyData.depth, PyData.depthAll, strOk_asc h, Bool.and_self]
  rfl
theorem all_take {t : List Nat} {n : Nat} (h : (t.all fun c => isSign [c]) = true) : ((t.take n).all fun c => isSign [c]) = true := List.all_eq_true.mpr fun c hc => List.all_eq_true.mp h c (List.mem_of_mem_take hc)
def spLaw (K : PySem.W.Frag) : Sp := fun vs H Q _ => ∃ (a : Addr) (ns : List Int), vs = [.ref a] ∧ SqL K H a (ns.map V.int) ∧ ns.length ≤ 63 ∧ ∀ H', Q (.bl true) H'
theorem len_law {K : PySem.W.Frag} (vs : List V) (H : Hp) (Q : VK) (E : XK) (h : spLaw K vs H Q E) : vs.length = p_law.length := by
  obtain ⟨a, ns, rfl, _⟩ := h
  rfl
section
variable {P : Program} {w : World} {K : PySem.W.Frag} {mg : Str → Option Value} {base : Heap}
theorem d_l_told (T : TX K mg) : Dn P w K mg base 4 "_law_told" p_l_told (spTold K) := by
  refine dn_of (fn_l_told T) (g__law_told T) sc_l_told bd_l_told (fun vs H Q E h => ?_) (fun cdv A outer s H vs Q E hr h => ?_)
  · obtain ⟨wv, one, two, rfl, _⟩ := h
    rfl
  · obtain ⟨wv, one, two, rfl, h⟩ := h
    refine ⟨_, (pss_cons (ps_set (i := 3) sc_l_told.nd rfl (Or.inl rfl) pe_non) (pss_cons (ps_set (i := 4) sc_l_told.nd rfl (Or.inl rfl) pe_non) (pss_cons (ps_try_keep (i := 5) rfl rfl rfl sc_l_told.nd rfl rfl ⟨rfl, by decide, .inl (g_HandError T)⟩ (fun W pn xe tk _ => (pss_one (ps_set (i := 4) sc_l_told.nd rfl (Or.inl rfl) (pe_ifExp (pt_cmpR op_isN (pv 0) pe_non (nomark _)) (pe_cmpR op_isN (pnS (d_Window_init T) (hr.mono (by decide)) (fun σ => passAt tk σ) (pa_cons (pv 2) pa_nil)) pe_non (nomark _)) (pmS (d_Window_view T) (hr.mono (by decide)) (fun σ => passAt tk σ) (pv 0) (pa_cons (pv 1) (pa_cons (pv 2) pa_nil))))))) (fun a oe cls d pn hz hf => (pss_one (ps_set (i := 3) sc_l_told.nd rfl (Or.inl rfl) (pv 5))))) (pss_one (ps_ret (pe_ifExp (pt_cmpR op_isN (pv 3) pe_non (nomark _)) (pv 4) (pc (d_l_refusal T) (hr.mono (by decide)) px (pa_cons (pv 3) pa_nil)))))))), ?_⟩
    walk_at "rd"
    have lt : 5 < 6 := by decide
    rcases h with ⟨rfl, n, rfl, hn, q⟩ | ⟨x, w, f, t, c, rfl, rfl, rfl, R, w4, w400, hf, ht, q⟩
    · walk_at "rd"
      intro y dy hy hdy nyd
      refine ⟨y, dy, n, rfl, upd_same, ?_⟩
      rw [if_neg hn]
      refine rf_keep (xm_BadSize T) lt fun a H' s na => ?_
      walk_at "rd"
      refine ref_end k_size ((same_new hdy).trans ((same_upd (Same.refl _) ?_).trans s)) na q
      rw [upd_ne (Ne.symm nyd)]
      exact hy
    · obtain ⟨dx, hp⟩ := id R
      simp only [List.getElem?_cons_zero, List.getElem?_cons_succ, List.set_cons_zero, List.set_cons_succ, List.cons_append, List.nil_append, List.append_nil, Option.some.injEq, V.int.injEq, V.str.injEq, V.bl.injEq, V.ref.injEq, List.cons.injEq, HO.ins.injEq, HO.lst.injEq, HO.tup.injEq, S_inj, ofS_inj, String.reduceEq, ex_eq, ex_eq', ex_eq0, tLc_eq, tFor_eq, iStr, iRng1, iRng2, iList, iTup, tVar, tC, tOp, tCons, tNil, tCB, tFld, tCallS, tMethW, tMakeS, WE, wKeep, tLits, tLst, tTup, wipe, rI, rI0, rU, rEq, rNe, scII, scSS, scBB, scNN, scNI, scNS, scNB, scIN, scSN, scBN, scIS, scSI, if_tt, if_ff, and_true, true_and, and_assoc, exists_and_left, exists_and_right, exists_const, cxK, decide_true, decide_false, Bool.not_true, Bool.not_false, eq_self_iff_true, Bool.true_eq_false, Bool.false_eq_true, if_true, if_false, reduceCtorEq, S_len, S_one, S_tl, decide_eq_true_eq, tUn, tAndV, tOrV, tNotV, tIf, tAnd, tOr, tNot, tB, tTest, tChain, tCall, tMeth, tMake, sFld, tSeq, tNext, tAsg, gName, tIfS, tRet, tRetN, tDrop, tM0, tM1, tBM, tBM0, rAppend, rPop, tSl, tPart, tNoPart, rIxL, rIxT, rIxS, rSlS, rSlL, rCat, iRng3, tRevL, tDisp, tPairs, tDGet, sDPut, gTup, gCons, gNil, gSub, gAttr, rSetL, tv, upd_same, upd_upd, List.length_cons, List.length_nil, Nat.reduceAdd, Nat.zero_add, lines, fk_Window T, lk_Window, inj_Window, hp]
      refine ⟨x, w, f, t, c, rfl, R, w4, w400, hf, ht, ?_⟩
      by_cases ok : okText t = true
      · rw [if_pos ok] at q ⊢
        by_cases hc : 0 ≤ c ∧ c ≤ (t.length : Int)
        · rw [if_pos hc] at q ⊢
          exact q
        · rw [if_neg hc] at q ⊢
          refine rf_keep (xm_BadPlace T) lt fun a H' s na => ?_
          walk_at "rd"
          exact ref_end k_place s na q
      · rw [if_neg ok] at q ⊢
        refine rf_keep (xm_BadText T) lt fun a H' s na => ?_
        walk_at "rd"
        exact ref_end k_text s na q
theorem d_l_first (T : TX K mg) : Dn P w K mg base 1 "_law_first" p_l_first spFirst := by
  refine dn_of (fn_l_first T) (g__law_first T) sc_l_first bd_l_first (fun vs H Q E h => ?_) (fun cdv A outer s H vs Q E hr h => ?_)
  · obtain ⟨f, n, c, r, rfl, _⟩ := h
    rfl
  · obtain ⟨f, n, c, r, rfl, hr1, k⟩ := h
    refine ⟨_, (pss_cons (ps_set (i := 0) sc_l_first.nd rfl (Or.inl rfl) (pe_callB (call_min2 rfl) (by rfl) (b_min T) (by decide +kernel) (pa_cons (pv 0) (pa_cons (pe_op op_sub (pe_op op_add (pv 1) pe_int) (pv 3)) pa_nil)))) (Evl.pss_cut (ps_while (passes_of rfl) (pt_cmpR op_lt (pv 2) (pv 0) (nomark _)) (pss_one (ps_set (i := 0) sc_l_first.nd rfl (Or.inl rfl) (pe_op op_sub (pv 0) pe_int)))) (Evl.pss_cut (ps_while (passes_of rfl) (pt_cmpR op_gt (pv 2) (pe_op op_sub (pe_op op_add (pv 0) (pv 3)) pe_int) (nomark _)) (pss_one (ps_set (i := 0) sc_l_first.nd rfl (Or.inl rfl) (pe_op op_add (pv 0) pe_int)))) (pss_one (ps_ret (pv 0)))))), ?_⟩
    walk_at "rd"
    obtain ⟨g, hg⟩ : ∃ g : Int, min f ((n : Int) + 1 - r) = g := ⟨_, rfl⟩
    have eg : (if (n : Int) + 1 - r < f then (n : Int) + 1 - r else f) = g := by
      rw [← hg]
      split <;> omega
    rw [eg]
    rw [hg] at k
    refine ⟨fun σ' H' => σ' = [some (.int (min g c)), some (.int (n : Nat)), some (.int c), some (.int r)] ∧ H' = H, ?_, ?_⟩
    · refine ⟨fun m σ' H' => ∃ j : Int, σ' = [some (.int j), some (.int (n : Nat)), some (.int c), some (.int r)] ∧ H' = H ∧ min j c = min g c ∧ m = (j - c).toNat, ⟨_, g, rfl, rfl, rfl, rfl⟩, ?_⟩
      rintro m σ' H' ⟨j, rfl, rfl, e, rfl⟩
      walk_at "rd"
      by_cases h : c < j
      · rw [if_pos h]
        exact ⟨fun σ' H2 => σ' = [some (.int (j - 1)), some (.int (n : Nat)), some (.int c), some (.int r)] ∧ H2 = H', fun σ' H2 ⟨e1, e2⟩ => ⟨(j - 1 - c).toNat, by omega, j - 1, e1, e2, by omega, rfl⟩, rfl, rfl⟩
      · rw [if_neg h]
        omega
    · rintro σ' H' ⟨rfl, rfl⟩
      walk_at "rd"
      refine ⟨fun σ' H2 => σ' = [some (.int (max (c - r + 1) (min g c))), some (.int (n : Nat)), some (.int c), some (.int r)] ∧ H2 = H', ?_, ?_⟩
      · refine ⟨fun m σ' H2 => ∃ j : Int, σ' = [some (.int j), some (.int (n : Nat)), some (.int c), some (.int r)] ∧ H2 = H' ∧ max (c - r + 1) j = max (c - r + 1) (min g c) ∧ m = (c - r + 1 - j).toNat, ⟨_, min g c, rfl, rfl, rfl, rfl⟩, ?_⟩
        rintro m σ' H2 ⟨j, rfl, rfl, e, rfl⟩
        walk_at "rd"
        by_cases h : j + r - 1 < c
        · rw [if_pos h]
          exact ⟨fun σ' H3 => σ' = [some (.int (j + 1)), some (.int (n : Nat)), some (.int c), some (.int r)] ∧ H3 = H2, fun σ' H3 ⟨e1, e2⟩ => ⟨(c - r + 1 - (j + 1)).toNat, by omega, j + 1, e1, e2, by omega, rfl⟩, rfl, rfl⟩
        · rw [if_neg h]
          omega
      · rintro σ' H2 ⟨rfl, rfl⟩
        walk_at "rd"
        exact k
theorem d_law (T : TX K mg) : BodyOk P w K mg base n_law "law" s_law (He.fAd K ("law", none)) 4 (spLaw K) := by
  intro cdv A outer s H vs Q E hr h
  · obtain ⟨a, ns, rfl, hS, hl, K0⟩ := h
    refine ⟨_, (pss_cons (ps_set (i := 1) sc_law.nd rfl (Or.inr rfl) (pe_lst pa_nil)) (pss_cons (ps_set (i := 2) sc_law.nd rfl (Or.inl rfl) (pe_op op_add pe_int (pc (d_l_draw T) (hr.mono (by decide)) px (pa_cons (pv 0) (pa_cons (pv 1) (pa_cons pe_int pa_nil)))))) (pss_cons (ps_set (i := 3) sc_law.nd rfl (Or.inl rfl) (pn (d_Window_init T) (hr.mono (by decide)) px (pa_cons (pv 2) pa_nil))) (pss_cons (ps_set (i := 4) sc_law.nd rfl (Or.inr rfl) pe_str) (pss_cons (ps_set (i := 5) sc_law.nd rfl (Or.inl rfl) (pe_join pe_str (pe_lc (own := [("_law_k", 6)]) rfl sc_law.nd (pi_range1 rfl (b_range T) (pa_cons (pc (d_l_draw T) (hr.mono (by decide)) px (pa_cons (pv 0) (pa_cons (pv 1) (pa_cons pe_int pa_nil)))) pa_nil)) (blkOk_by (own := [("_law_k", 6)]) (N := n_law) (sc := defScope s_law) (by decide +kernel)) (fun _ _ _ _ _ => (pg_name (i := 6) sc_law.nd rfl (Or.inl rfl))) (fun _ _ _ _ _ => pts_nil) (fun _ _ _ _ _ => (pe_ix ix_str (pv 4) (pc (d_l_draw T) (hr.mono (by decide)) px0 (pa_cons (pv 0) (pa_cons (pv 1) (pa_cons pe_int pa_nil)))) (fun _ _ => rfl)))))) (pss_cons (ps_set (i := 7) sc_law.nd rfl (Or.inl rfl) pe_int) (pss_cons (ps_set (i := 8) sc_law.nd rfl (Or.inl rfl) pe_int) (Evl.pss_cut (ps_for (passes_of rfl) rfl (pi_range1 rfl (b_range T) (pa_cons (pc (d_l_draw T) (hr.mono (by decide)) px (pa_cons (pv 0) (pa_cons (pv 1) (pa_cons pe_int pa_nil)))) pa_nil)) (pg_name (i := 6) sc_law.nd rfl (Or.inl rfl)) (pss_cons (ps_set (i := 9) sc_law.nd rfl (Or.inl rfl) (pc (d_l_draw T) (hr.mono (by decide)) px (pa_cons (pv 0) (pa_cons (pv 1) (pa_cons pe_int pa_nil))))) (Evl.pss_cut (ps_if (pt_cmpR op_eq (pv 9) pe_int (nomark _)) (pss_one (ps_set (i := 5) sc_law.nd rfl (Or.inl rfl) (pe_slice sl_str (pv 5) po_none (po_some (pc (d_l_draw T) (hr.mono (by decide)) px (pa_cons (pv 0) (pa_cons (pv 1) (pa_cons (pe_op op_add (pe_callB call_len_str (by rfl) (b_len T) boot_len (pa_cons (pv 5) pa_nil)) pe_int) pa_nil)))))))) pss_nil) (Evl.pss_cut (ps_if (pt_cmpR op_eq (pv 9) pe_int (nomark _)) (pss_one (ps_set (i := 5) sc_law.nd rfl (Or.inl rfl) (pe_slice sl_str (pe_op op_add_str (pv 5) (pe_op op_repS pe_str (pc (d_l_draw T) (hr.mono (by decide)) px (pa_cons (pv 0) (pa_cons (pv 1) (pa_cons pe_int pa_nil)))))) po_none (po_some pe_int)))) pss_nil) (pss_cons (ps_set (i := 7) sc_law.nd rfl (Or.inl rfl) (pe_op op_add (pv 7) (pc (d_l_pick T) (hr.mono (by decide)) px (pa_cons (pv 0) (pa_cons (pv 1) (pa_cons (pe_lst (pa_cons (pe_un un_neg pe_int) (pa_cons pe_int (pa_cons (pe_un un_neg pe_int) (pa_cons pe_int (pa_cons (pe_un un_neg pe_int) (pa_cons pe_int (pa_cons (pe_un un_neg pe_int) (pa_cons pe_int pa_nil))))))))) pa_nil)))))) (pss_cons (ps_set (i := 7) sc_law.nd rfl (Or.inl rfl) (pe_callB (call_max2 rfl) (by rfl) (b_max T) (by decide +kernel) (pa_cons pe_int (pa_cons (pe_callB (call_min2 rfl) (by rfl) (b_min T) (by decide +kernel) (pa_cons (pv 7) (pa_cons (pe_callB call_len_str (by rfl) (b_len T) boot_len (pa_cons (pv 5) pa_nil)) pa_nil))) pa_nil)))) (pss_cons (ps_set (i := 10) sc_law.nd rfl (Or.inl rfl) (pe_tup (pa_cons (pv 5) (pa_cons (pv 7) pa_nil)))) (Evl.pss_cut (ps_if (pt_cmpR op_lt (pe_callB call_len_str (by rfl) (b_len T) boot_len (pa_cons (pv 5) pa_nil)) (pv 2) (nomark _)) (pss_one (ps_set (i := 8) sc_law.nd rfl (Or.inl rfl) pe_int)) (pss_cons (ps_set (i := 11) sc_law.nd rfl (Or.inl rfl) (pe_op op_sub (pv 2) pe_int)) (Evl.pss_cut (ps_set (i := 8) sc_law.nd rfl (Or.inl rfl) (pc (d_l_first T) (hr.mono (by decide)) px (pa_cons (pv 8) (pa_cons (pe_callB call_len_str (by rfl) (b_len T) boot_len (pa_cons (pv 5) pa_nil)) (pa_cons (pv 7) (pa_cons (pv 11) pa_nil)))))) (Evl.pss_cut (ps_set (i := 12) sc_law.nd rfl (Or.inl rfl) (pe_ix ix_str pe_str (pe_callTy call_int1 (by rfl) (b_int T) (by decide +kernel) (pa_cons (pe_cmpR op_gt (pv 8) pe_int (nomark _)) pa_nil)) (fun _ _ => rfl))) (Evl.pss_cut (ps_set (i := 13) sc_law.nd rfl (Or.inl rfl) (pe_ix ix_str pe_str (pe_callTy call_int1 (by rfl) (b_int T) (by decide +kernel) (pa_cons (pe_cmpR op_lt (pe_op op_add (pv 8) (pv 11)) (pe_callB call_len_str (by rfl) (b_len T) boot_len (pa_cons (pv 5) pa_nil)) (nomark _)) pa_nil)) (fun _ _ => rfl))) (Evl.pss_cut (ps_set (i := 14) sc_law.nd rfl (Or.inl rfl) (pe_slice sl_str (pe_op op_add_str (pe_slice sl_str (pv 5) (po_some (pv 8)) (po_some (pe_op op_add (pv 8) (pv 11)))) (pe_op op_repS pe_str (pv 11))) po_none (po_some (pv 11)))) (pss_one (ps_set (i := 10) sc_law.nd rfl (Or.inl rfl) (pe_tup (pa_cons (pe_op op_add_str (pe_op op_add_str (pv 12) (pv 14)) (pv 13)) (pa_cons (pe_op op_add (pe_op op_sub (pv 7) (pv 8)) pe_int) pa_nil))))))))))) (Evl.pss_cut (ps_set (i := 15) sc_law.nd rfl (Or.inl rfl) (pc (d_l_told T) (hr.mono (by decide)) px (pa_cons (pv 3) (pa_cons (pv 5) (pa_cons (pv 7) pa_nil))))) (pss_one (ps_if (PW.pt (pw_or (pt_cmpR (op_neD hr.units) (pv 15) (pv 10) (nomark _)) (pw_or (PW.pt (pw_and (pt_cmpR op_lt (pv 7) (pe_callB call_len_str (by rfl) (b_len T) boot_len (pa_cons (pv 5) pa_nil)) (nomark _)) (pw_and1 (pt_cmpR (op_neD hr.units) (pe_ix ix_seq (pe_ix ix_tup (pv 15) pe_int (fun _ _ => rfl)) (pe_ix ix_tup (pv 15) pe_int (fun _ _ => rfl)) (fun _ _ => rfl)) (pe_ix ix_str (pv 5) (pv 7) (fun _ _ => rfl)) (nomark _))))) (pw_or1 (pt_cmpR op_gt (pe_callB call_len (by rfl) (b_len T) boot_len (pa_cons (pe_ix ix_tup (pv 15) pe_int (fun _ _ => rfl)) pa_nil)) (pv 2) (nomark _)))))) (pss_one (ps_ret pe_bl)) pss_nil))))))))))) (pss_cons (ps_set (i := 16) sc_law.nd rfl (Or.inl rfl) (pe_lst (pa_cons (pc (d_l_told T) (hr.mono (by decide)) px (pa_cons (pv 3) (pa_cons pe_str (pa_cons pe_int pa_nil)))) (pa_cons (pc (d_l_told T) (hr.mono (by decide)) px (pa_cons (pv 3) (pa_cons (pv 5) (pa_cons (pe_op op_add (pe_callB call_len_str (by rfl) (b_len T) boot_len (pa_cons (pv 5) pa_nil)) pe_int) pa_nil)))) (pa_cons (pc (d_l_told T) (hr.mono (by decide)) px (pa_cons (pv 3) (pa_cons (pv 5) (pa_cons (pe_un un_neg pe_int) pa_nil)))) pa_nil))))) (pss_cons (ps_if (pt_cmpR (op_neD hr.units) (pv 16) (pe_lst (pa_cons (pe_tup (pa_cons pe_str (pa_cons pe_str pa_nil))) (pa_cons (pe_tup (pa_cons pe_str (pa_cons pe_str pa_nil))) (pa_cons (pe_tup (pa_cons pe_str (pa_cons pe_str pa_nil))) pa_nil)))) (nomark _)) (pss_one (ps_ret pe_bl)) pss_nil) (pss_one (ps_ret (pe_cmpR (op_eqD hr.units) (pe_lc (own := [("_law_size", 17)]) rfl sc_law.nd (pi_tup (pe_tup (pa_cons pe_int (pa_cons pe_int (pa_cons pe_int pa_nil))))) (blkOk_by (own := [("_law_size", 17)]) (N := n_law) (sc := defScope s_law) (by decide +kernel)) (fun _ _ _ _ _ => (pg_name (i := 17) sc_law.nd rfl (Or.inl rfl))) (fun _ _ _ _ _ => pts_nil) (fun _ _ _ _ _ => (pc (d_l_told T) (hr.mono (by decide)) px0 (pa_cons pe_non (pa_cons pe_str (pa_cons (pv 17) pa_nil)))))) (pe_op op_rep (pe_lst (pa_cons (pe_tup (pa_cons pe_str (pa_cons pe_str pa_nil))) pa_nil)) pe_int) (nomark _)))))))))))))), ?_⟩
    walk_at "rd"
    refine ⟨by decide, fun p hp => ?_⟩
    have D0 : Dr K (upd H p (.lst [])) a p ns 0 := Dr.start hS hl hp
    refine ⟨a, p, 17, ns, 0, rfl, D0, by omega, by omega, by omega, fun d H1 d0 d1 F1 D1 => ⟨_, rfl, fun x xd hx hxd nxd => ⟨x, xd, _, rfl, upd_same, ?_⟩⟩⟩
    rw [if_pos (by omega)]
    obtain ⟨w, em, w1, w2⟩ : ∃ w : Nat, 4 + d = w ∧ 4 ≤ w ∧ w ≤ 20 := ⟨(4 + d).toNat, by omega, by omega, by omega⟩
    rw [em, Int.toNat_natCast]
    intro H2 F2 R2
    have sm : Same H1 (upd (upd H1 xd (.own x)) x (.ins (He.ga K "Window") xd [])) := (same_new hxd).trans (same_new (by rw [upd_ne nxd.symm]; exact hx))
    have D2 : Dr K H2 a p ns 1 := (D1.same sm).fy F2 (D1.new hx) (by simp [D1.ne hx])
    have apx := D1.new hx
    have pnx := D1.ne hx
    refine ⟨rfl, a, p, 61, ns, 1, rfl, D2, by omega, by omega, by omega, fun m H3 m0 m1 F3 D3 => ?_⟩
    obtain ⟨m, rfl⟩ : ∃ j : Nat, m = (j : Int) := ⟨m.toNat, by omega⟩
    refine ⟨_, rfl, by omega, by omega, ?_⟩
    rw [Int.toNat_natCast]
    refine lcb_town (fun v => ∃ c : Nat, v = .str (S [c]) ∧ isSign [c] = true) D3 (by omega) (fun i H4 hi f4 D4 Y hY => ?_) (fun L acc H4 hL f4 D4 eL la ra => ?_)
    · walk_at "rd"
      refine ⟨a, p, 27, ns, _, rfl, D4, by omega, by omega, by omega, fun g H5 g0 g1 F5 D5 => ⟨g, rfl, by decide +kernel, ?_⟩⟩
      obtain ⟨g, rfl⟩ : ∃ j : Nat, g = (j : Int) := ⟨g.toNat, by omega⟩
      obtain ⟨c, hc, ic⟩ := sign27 (j := g) (by omega)
      refine ⟨c, ?_, hY _ _ ⟨c, rfl, ic⟩ F5 D5⟩
      rw [atI_in (by omega) (by rw [show ("abcdefghijklmnopqrstuvwxyz " : Str).cps.toList.length = 27 by decide +kernel]; omega), Int.toNat_natCast]
      exact hc
    · obtain ⟨cs, ecs, lcs, ics⟩ := signs_of ra
      subst ecs
      have lm : cs.length = m := lcs.trans la
      have ej : Txt.join ("" : Str) (cs.map fun c => S [c]) = S cs := by
        show Builtin.Str.glued ("" : Str) _ = _
        rw [StrLaws.glued_eq_join]
        exact join_ones cs
      refine ⟨L, rfl, cs.map fun c => S [c], .inl (sq_of eL), ?_, ?_⟩
      · have e0 : ("" : Str).length = 0 := by decide +kernel
        rw [e0, Nat.mul_zero, Nat.add_zero, List.map_map]
        have es : ∀ l : List Nat, (l.map ((fun x : Str => x.length) ∘ fun c => S [c])).sum = l.length := fun l => by
          induction l with
          | nil => rfl
          | cons c l ih =>
            rw [List.map_cons, List.sum_cons, ih, List.length_cons]
            show (S [c]).length + _ = _
            rw [S_len]
            show 1 + l.length = _
            omega
        rw [es]
        omega
      rw [ej]
      have ap0 := apx
      have S4 : Sep K H4 a p ns (1 + 1 + m) [x] [] := by
        refine ⟨D4, apx, .inr List.not_mem_nil, by simp [pnx], List.not_mem_nil, fun c _ => List.not_mem_nil, fun c hc => ?_, fun c hc => absurd hc List.not_mem_nil⟩
        rw [List.mem_singleton.mp hc]
        obtain ⟨dx2, hp2⟩ := R2
        exact (F3.trans f4).old (by rw [hp2]; exact fun z => nomatch z)
      have R4 : WinAt K H4 x w 0 := by
        obtain ⟨dx2, hp2⟩ := R2
        exact ⟨dx2, (F3.trans f4).at hp2 (by simp [Ne.symm pnx])⟩
      let Inv : Nat → L2.St → Hp → Prop := fun i σ' H' => ∃ (t : List Nat) (c f : Int) (v6 v9 v10 v11 v12 v13 v14 v15 : Option V), σ' = [some (.ref a), some (.ref p), some (.int w), some (.ref x), some (.str "abcdefghijklmnopqrstuvwxyz "), some (tv t), v6, some (.int c), some (.int f), v9, v10, v11, v12, v13, v14, v15, none, none] ∧
        Sep K H' a p ns (70 + 4 * i) [x] [] ∧ WinAt K H' x w f ∧ 0 ≤ f ∧ (t.all fun c => isSign [c]) = true ∧ t.length ≤ 200 ∧ 0 ≤ c ∧ c ≤ t.length
      refine ⟨Inv 31, ?_, ?_⟩
      · walk_at "rd"
        refine ⟨a, p, 31, ns, _, rfl, S4.D, by omega, by omega, by omega, fun n H5 n0 n1 F5 D5 => ?_⟩
        obtain ⟨n, rfl⟩ : ∃ j : Nat, n = (j : Int) := ⟨n.toNat, by omega⟩
        have S5 := S4.draw F5 D5
        have R5 : WinAt K H5 x w 0 := by
          obtain ⟨dx2, hp2⟩ := R4
          exact ⟨dx2, F5.at hp2 (by simp [Ne.symm pnx])⟩
        refine ⟨_, rfl, by omega, by omega, ?_⟩
        rw [Int.toNat_natCast]
        refine forb_rng Inv ⟨cs, 0, 0, _, _, _, _, _, _, _, _, rfl, S5.mono (by omega), R5, Int.le_refl _, ics, by omega, Int.le_refl _, by omega⟩ ?_ ?_
        · rintro i σ' H' hi ⟨t, c, f, v6, v9, v10, v11, v12, v13, v14, v15, rfl, S6, R6, hf, ht, lt, hc, hn⟩
          walk_at "rd"
          refine ⟨a, p, 5, ns, _, rfl, S6.D, by omega, by omega, by omega, fun wy H6 w0 w1' F6 D6 => ?_⟩
          have S7 := S6.draw F6 D6
          have R7 : WinAt K H6 x w f := by
            obtain ⟨dx2, hp2⟩ := R6
            exact ⟨dx2, F6.at hp2 (by simp [Ne.symm pnx])⟩
          let B : Nat → L2.St → Hp → Prop := fun j σ' H' => ∃ t : List Nat, σ' = [some (.ref a), some (.ref p), some (.int w), some (.ref x), some (.str "abcdefghijklmnopqrstuvwxyz "), some (tv t), some (.int (0 + (i : Int))), some (.int c), some (.int f), some (.int wy), v10, v11, v12, v13, v14, v15, none, none] ∧
            Sep K H' a p ns (70 + 4 * i + j) [x] [] ∧ WinAt K H' x w f ∧ (t.all fun c => isSign [c]) = true ∧ t.length ≤ 200
          refine ⟨B 2, ?_, ?_⟩
          · walk_at "rd"
            by_cases h0 : wy = 0
            · rw [if_pos h0]
              refine ⟨sline (by omega), a, p, _, ns, _, rfl, S7.D, by omega, by omega, by omega, fun d H8 d0' d1' F8 D8 => ⟨d, rfl, sline (by omega), t.take d.toNat, ?_, S7.draw F8 D8, ?_, all_take ht, by rw [List.length_take]; omega⟩⟩
              · rw [cut_to _ _ d0']
              · obtain ⟨dx2, hp2⟩ := R7
                exact ⟨dx2, F8.at hp2 (by simp [Ne.symm pnx])⟩
            · rw [if_neg h0]
              exact ⟨t, rfl, S7.mono (by omega), R7, ht, lt⟩
          · rintro σ' H8 ⟨t2, rfl, S8, R8, ht2, lt2⟩
            walk_at "rd"
            refine ⟨B 3, ?_, ?_⟩
            · walk_at "rd"
              by_cases h1 : wy = 1
              · rw [if_pos h1]
                refine ⟨a, p, 9, ns, _, rfl, S8.D, by omega, by omega, by omega, fun d H9 d0' d1' F9 D9 => ?_⟩
                obtain ⟨mk, l, el, ll, al⟩ := mul_xy d0' d1'
                refine ⟨_, _, rfl, rfl, mk, ?_⟩
                rw [el]
                refine ⟨_, rfl, ?_, ?_, (t2 ++ l).take 200, ?_, S8.draw F9 D9, ?_, ?_, ?_⟩
                · rw [S_len]
                  exact sline (by omega)
                · rw [S_app, S_len, List.length_append]
                  exact sline (by omega)
                · rw [S_app, cut_to _ _ (by omega)]
                  rfl
                · obtain ⟨dx2, hp2⟩ := R8
                  exact ⟨dx2, F9.at hp2 (by simp [Ne.symm pnx])⟩
                · refine all_take ?_
                  rw [List.all_append, ht2, al]
                  rfl
                · rw [List.length_take]
                  omega
              · rw [if_neg h1]
                exact ⟨t2, rfl, S8.mono (by omega), R8, ht2, lt2⟩
            · rintro σ' H9 ⟨t3, rfl, S9, R9, ht3, lt3⟩
              walk_at "rd"
              refine ⟨by show 8 ≤ sizeLine; decide, fun p1 hp1 => ?_⟩
              refine (pick_new (xs := [V.int (-1), V.int 1, V.int (-1), V.int 1, V.int (-5), V.int 5, V.int (-40), V.int 40]) S9.D (by omega) (by simp) (by simp) fun j1 v1 H10 hj1 F10 D10 => ?_).2 p1 hp1
              obtain ⟨st, rfl⟩ : ∃ st : Int, v1 = .int st := by
                match j1, hj1 with
                | 0, hj => exact ⟨_, (Option.some.inj hj).symm⟩
                | 1, hj => exact ⟨_, (Option.some.inj hj).symm⟩
                | 2, hj => exact ⟨_, (Option.some.inj hj).symm⟩
                | 3, hj => exact ⟨_, (Option.some.inj hj).symm⟩
                | 4, hj => exact ⟨_, (Option.some.inj hj).symm⟩
                | 5, hj => exact ⟨_, (Option.some.inj hj).symm⟩
                | 6, hj => exact ⟨_, (Option.some.inj hj).symm⟩
                | 7, hj => exact ⟨_, (Option.some.inj hj).symm⟩
                | j + 8, hj => simp at hj
              have S10 := S9.draw F10 D10
              obtain ⟨dx10, hp10⟩ : WinAt K H10 x w f := by
                obtain ⟨dx2, hp2⟩ := R9
                exact ⟨dx2, F10.at hp2 (by simp [Ne.symm pnx])⟩
              obtain ⟨c2, ec2⟩ : ∃ c2 : Int, (if (if (t3.length : Int) < c + st then (t3.length : Int) else c + st) > 0 then (if (t3.length : Int) < c + st then (t3.length : Int) else c + st) else 0) = c2 := ⟨_, rfl⟩
              have c2b : 0 ≤ c2 ∧ c2 ≤ t3.length := by
                rw [← ec2]
                split <;> split <;> omega
              refine ⟨st, rfl, sline (by omega), ?_⟩
              rw [ec2]
              refine ⟨by show 2 ≤ sizeLine; decide, fun q2 hq2 => ?_⟩
              have s11 := same_new (o := .tup [V.str (S t3), .int c2]) hq2
              have S11 := S10.same s11
              have R11 : WinAt K _ x w f := ⟨dx10, s11 _ _ hp10⟩
              walk_at "rd"
              obtain ⟨f2, ef⟩ : ∃ f2 : Int, firstW w f t3.length c2 = f2 := ⟨_, rfl⟩
              have fb := firstW_in (w := w) (n := t3.length) (f := f) (c := c2) (by omega) hf c2b.1 c2b.2
              rw [ef] at fb
              let Mid : L2.St → Hp → Prop := fun σ' H' => ∃ (q : Addr) (v11 v12 v13 v14 : Option V), σ' = [some (.ref a), some (.ref p), some (.int w), some (.ref x), some (.str "abcdefghijklmnopqrstuvwxyz "), some (tv t3), some (.int (0 + (i : Int))), some (.int c2), some (.int f2), some (.int wy), some (.ref q), v11, v12, v13, v14, v15, none, none] ∧
                Sep K H' a p ns (70 + 4 * i + 4) [x] [] ∧ WinAt K H' x w f ∧ H' q = some (.tup [tv (shownW w f2 t3), .int (colW w f2 t3.length c2)])
              refine ⟨Mid, ?_, ?_⟩
              · walk_at "rd"
                refine ⟨sline (by omega), ?_⟩
                by_cases hw : (t3.length : Int) < w
                · rw [if_pos hw]
                  have e0 : f2 = 0 := by
                    rw [← ef]
                    exact if_pos (by omega)
                  refine ⟨q2, _, _, _, _, by rw [e0], S11.mono (by omega), R11, ?_⟩
                  rw [upd_same]
                  have e1 : shownW w f2 t3 = t3 := if_pos (by omega)
                  have e2 : colW w f2 t3.length c2 = c2 := if_pos (by omega)
                  rw [e1, e2]
                · rw [if_neg hw]
                  let Lf : List Nat := if f2 > 0 then [60] else [32]
                  let Rt : List Nat := if f2 + (w - 2) < t3.length then [62] else [32]
                  let M2 : Option V → Option V → Option V → L2.St → Hp → Prop := fun l r pt σ' H' => σ' = [some (.ref a), some (.ref p), some (.int w), some (.ref x), some (.str "abcdefghijklmnopqrstuvwxyz "), some (tv t3), some (.int (0 + (i : Int))), some (.int c2), some (.int f2), some (.int wy), some (.ref q2), some (.int ((w : Int) - 2)), l, r, pt, v15, none, none] ∧
                    Sep K H' a p ns (70 + 4 * i + 4) [x] [] ∧ WinAt K H' x w f
                  refine ⟨M2 v12 v13 v14, ?_, ?_⟩
                  · walk_at "rd"
                    refine ⟨sline (by omega), f, t3.length, c2, (w : Int) - 2, rfl, by omega, ?_⟩
                    have e : max (c2 - ((w : Int) - 2) + 1) (min (min f (t3.length + 1 - ((w : Int) - 2))) c2) = f2 := by
                      rw [← ef]
                      exact (if_neg (by omega)).symm
                    rw [e]
                    exact ⟨rfl, S11.mono (by omega), R11⟩
                  · rintro σ' H12 ⟨rfl, S12, R12⟩
                    walk_at "rd"
                    refine ⟨M2 (some (tv Lf)) v13 v14, ?_, ?_⟩
                    · walk_at "rd"
                      refine .inr ⟨by decide +kernel, ?_⟩
                      by_cases z : 0 < f2
                      · rw [if_pos z]
                        refine ⟨60, by decide +kernel, ?_, S12, R12⟩
                        have eL : Lf = [60] := if_pos z
                        rw [eL]
                      · rw [if_neg z]
                        refine ⟨32, by decide +kernel, ?_, S12, R12⟩
                        have eL : Lf = [32] := if_neg z
                        rw [eL]
                    · rintro σ' H13 ⟨rfl, S13, R13⟩
                      walk_at "rd"
                      refine ⟨M2 (some (tv Lf)) (some (tv Rt)) v14, ?_, ?_⟩
                      · walk_at "rd"
                        refine ⟨sline (by omega), .inr ⟨by decide +kernel, ?_⟩⟩
                        by_cases z : f2 + ((w : Int) - 2) < (t3.length : Int)
                        · rw [if_pos z]
                          refine ⟨62, by decide +kernel, ?_, S13, R13⟩
                          have eR : Rt = [62] := if_pos z
                          rw [eR]
                        · rw [if_neg z]
                          refine ⟨32, by decide +kernel, ?_, S13, R13⟩
                          have eR : Rt = [32] := if_neg z
                          rw [eR]
                      · rintro σ' H14 ⟨rfl, S14, R14⟩
                        walk_at "rd"
                        refine ⟨M2 (some (tv Lf)) (some (tv Rt)) (some (tv ((t3.drop f2.toNat).take (w - 2) ++ List.replicate (w - 2 - ((t3.drop f2.toNat).take (w - 2)).length) 32))), ?_, ?_⟩
                        · walk_at "rd"
                          have ec : cutS (S t3) (some f2) (some (f2 + ((w : Int) - 2))) = S ((t3.drop f2.toNat).take (w - 2)) := by
                            rw [cut_S2 t3 f2 _ fb.1 (by omega) (by omega), show (f2 + ((w : Int) - 2)).toNat - f2.toNat = w - 2 by omega]
                          rw [ec, S_len]
                          obtain ⟨pt, hpt⟩ : ∃ pt : List Nat, (t3.drop f2.toNat).take (w - 2) = pt := ⟨_, rfl⟩
                          rw [hpt]
                          have lp : pt.length ≤ w - 2 := by
                            rw [← hpt]
                            exact List.length_take_le _ _
                          have mm := mul_small (c := 32) (k := (w : Int) - 2) (by omega) (by omega)
                          have e32 : (" " : Str) = S [32] := by decide +kernel
                          rw [e32]
                          refine ⟨sline (by omega), _, _, rfl, rfl, mm.1, ?_⟩
                          rw [mm.2, show ((w : Int) - 2).toNat = w - 2 by omega]
                          refine ⟨_, rfl, ?_, ?_, ?_, S14, R14⟩
                          · rw [S_len, List.length_replicate]
                            exact sline (by omega)
                          · rw [S_app, S_len, List.length_append, List.length_replicate]
                            exact sline (by omega)
                          · rw [S_app, cut_to _ _ (by omega), show ((w : Int) - 2).toNat = w - 2 by omega, pad_take lp]
                        · rintro σ' H15 ⟨rfl, S15, R15⟩
                          walk_at "rd"
                          obtain ⟨pt, hpt⟩ : ∃ pt : List Nat, (t3.drop f2.toNat).take (w - 2) = pt := ⟨_, rfl⟩
                          rw [hpt]
                          have lp : pt.length ≤ w - 2 := by
                            rw [← hpt]
                            exact List.length_take_le _ _
                          have lL : Lf.length = 1 := by
                            show (if f2 > 0 then [60] else [32]).length = 1
                            split <;> rfl
                          have lR : Rt.length = 1 := by
                            show (if f2 + ((w : Int) - 2) < t3.length then [62] else [32]).length = 1
                            split <;> rfl
                          have lpd : (pt ++ List.replicate (w - 2 - pt.length) 32).length = w - 2 := by
                            rw [List.length_append, List.length_replicate]
                            omega
                          refine ⟨sline (by omega), ?_, by show 2 ≤ sizeLine; decide, fun q3 hq3 => ⟨q3, _, _, _, _, rfl, S15.same (same_new hq3), ?_, ?_⟩⟩
                          · rw [S_app, S_len, List.length_append]
                            exact sline (by omega)
                          · obtain ⟨dx2, hp2⟩ := R15
                            exact ⟨dx2, same_new hq3 _ _ hp2⟩
                          · rw [upd_same]
                            have e1 : shownW w f2 t3 = Lf ++ (pt ++ List.replicate (w - 2 - pt.length) 32) ++ Rt := by
                              unfold shownW
                              rw [if_neg (by omega), hpt, List.append_assoc Lf pt]
                            have e2 : colW w f2 t3.length c2 = c2 - f2 + 1 := if_neg (by omega)
                            rw [e1, e2, S_app, S_app]
              · rintro σ' H12 ⟨q, v11, v12, v13, v14, rfl, S12, R12, hq12⟩
                walk_at "rd"
                let Md : L2.St → Hp → Prop := fun σ' H' => ∃ q3 : Addr, σ' = [some (.ref a), some (.ref p), some (.int w), some (.ref x), some (.str "abcdefghijklmnopqrstuvwxyz "), some (tv t3), some (.int (0 + (i : Int))), some (.int c2), some (.int f2), some (.int wy), some (.ref q), v11, v12, v13, v14, some (.ref q3), none, none] ∧
                  Sep K H' a p ns (70 + 4 * i + 4) [x] [] ∧ WinAt K H' x w f2 ∧ H' q = some (.tup [tv (shownW w f2 t3), .int (colW w f2 t3.length c2)]) ∧ H' q3 = some (.tup [tv (shownW w f2 t3), .int (colW w f2 t3.length c2)])
                refine ⟨Md, ?_, ?_⟩
                · walk_at "rd"
                  refine ⟨.ref x, tv t3, .int c2, rfl, .inr ⟨x, w, f, t3, c2, rfl, rfl, rfl, R12, w1, by omega, hf, by omega, ?_⟩⟩
                  rw [if_pos (ok200 ht3 lt3), if_pos c2b, ef]
                  intro q3 H13 hq3 F13 R13 e13
                  refine ⟨q3, rfl, S12.left F13 (fun c hc => .inl hc) (fun c hc => ?_), R13, F13.tup hq12, e13⟩
                  rw [List.mem_singleton.mp hc]
                  obtain ⟨dx2, hp2⟩ := R13
                  rw [hp2]
                  exact fun z => nomatch z
                · rintro σ' H13 ⟨q3, rfl, S13, R13, hq13, hq3⟩
                  walk_at "rd"
                  have asS := shownW_asc (w := w) (f := f2) ht3
                  have at1 : ∀ k : Int, 0 ≤ k → k < 2 → atI [tv (shownW w f2 t3), V.int (colW w f2 t3.length c2)] k = [tv (shownW w f2 t3), V.int (colW w f2 t3.length c2)][k.toNat]? := fun k h0 h1 => atI_in h0 h1
                  have fin : ∀ H', H' = H13 → ∃ xs, SqT K H' q3 xs ∧ ∃ y, atI xs 0 = some y ∧ ∃ n, LenV K y H' n ∧ if (w : Int) < (n : Int) then Q (.bl false) H' else Inv (i + 1) [some (.ref a), some (.ref p), some (.int w), some (.ref x), some (.str "abcdefghijklmnopqrstuvwxyz "), some (tv t3), some (.int (0 + (i : Int))), some (.int c2), some (.int f2), some (.int wy), some (.ref q), v11, v12, v13, v14, some (.ref q3), none, none] H' := by
                    rintro H' rfl
                    refine ⟨_, st_of hq3, _, at1 0 (by omega) (by omega), (shownW w f2 t3).length, ⟨?_, (S_len _).symm⟩, ?_⟩
                    · rw [S_len, shownW_len w1]
                      split
                      · exact sline (by omega)
                      · exact sline (by omega)
                    · have l1 := shownW_len (w := w) (f := f2) (t := t3) w1
                      rw [if_neg (by rw [l1]; split <;> omega)]
                      exact ⟨t3, c2, f2, _, _, _, _, _, _, _, _, rfl, S13.mono (by omega), R13, fb.1, ht3, lt3, c2b.1, c2b.2⟩
                  refine ne_same (dp_two hq3) (dp_two hq13) (shaped_two asS) ⟨_, rfl, ?_⟩
                  rw [if_neg (by decide)]
                  refine ⟨sline (by omega), ?_⟩
                  by_cases cl : c2 < (t3.length : Int)
                  · rw [if_pos cl]
                    have ca := shownW_at (w := w) (f := f2) (c := c2) (t := t3) w1 fb.1 c2b.1 cl fb.2.2
                    have eg : t3[c2.toNat]? = some (t3[c2.toNat]'(by omega)) := List.getElem?_eq_getElem (by omega)
                    refine ⟨_, st_of hq3, _, at1 0 (by omega) (by omega), _, st_of hq3, _, at1 1 (by omega) (by omega), ?_⟩
                    refine .inr (.inr ⟨_, _, t3[c2.toNat]'(by omega), rfl, rfl, ?_, ?_, sline (by omega), t3[c2.toNat]'(by omega), ?_, ?_⟩)
                    · rw [S_len, shownW_len w1]
                      split
                      · exact sline (by omega)
                      · exact sline (by omega)
                    · rw [S_tl]
                      have lt1 : colW w f2 t3.length c2 < ((shownW w f2 t3).length : Int) := by
                        have z := ca.2
                        rw [eg] at z
                        have := (List.getElem?_eq_some_iff.mp z).1
                        have := ca.1
                        omega
                      rw [atI_in ca.1 lt1, ca.2, eg]
                    · rw [atI_in c2b.1 cl, eg]
                    · refine ne_same (.str _) (.str _) (shaped_str (t := [t3[c2.toNat]'(by omega)]) fun c hc => ?_) ⟨_, rfl, ?_⟩
                      · rw [List.mem_singleton.mp hc]
                        exact isSign_lt (List.all_eq_true.mp ht3 _ (List.getElem_mem _))
                      · rw [if_neg (by decide)]
                        exact fin _ rfl
                  · rw [if_neg cl]
                    exact fin _ rfl
        · rintro σ' H' ⟨t, c, f, v6, v9, v10, v11, v12, v13, v14, v15, rfl, S6, R6, hf, ht, lt, hc, hn⟩
          exact ⟨t, c, f, v6, v9, v10, v11, v12, v13, v14, v15, rfl, S6.mono (by omega), R6, hf, ht, lt, hc, hn⟩
      · rintro σ' H' ⟨t, c, f, v6, v9, v10, v11, v12, v13, v14, v15, rfl, S6, R6, hf, ht, lt, hc, hn⟩
        walk_at "rd"
        have nl : okText ("\n" : Str).cps.toList = false := by decide +kernel
        have R7 : ∀ {H8 : Hp}, Same H' H8 → WinAt K H8 x w f := fun s => by
          obtain ⟨dx2, hp2⟩ := R6
          exact ⟨dx2, s _ _ hp2⟩
        refine ⟨.ref x, tv ("\n" : Str).cps.toList, .int 0, rfl, .inr ⟨x, w, f, _, 0, rfl, rfl, rfl, R6, w1, by omega, hf, by decide +kernel, ?_⟩⟩
        rw [if_neg (by rw [nl]; decide)]
        intro v1 H1' s1 r1
        refine ⟨sline (by omega), .ref x, tv t, .int (t.length + 1), rfl, .inr ⟨x, w, f, t, _, rfl, rfl, rfl, R7 s1, w1, by omega, hf, by omega, ?_⟩⟩
        rw [if_pos (ok200 ht lt), if_neg (by omega)]
        intro v2 H2' s2 r2
        refine ⟨.ref x, tv t, .int (-1), rfl, .inr ⟨x, w, f, t, _, rfl, rfl, rfl, R7 (s1.trans s2), w1, by omega, hf, by omega, ?_⟩⟩
        rw [if_pos (ok200 ht lt), if_neg (by omega)]
        intro v3 H3' s3 r3
        refine ⟨by show 3 ≤ sizeLine; decide, fun q1 k1 => ⟨by show 2 ≤ sizeLine; decide, fun q2 k2 => ⟨by show 2 ≤ sizeLine; decide, fun q3 k3 => ⟨by show 2 ≤ sizeLine; decide, fun q4 k4 => ⟨by show 3 ≤ sizeLine; decide, fun q5 k5 => ?_⟩⟩⟩⟩⟩
        have t1 := same_new (o := .lst [v1, v2, v3]) k1
        have t2 := same_new (o := .tup [.str "refused", .str "text"]) k2
        have t3 := same_new (o := .tup [.str "refused", .str "place"]) k3
        have t4 := same_new (o := .tup [.str "refused", .str "place"]) k4
        have t5 := same_new (o := .lst [.ref q2, .ref q3, .ref q4]) k5
        refine ne_same (d := .list [refD "text", refD "place", refD "place"]) ?_ ?_ (by decide +kernel) ⟨_, rfl, ?_⟩
        · refine .lst (sq_of (t5 _ _ (t4 _ _ (t3 _ _ (t2 _ _ upd_same))))) ?_
          have f1 := r1.same (s2.trans (s3.trans (t1.trans (t2.trans (t3.trans (t4.trans t5))))))
          have f2 := r2.same (s3.trans (t1.trans (t2.trans (t3.trans (t4.trans t5)))))
          have f3 := r3.same (t1.trans (t2.trans (t3.trans (t4.trans t5))))
          exact .cons f1.dp (.cons f2.dp (.cons f3.dp .nil))
        · refine .lst (sq_of upd_same) ?_
          have g1 : IsRef _ "text" (.ref q2) := ⟨q2, rfl, t5 _ _ (t4 _ _ (t3 _ _ upd_same))⟩
          have g2 : IsRef _ "place" (.ref q3) := ⟨q3, rfl, t5 _ _ (t4 _ _ upd_same)⟩
          have g3 : IsRef _ "place" (.ref q4) := ⟨q4, rfl, t5 _ _ upd_same⟩
          exact .cons g1.dp (.cons g2.dp (.cons g3.dp .nil))
        · rw [if_neg (by decide)]
          refine ⟨by show 3 ≤ sizeLine; decide, fun q6 k6 => ⟨⟨_, st_of upd_same⟩, ?_⟩⟩
          refine lcb_ref [(3 : Int), 401, 0] V.int (walk_tup (K := K) (a := q6)) rfl (fun H' s => seqT s (st_of upd_same)) (by decide) "size" (fun y H8 hy s8 Y hY => ?_) (fun L2 acc2 H8 s8 eL2 la8 ra8 => ?_)
          · walk_at "rd"
            have hy2 : ¬ (4 ≤ y ∧ y ≤ 400) := by
              simp only [List.mem_cons, List.not_mem_nil, or_false] at hy
              omega
            exact ⟨.non, .str "", .int y, rfl, .inl ⟨rfl, y, rfl, hy2, hY⟩⟩
          · refine mk_refs (n := 3) (by omega) fun p3 q3 H9 s9 ep3 eq3 => ?_
            exact eq_refs (n := 3) (s9 _ _ eL2) la8 (fun v hv => (ra8 v hv).same s9) eq3 ep3 rfl (by decide +kernel) (K0 _)
end
end LH
/-! ## End: the head, the theorem -/
namespace LH
open PySem PySem.Spec PyProof.Rows L2
/-- what a law lets out, whatever the world -/
def CXw (P : Program) (outer : List Env) (H : Hp) (s : Shared) (E : XK) (u : Value) (s' : Shared) : Prop := ∃ w : World, L2.CX P w outer H s E u s'
theorem fn_cx {P : Program} {w : World} {K : PySem.W.Frag} {mg : Str → Option Value} {base : Heap} {k : Nat} {f : Addr} {fd : FuncData} {ps : List Str} {sp : Sp} (F : FnOk P w K mg base (L2.CX P w) k f fd ps sp) :
    FnOk P w K mg base (CXw P) k f fd ps sp :=
  ⟨F.len, fun A outer s H args us vs Q E hr he hb hv hs => codeAny_mono (F.run A outer s H args us vs Q E hr he hb hv hs) fun r s' h => by
    match r, h with
    | .ok (.ret u), h => exact h
    | .error e, h => exact ⟨w, h⟩⟩
abbrev R : PySem.W.OpenRow := PySem.W.OpenLaw.row PySem.Challenge.rw_linehand_k32_whole_windows
abbrev hk : PySem.W.Hook := hookM 4 fa fn exs
def ob (s : PySem.W.SharedT) : He.AlD × Bool := obsM fa fn exs (He.frG (HandSHeadRun.getT s) (He.asD (HandSHeadRun.getT s) 4))
theorem ob_eq (s : PySem.W.SharedT) : ob s = hk.obs s.abs := by
  have e : HandSHeadRun.getT s = s.abs.heap.get? := funext (HandSHeadRun.getT_eq s)
  show obsM fa fn exs _ = obsM fa fn exs _
  rw [e]
theorem run (w : World) : HandSHeadRun.RunEq R (PySem.W.view R.prog [23]) hk ob 6000 loose w := by
  intro os
  kernel_rfl
theorem fin {P : Program} {w : World} {K : PySem.W.Frag} {h : Heap} {mg : Str → Option Value} {f : Addr} (X : K.In h) (G : h.Ns mainGlobals mg) (hfa : mg ("law" : Str) = some (.ref f)) (c : He.SaysD fa fn K) (x : (exs.all fun f => f K) = true) :
    ∃ fd : FuncData, (∀ (s : Shared) (v : Value), BindsTo s fd ⟨[v], []⟩ [("_law_script", v)]) ∧ ∀ base : Heap, FnOk P w K mg base (CXw P) 5 f fd ["_law_script"] (spLaw K) := by
  have T : TX K mg := ⟨⟨h, X, G⟩, c, x⟩
  obtain ⟨fd, F⟩ := fn_law T
  have e := hfa.symm.trans (g_law T)
  cases e
  exact ⟨fd, fun s v => FunD.bindsA F bd_law s [v] rfl, fun base => fn_cx (F.ok sc_law len_law fun cdv A outer s H vs Q E hr h => d_law T cdv A outer s H vs Q E hr h)⟩
end LH
open PySem PySem.W PySem.Calls PyProof.Rows
theorem PySem.Challenge.cw_linehand_k32_whole_windows_holds : PySem.Challenge.rw_linehand_k32_whole_windows.Holds := by
  w_on; o_law
  refine HandSHeadRun.head_any (r := OpenLaw.row PySem.Challenge.rw_linehand_k32_whole_windows) (q := view (OpenLaw.row PySem.Challenge.rw_linehand_k32_whole_windows).prog [23]) (H := LH.hk) (ob := LH.ob) (M := 6000) (loose := LH.loose) (d := HandSHeadRun.topDef (OpenLaw.row PySem.Challenge.rw_linehand_k32_whole_windows).prog 23) (kwd := []) LH.ob_eq
    (by kernel_rfl) (fun s => by kernel_rfl) LH.run (by kernel_rfl) (by kernel_rfl) (by kernel_rfl) (by rfl) (by first | assumption | decide +kernel) (by decide +kernel) ⟨rfl, rfl, rfl, rfl, rfl, by decide +kernel⟩ ?hw ?hc
  case hw => w_witness2
  case hc =>
    refine L2.walk_ofE (l := PySem.Challenge.rw_linehand_k32_whole_windows) (n := 63) (k := 5) (x := "_law_script") (CX := LH.CXw PySem.Challenge.rw_linehand_k32_whole_windows.prog) rfl (by decide) (by kernel_rfl) ⟨rfl, by decide, by decide⟩ ?F ?X
    case X =>
      intro H s e s' ⟨_, _, _, _, _, _, _, _, _, _, _, _, _, z⟩
      exact z
    intro w mg fa h Y G hmg0
    obtain ⟨K, KX, c, x⟩ := Y
    have hmg : mg ("law" : PySem.Str) = some (.ref fa) := by
      have e : (HandSHeadRun.topDef (OpenLaw.row PySem.Challenge.rw_linehand_k32_whole_windows).prog 23).name = ("law" : PySem.Str) := by kernel_rfl
      rw [← e]
      exact hmg0
    obtain ⟨fd, hb, hF⟩ := LH.fin (P := (PySem.Challenge.rw_linehand_k32_whole_windows).prog) (w := w) KX G hmg c x
    exact ⟨K, fd, LH.spLaw K, KX, hb, fun H a ns hl _ hS => ⟨a, ns, rfl, hS, hl, fun _ => rfl⟩, fun base _ _ => hF base⟩
