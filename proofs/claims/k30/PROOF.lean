import PyProof.Rows.All
import Wide.All
import OpenK.AllK
import Wide.FinOn
import KE.KStateDown
import Lean
import HandS.Base
import HandS.Call
import HandS.List
import HandS.Comp
import HandS.Ends
import HandS.Dict
import HandS.Iter
import HandS.Text
import HandS.Walk
import HandS.Exc
import HandS.TryOnly
import HandS.ExcOwn
import HandS.ExcIs
import HandS.ExcValue
import HandS.More
import HandS.Words
import HandS.WordsList
import HandS.WordsDict
import HandS.WordsExc
import HandS.Defaults
import HandS.Flow
import HandS.Style
import HandS.StrMore
import HandS.Deep
import HandS.Small
import HandS.Head0
import HandS.Head1
import HandS.Head2
import HandS.HeadEnd
import HandS.HeadHook1
import HandS.HeadHook2
import HandS.Evl
import PySem.Challenge.RW_linehand_k30_whole_histories
set_option Elab.async false
set_option linter.all false
set_option maxRecDepth 100000
set_option maxHeartbeats 4000000
/-! ## Base: texts as lists of signs, how defs are kept and called -/
namespace LH
open PySem PySem.Spec PyProof.Rows L2

/-- a text of these signs -/
def S (l : List Nat) : Str := ⟨l.toArray⟩
theorem S_len (l : List Nat) : (S l).length = l.length := by
  unfold S Str.length
  exact List.size_toArray
theorem S_tl (l : List Nat) : (S l).cps.toList = l := by
  unfold S
  rfl
/-- an item within -/
theorem atI_in {α : Type} {l : List α} {i : Int} (h0 : 0 ≤ i) (h1 : i < l.length) : atI l i = l[i.toNat]? := by
  unfold atI ixN
  rw [if_pos h0, if_pos h1]
  rfl
theorem S_of (z : Str) : S z.cps.toList = z := rfl
theorem S_app (a b : List Nat) : S a ++ S b = S (a ++ b) := TL.ext_tl (by rw [TL.tl_append]; rfl)
theorem S_inj {a b : List Nat} : (S a = S b) = (a = b) := by
  refine propext ⟨fun h => ?_, fun h => by rw [h]⟩
  have e : (S a).cps.toList = (S b).cps.toList := by rw [h]
  exact e
theorem ofS_inj {a b : String} : (Str.ofString a = Str.ofString b) = (a = b) := by
  refine propext ⟨fun h => ?_, fun h => by rw [h]⟩
  rw [Str.ofString_eq_toList, Str.ofString_eq_toList] at h
  have h1 : (a.toList.map Char.toNat).toArray = (b.toList.map Char.toNat).toArray := by
    injection h
  have h2 : a.toList.map Char.toNat = b.toList.map Char.toNat := by
    have := congrArg Array.toList h1
    simpa using this
  have h3 : a.toList = b.toList := List.map_inj_right (fun x y e => Char.toNat_inj.mp e) |>.mp h2
  exact String.toList_inj.mp h3
theorem S_one (c : Nat) : (⟨#[c]⟩ : Str) = S [c] := rfl
theorem sline {n : Nat} (h : n ≤ 100000) : n ≤ sizeLine := Nat.le_trans h (by decide)
theorem slt {n : Nat} (h : n < 100000) : n < sizeLine := Nat.lt_of_lt_of_le h (by decide)

theorem lines : ((0 ≤ sizeLine) = True) ∧ ((1 ≤ sizeLine) = True) ∧ ((2 ≤ sizeLine) = True) ∧ ((3 ≤ sizeLine) = True) ∧ ((4 ≤ sizeLine) = True) ∧ ((5 ≤ sizeLine) = True) ∧ ((6 ≤ sizeLine) = True) ∧ ((8 ≤ sizeLine) = True) := by
  refine ⟨?_, ?_, ?_, ?_, ?_, ?_, ?_, ?_⟩ <;> exact eq_true (by decide)
/-- a slice, its ends within the text -/
theorem cut_S (l : List Nat) (i j : Int) (h0 : 0 ≤ i) (h1 : i ≤ l.length) (h2 : 0 ≤ j) (h3 : j ≤ l.length) : cutS (S l) (some i) (some j) = S ((l.drop i.toNat).take (j.toNat - i.toNat)) := by
  have e1 : HT.sIx l.length 0 (some i) = i.toNat := by
    show (if i < 0 then _ else min i.toNat l.length) = _
    rw [if_neg (by omega)]
    omega
  have e2 : HT.sIx l.length l.length (some j) = j.toNat := by
    show (if j < 0 then _ else min j.toNat l.length) = _
    rw [if_neg (by omega)]
    omega
  unfold cutS
  show (⟨((l.drop (HT.sIx l.length 0 (some i))).take (HT.sIx l.length l.length (some j) - HT.sIx l.length 0 (some i))).toArray⟩ : Str) = _
  rw [e1, e2]
  rfl

theorem cut_to (l : List Nat) (j : Int) (h : 0 ≤ j) : cutS (S l) none (some j) = S (l.take j.toNat) := by
  have e2 : HT.sIx l.length l.length (some j) = min j.toNat l.length := by
    show (if j < 0 then _ else min j.toNat l.length) = _
    rw [if_neg (by omega)]
  unfold cutS
  show (⟨((l.drop 0).take (HT.sIx l.length l.length (some j) - 0)).toArray⟩ : Str) = _
  rw [e2, List.drop_zero, Nat.sub_zero, ← List.take_eq_take_min]
  rfl
theorem cut_from (l : List Nat) (i : Int) (h : 0 ≤ i) : cutS (S l) (some i) none = S (l.drop i.toNat) := by
  have e1 : HT.sIx l.length 0 (some i) = min i.toNat l.length := by
    show (if i < 0 then _ else min i.toNat l.length) = _
    rw [if_neg (by omega)]
  unfold cutS
  show (⟨((l.drop (HT.sIx l.length 0 (some i))).take (l.length - HT.sIx l.length 0 (some i))).toArray⟩ : Str) = _
  rw [e1, List.take_of_length_le (by rw [List.length_drop]; exact Nat.le_refl _)]
  by_cases q : i.toNat ≤ l.length
  · rw [Nat.min_eq_left q]
    rfl
  · rw [Nat.min_eq_right (by omega), List.drop_eq_nil_of_le (Nat.le_refl _), List.drop_eq_nil_of_le (by omega)]
    rfl
theorem cutV_to (xs : List V) (j : Int) (h : 0 ≤ j) : cutV xs none (some j) = xs.take j.toNat := by
  have e2 : HT.sIx xs.length xs.length (some j) = min j.toNat xs.length := by
    show (if j < 0 then _ else min j.toNat xs.length) = _
    rw [if_neg (by omega)]
  unfold cutV
  show (xs.drop 0).take (HT.sIx xs.length xs.length (some j) - 0) = _
  rw [e2, List.drop_zero, Nat.sub_zero, ← List.take_eq_take_min]
theorem cutV_from (xs : List V) (i : Int) (h : 0 ≤ i) : cutV xs (some i) none = xs.drop i.toNat := by
  have e1 : HT.sIx xs.length 0 (some i) = min i.toNat xs.length := by
    show (if i < 0 then _ else min i.toNat xs.length) = _
    rw [if_neg (by omega)]
  unfold cutV
  show (xs.drop (HT.sIx xs.length 0 (some i))).take (xs.length - HT.sIx xs.length 0 (some i)) = _
  rw [e1, List.take_of_length_le (by rw [List.length_drop]; exact Nat.le_refl _)]
  by_cases q : i.toNat ≤ xs.length
  · rw [Nat.min_eq_left q]
  · rw [Nat.min_eq_right (by omega), List.drop_eq_nil_of_le (Nat.le_refl _), List.drop_eq_nil_of_le (by omega)]
/-- the last m of them -/
theorem cutV_neg (xs : List V) (i : Int) (h : i < 0) : cutV xs (some i) none = xs.drop ((xs.length : Int) + i).toNat := by
  have e1 : HT.sIx xs.length 0 (some i) = ((xs.length : Int) + i).toNat := by
    show (if i < 0 then (i + (xs.length : Int)).toNat else min i.toNat xs.length) = _
    rw [if_pos h, Int.add_comm]
  unfold cutV
  show (xs.drop (HT.sIx xs.length 0 (some i))).take (xs.length - HT.sIx xs.length 0 (some i)) = _
  rw [e1, List.take_of_length_le (by rw [List.length_drop]; exact Nat.le_refl _)]
/-- all but the last sign -/
theorem cut_last (l : List Nat) : cutS (S l) none (some (-1)) = S l.dropLast := by
  have e2 : HT.sIx l.length l.length (some (-1)) = l.length - 1 := by
    show (if (-1 : Int) < 0 then ((-1 : Int) + (l.length : Int)).toNat else min (-1 : Int).toNat l.length) = _
    rw [if_pos (by omega)]
    omega
  unfold cutS
  show (⟨((l.drop 0).take (HT.sIx l.length l.length (some (-1)) - 0)).toArray⟩ : Str) = _
  rw [e2, List.drop_zero, Nat.sub_zero, List.dropLast_eq_take]
  rfl
section
variable (P : Program) (w : World) (K : PySem.W.Frag) (mg : Str → Option Value) (base : Heap)
/-- the def x keeps its promise, and is called by its name -/
structure Dn (k : Nat) (x : Str) (ps : List Str) (sp : Sp) : Prop where
  ex : ∃ f fd, FnOk P w K mg base (L2.CX P w) k f fd ps sp ∧ Binds K fd ps [] ∧ mg x = some (.ref f) ∧ PySem.W.keepIn K (.ref f) = true
/-- the method m of the class at C -/
structure Mt (k : Nat) (C : Addr) (m : Str) (ps : List Str) (sp : Sp) : Prop where
  ex : ∃ f fd, FnOk P w K mg base (L2.CX P w) k f fd ps sp ∧ Binds K fd ps [] ∧ Meth K C m f
  cl : Cls K C
/-- a new one of the class x at C -/
structure Mn (k : Nat) (x : Str) (C : Addr) (ps : List Str) (sp : Sp) : Prop where
  ex : ∃ f fd, FnOk P w K mg base (L2.CX P w) k f fd ps sp ∧ Binds K fd ps [] ∧ Mk K C f
  gl : mg x = some (.ref C)
end
section
variable {X : Cx} {k : Nat} {C : Addr} {x m : Str} {ps : List Str} {sp : Sp} {E : XK} {p pos apos : Pos} {e o : Expr} {es : List Expr} {ta : TE} {t : TA}
theorem pc (D : Dn X.prog X.w X.K X.mg X.base k x ps sp) (hr : Room k X.A) (hx : Passes (L2.CX X.prog X.w) X E) (ha : PA X (e :: es) t) (hg : Gl X x := by rfl) (hdb : (x == ("__debug__" : Str)) = false := by decide)
    (he : starEach (e :: es) X.env = (false, eval e X.env) :: starEach es X.env := by rfl) (hpl : (backTo pos (starEach es X.env)).any (·.1) = false := by rfl) : PE X (.Call (.Name x p) (e :: es) [] pos) (tCall sp [] E t) := by
  obtain ⟨f, fd, F, b, hm, kp⟩ := D.ex
  exact pe_call F hr hg hm kp b .nil hx ha hdb he hpl
theorem pc0 (D : Dn X.prog X.w X.K X.mg X.base k x ps sp) (hr : Room k X.A) (hx : Passes (L2.CX X.prog X.w) X E) (hg : Gl X x := by rfl) (hdb : (x == ("__debug__" : Str)) = false := by decide) : PE X (.Call (.Name x p) [] [] pos) (tCall sp [] E tNil) := by
  obtain ⟨f, fd, F, b, hm, kp⟩ := D.ex
  exact pe_call0 F hr hg hm kp b .nil hx hdb
theorem pm {pl : Sem Bool} (M : Mt X.prog X.w X.K X.mg X.base k C m ps sp) (hr : Room k X.A) (hx : Passes (L2.CX X.prog X.w) X E) (ho : PE X o ta) (ha : PA X (e :: es) t)
    (hst : starEach (e :: es) X.env = (false, eval e X.env) :: starEach es X.env := by rfl) (hpl : (backTo pos (starEach es X.env)).any (·.1) = false := by rfl)
    (ht : eval (.Call (.Attribute o m apos) (e :: es) [] pos) X.env = (do
      let ov ← eval o X.env
      standAt apos.atName
      let (f, first) ← holding [ov] (getMethod ov m pl)
      callWith pos f first (backTo pos (starEach (e :: es) X.env)) (backToKw pos (keywordEach [] X.env))) := by rfl) : PE X (.Call (.Attribute o m apos) (e :: es) [] pos) (tMeth C m sp [] E ta t) := by
  obtain ⟨f, fd, F, b, hm⟩ := M.ex
  exact pe_meth ho M.cl hm F hr b .nil hx ha hst hpl ht
theorem pm0 {pl : Sem Bool} (M : Mt X.prog X.w X.K X.mg X.base k C m ps sp) (hr : Room k X.A) (hx : Passes (L2.CX X.prog X.w) X E) (ho : PE X o ta)
    (ht : eval (.Call (.Attribute o m apos) [] [] pos) X.env = (do
      let ov ← eval o X.env
      standAt apos.atName
      let (f, first) ← holding [ov] (getMethod ov m pl)
      callWith pos f first (backTo pos (starEach [] X.env)) (backToKw pos (keywordEach [] X.env))) := by rfl) : PE X (.Call (.Attribute o m apos) [] [] pos) (tMeth C m sp [] E ta tNil) := by
  obtain ⟨f, fd, F, b, hm⟩ := M.ex
  exact pe_meth0 ho M.cl hm F hr b .nil hx ht
theorem pn (D : Mn X.prog X.w X.K X.mg X.base k x C ps sp) (hr : Room (k + 1) X.A) (hx : Passes (L2.CX X.prog X.w) X E) (ha : PA X (e :: es) t) (hg : Gl X x := by rfl) (hdb : (x == ("__debug__" : Str)) = false := by decide)
    (he : starEach (e :: es) X.env = (false, eval e X.env) :: starEach es X.env := by rfl) (hpl : (backTo pos (starEach es X.env)).any (·.1) = false := by rfl) : PE X (.Call (.Name x p) (e :: es) [] pos) (tMake C sp [] E t) := by
  obtain ⟨f, fd, F, b, M⟩ := D.ex
  exact pe_make M F hr hg D.gl b .nil hx ha hdb he hpl
end
/-- in a def's own body: what a callee lets out is let out -/
theorem px {P : Program} {w : World} {K : PySem.W.Frag} {mg : Str → Option Value} {base : Heap} {N : List Str} {qual : Str} {scope : Scope} {f : Addr} {cd : Value} {A : Around} {outer : List Env} {s : Shared} {H : Hp} {E : XK} :
    Passes (L2.CX P w) (cxOf (L2.CX P w) P w K mg base N qual scope f cd A outer s H E) E :=
  passes_call (takes_of rfl rfl rfl rfl) fun _ _ _ _ h => h
end LH
namespace LH
open PySem PySem.Spec PyProof.Rows L2
section
variable {P : Program} {w : World} {K : PySem.W.Frag} {mg : Str → Option Value} {base : Heap} {x : Str} {st : Stmt} {N ps : List Str} {k : Nat} {sp : Sp}
/-- how the arguments bind, whatever the def's other fields are -/
def Bnd (x qual : Str) (st : Stmt) (ps : List Str) : Prop :=
  ∀ (kV doc pm : Value) (an : Option Addr) (cdv ct : Value) (us : List Value), us.length = ps.length → bindArgs (PySem.W.fnOf x qual (defArgs st) (defBody st) (defScope st) .none kV doc pm an cdv ct) ⟨us, []⟩ = pure (ps.zip us)
/-- what a def's body is to show -/
abbrev BodyOk (P : Program) (w : World) (K : PySem.W.Frag) (mg : Str → Option Value) (base : Heap) (N : List Str) (qual : Str) (st : Stmt) (f : Addr) (k : Nat) (sp : Sp) : Prop :=
  ∀ (cdv : Value) (A : Around) (outer : List Env) (s : Shared) (H : Hp) (vs : List V) (Q : VK) (E : XK), Room k (A.deeper (envOfC qual (defScope st) s.heap.objs.size f cdv)) → sp vs H Q E →
      ∃ t, PSs (cxOf (L2.CX P w) P w K mg base N qual (defScope st) f cdv A outer s H E) (defBody st) t ∧ t { nx := fun _ H' => Q .non H', rt := Q } (start N vs) H
theorem dn_of (F : ∃ fd, FunD K x x (defArgs st) (defBody st) (defScope st) [] [] (He.fAd K (x, none)) fd) (g : mg x = some (.ref (He.ga K x))) (S : FnScope N ps (defScope st)) (b : Bnd x x st ps) (len : ∀ vs H Q E, sp vs H Q E → vs.length = ps.length)
    (h : BodyOk P w K mg base N x st (He.fAd K (x, none)) k sp) : Dn P w K mg base (k + 1) x ps sp := by
  obtain ⟨fd, F⟩ := F
  exact ⟨_, fd, F.ok S len h, F.bindsN b, g, F.kp⟩
theorem mt_of {c m q : Str} (F : ∃ fd, FunD K m q (defArgs st) (defBody st) (defScope st) [] [] (He.fAd K (c, some m)) fd) (cl : Cls K (He.ga K c)) (me : Meth K (He.ga K c) m (He.ma K (He.ga K c) m)) (S : FnScope N ps (defScope st)) (b : Bnd m q st ps) (len : ∀ vs H Q E, sp vs H Q E → vs.length = ps.length)
    (h : BodyOk P w K mg base N q st (He.fAd K (c, some m)) k sp) : Mt P w K mg base (k + 1) (He.ga K c) m ps sp := by
  obtain ⟨fd, F⟩ := F
  exact ⟨⟨_, fd, F.ok S len h, F.bindsN b, me⟩, cl⟩
theorem mn_of {c q : Str} (F : ∃ fd, FunD K "__init__" q (defArgs st) (defBody st) (defScope st) [] [] (He.fAd K (c, some "__init__")) fd) (M : Mk K (He.ga K c) (He.ma K (He.ga K c) "__init__")) (g : mg c = some (.ref (He.ga K c))) (S : FnScope N ps (defScope st)) (b : Bnd "__init__" q st ps) (len : ∀ vs H Q E, sp vs H Q E → vs.length = ps.length)
    (h : BodyOk P w K mg base N q st (He.fAd K (c, some "__init__")) k sp) : Mn P w K mg base (k + 1) c (He.ga K c) ps sp := by
  obtain ⟨fd, F⟩ := F
  exact ⟨⟨_, fd, F.ok S len h, F.bindsN b, M⟩, g⟩
end
end LH
namespace LH
open PySem PySem.Spec PyProof.Rows L2
section
variable {X : Cx} {x : Str} {pos : Pos}
/-- a module's constant: a number, a text, an object -/
theorem pgi {i : Int} (hm : ∃ t, X.mg x = some (.int i t)) (hg : Gl X x := by rfl) (hd : (x == ("__debug__" : Str)) = false := by decide) : PE X (.Name x pos) (tC (.int i)) := by
  obtain ⟨t, hm⟩ := hm
  exact pe_glob hg hm ⟨t, rfl⟩ hd
theorem pgs {z : Str} (hm : ∃ t, X.mg x = some (.str z t)) (hg : Gl X x := by rfl) (hd : (x == ("__debug__" : Str)) = false := by decide) : PE X (.Name x pos) (tC (.str z)) := by
  obtain ⟨t, hm⟩ := hm
  exact pe_glob hg hm ⟨t, rfl⟩ hd
theorem pgr {a : Addr} (hm : X.mg x = some (.ref a)) (hg : Gl X x := by rfl) (hd : (x == ("__debug__" : Str)) = false := by decide) : PE X (.Name x pos) (tC (.ref a)) := pe_glob hg hm rfl hd
/-- in a comprehension's block nothing is let out -/
theorem px0 : Passes (L2.CX X.prog X.w) X E0 := passL
/-- written texts, one behind the other -/
def lits : List Expr → Option (List Str)
  | [] => some []
  | .Constant (.str x) _ _ :: r => (lits r).map (x :: ·)
  | _ => none
def tLits (xs : List Str) : TA := fun _ H Q => Q (xs.map V.str) H
theorem pa_lits : ∀ {es : List Expr} {xs : List Str}, lits es = some xs → PA X es (tLits xs)
  | [], xs, h => by
    have e : ([] : List Str) = xs := Option.some.inj h
    subst e
    exact ⟨fun pos pins s σ H Q I q => (pa_nil (X := X)).run pos pins s σ H Q I q⟩
  | e :: r, xs, h => by
    match e, h with
    | .Constant (.str x) j p, h =>
      have h1 : (lits r).map (x :: ·) = some xs := h
      cases e : lits r with
      | none =>
        rw [e] at h1
        cases h1
      | some ys =>
        rw [e] at h1
        have e2 : x :: ys = xs := Option.some.inj h1
        subst e2
        have p1 := pa_cons (X := X) (pe_str (x := x) (j := j) (pos := p)) (pa_lits e) rfl
        exact ⟨fun pos pins s σ H Q I q => p1.run pos pins s σ H Q I q⟩
end
end LH
namespace LH
open PySem PySem.Spec PyProof.Rows L2
/-! ### the Hook: He's facts, and more by Bools of one's own -/
def excB (K : PySem.W.Frag) (C : Addr) : Bool :=
  decide (PySem.W.findIn K (.ref C) "__getattribute__" = some (some (.builtin "BaseException.__getattribute__"))) && (decide (PySem.W.findIn K (.ref C) "__getattr__" = some none) &&
  (decide (PySem.W.subIn K (.ref C) (.type "BaseException") = some true) && (PySem.W.hasDictIn K C && (decide (PySem.W.findIn K (.ref C) "__class__" = some (some (.builtin "object.__class__"))) &&
  (decide (PySem.W.specialIn K (.builtin "object.__class__") "__get__" = some (some (.builtin "getset_descriptor.__get__"))) && (decide (PySem.W.takesIn K (.builtin "object.__class__") = some true) && decide (PySem.W.mroIn K C (.type "object") = some true)))))))
theorem excB_ok {K : PySem.W.Frag} {C : Addr} (h : excB K C = true) : ExcC K C := by
  unfold excB at h
  simp only [Bool.and_eq_true, decide_eq_true_eq] at h
  obtain ⟨h1, h2, h3, h4, h5, h6, h7, h8⟩ := h
  exact ⟨h1, h2, h3, h4, h5, h6, h7, h8⟩
def kitB (K : PySem.W.Frag) (C : Addr) (v : Value) (b : Bool) : Bool := decide (PySem.W.kitOne K (.ref C) v = some b)
theorem kitB_ok {K : PySem.W.Frag} {C : Addr} {v : Value} {b : Bool} (h : kitB K C v b = true) : PySem.W.kitOne K (.ref C) v = some b := of_decide_eq_true h
def obsM (fa : List He.Fa) (fn : List He.DefD) (ex : List (PySem.W.Frag → Bool)) (K : PySem.W.Frag) : He.AlD × Bool := (He.obsD fa fn K, ex.all fun f => f K)
def hookM (n : Nat) (fa : List He.Fa) (fn : List He.DefD) (ex : List (PySem.W.Frag → Bool)) : PySem.W.Hook where
  α := He.AlD × Bool
  obs := fun s => obsM fa fn ex (He.frG s.heap.get? (He.asD s.heap.get? n))
  val := fun _ => (He.valD fn, true)
  says := fun _ h => ∃ K : PySem.W.Frag, K.In h ∧ He.SaysD fa fn K ∧ (ex.all fun f => f K) = true
  of := fun _ _ e => ⟨_, He.frG_in, congrArg Prod.fst e, congrArg Prod.snd e⟩
  keeps := fun _ _ _ ⟨K, hK, c⟩ k => ⟨K, PySem.W.Frag.In.keeps hK k, c⟩
theorem ex_at {ex : List (PySem.W.Frag → Bool)} {K : PySem.W.Frag} (h : (ex.all fun f => f K) = true) (i : Nat) {f : PySem.W.Frag → Bool} (e : ex[i]? = some f := by rfl) : f K = true := List.all_eq_true.mp h f (List.mem_of_getElem? e)
end LH
/-! ## Top: the text by places, what the top leaves -/
namespace LH
open PySem PySem.Spec PyProof.Rows L2
abbrev pw : Program := PySem.Challenge.pw_linehand_k30_whole_histories
def top (i : Nat) : Stmt := pw.main.body.getD i (.Pass ⟨0, 0, 0, 0⟩)
abbrev s_is_sign : Stmt := top 8
abbrev s_look_text : Stmt := top 9
abbrev s_History_init : Stmt := inClass (top 12) 0
abbrev s_History_add : Stmt := inClass (top 12) 1
abbrev s_History_all_lines : Stmt := inClass (top 12) 2
abbrev s_History_here : Stmt := inClass (top 12) 3
abbrev s_History_many : Stmt := inClass (top 12) 4
abbrev s_History_keep : Stmt := inClass (top 12) 5
abbrev s_History_go : Stmt := inClass (top 12) 6
abbrev s_History_find : Stmt := inClass (top 12) 7
abbrev s_l_cell : Stmt := top 14
abbrev s_l_mix : Stmt := top 15
abbrev s_l_draw : Stmt := top 16
abbrev s_l_pick : Stmt := top 17
abbrev s_l_refusal : Stmt := top 18
abbrev s_l_told : Stmt := top 19
abbrev s_l_bad : Stmt := top 20
abbrev s_law : Stmt := top 21
def fn0 : List He.DefD := [
  ⟨("is_sign", none), "is_sign", "is_sign", defArgs s_is_sign, defBody s_is_sign, defScope s_is_sign, [], []⟩,
  ⟨("look_text", none), "look_text", "look_text", defArgs s_look_text, defBody s_look_text, defScope s_look_text, [], []⟩,
  ⟨("History", some "__init__"), "__init__", "History.__init__", defArgs s_History_init, defBody s_History_init, defScope s_History_init, [], []⟩,
  ⟨("History", some "add"), "add", "History.add", defArgs s_History_add, defBody s_History_add, defScope s_History_add, [], []⟩,
  ⟨("History", some "all_lines"), "all_lines", "History.all_lines", defArgs s_History_all_lines, defBody s_History_all_lines, defScope s_History_all_lines, [], []⟩,
  ⟨("History", some "here"), "here", "History.here", defArgs s_History_here, defBody s_History_here, defScope s_History_here, [], []⟩,
  ⟨("History", some "many"), "many", "History.many", defArgs s_History_many, defBody s_History_many, defScope s_History_many, [], []⟩,
  ⟨("History", some "keep"), "keep", "History.keep", defArgs s_History_keep, defBody s_History_keep, defScope s_History_keep, [], []⟩,
  ⟨("History", some "go"), "go", "History.go", defArgs s_History_go, defBody s_History_go, defScope s_History_go, [], []⟩,
  ⟨("History", some "find"), "find", "History.find", defArgs s_History_find, defBody s_History_find, defScope s_History_find, [], []⟩,
  ⟨("_law_cell", none), "_law_cell", "_law_cell", defArgs s_l_cell, defBody s_l_cell, defScope s_l_cell, [], []⟩,
  ⟨("_law_mix", none), "_law_mix", "_law_mix", defArgs s_l_mix, defBody s_l_mix, defScope s_l_mix, [], []⟩,
  ⟨("_law_draw", none), "_law_draw", "_law_draw", defArgs s_l_draw, defBody s_l_draw, defScope s_l_draw, [], []⟩,
  ⟨("_law_pick", none), "_law_pick", "_law_pick", defArgs s_l_pick, defBody s_l_pick, defScope s_l_pick, [], []⟩,
  ⟨("_law_refusal", none), "_law_refusal", "_law_refusal", defArgs s_l_refusal, defBody s_l_refusal, defScope s_l_refusal, [], []⟩,
  ⟨("_law_told", none), "_law_told", "_law_told", defArgs s_l_told, defBody s_l_told, defScope s_l_told, [], []⟩,
  ⟨("_law_bad", none), "_law_bad", "_law_bad", defArgs s_l_bad, defBody s_l_bad, defScope s_l_bad, [], []⟩,
  ⟨("law", none), "law", "law", defArgs s_law, defBody s_law, defScope s_law, [], []⟩]
def fn : List He.DefD := fn0
def fa0 : List He.Fa := [
  .glo "HandError",
  .glo "BadKey",
  .glo "BadText",
  .glo "BadSize",
  .glo "BadPlace",
  .int "MOST_TEXT" 400,
  .glo "is_sign",
  .glo "look_text",
  .int "MOST_LINES" 200,
  .glo "History",
  .glo "_law_cell",
  .glo "_law_mix",
  .glo "_law_draw",
  .glo "_law_pick",
  .glo "_law_refusal",
  .glo "_law_told",
  .glo "_law_bad",
  .glo "law",
  .free "ValueError",
  .free "all",
  .free "isinstance",
  .free "len",
  .free "list",
  .free "min",
  .free "ord",
  .free "range",
  .free "str",
  .cls "History",
  .noat "History" "most",
  .noat "History" "kept"]
def fa1 : List He.Fa := [
  .noat "History" "shown",
  .noat "History" "spot",
  .meth "History" "add",
  .meth "History" "all_lines",
  .meth "History" "here",
  .meth "History" "many",
  .meth "History" "keep",
  .meth "History" "go",
  .meth "History" "find",
  .mkr "History",
  .exc "BadKey",
  .exc "BadText",
  .exc "BadSize",
  .exc "BadPlace",
  .keep "HandError",
  .keep "BadKey",
  .keep "BadText",
  .keep "BadSize",
  .keep "BadPlace",
  .exm "BadKey" "HandError" true,
  .exm "BadText" "HandError" true,
  .exm "BadSize" "HandError" true,
  .exm "BadPlace" "HandError" true]
def fa : List He.Fa := fa0 ++ fa1
def loose0 : List Str := [
  "HandError",
  "BadKey",
  "BadText",
  "BadSize",
  "BadPlace",
  "MOST_TEXT",
  "is_sign",
  "look_text",
  "MOST_LINES",
  "History",
  "_law_cell",
  "_law_mix",
  "_law_draw",
  "_law_pick",
  "_law_refusal",
  "_law_told",
  "_law_bad"]
def loose : List Str := loose0
def exs0 : List (PySem.W.Frag → Bool) := [
  fun K => excB K (He.ga K "BadKey"),
  fun K => kitB K (He.ga K "BadKey") (.ref (He.ga K "BadKey")) true,
  fun K => kitB K (He.ga K "BadKey") (.ref (He.ga K "BadText")) false,
  fun K => kitB K (He.ga K "BadKey") (.ref (He.ga K "BadSize")) false,
  fun K => kitB K (He.ga K "BadKey") (.ref (He.ga K "BadPlace")) false,
  fun K => kitB K (He.ga K "BadKey") (.type "ValueError") true,
  fun K => excB K (He.ga K "BadText"),
  fun K => kitB K (He.ga K "BadText") (.ref (He.ga K "BadKey")) false,
  fun K => kitB K (He.ga K "BadText") (.ref (He.ga K "BadText")) true,
  fun K => kitB K (He.ga K "BadText") (.ref (He.ga K "BadSize")) false,
  fun K => kitB K (He.ga K "BadText") (.ref (He.ga K "BadPlace")) false,
  fun K => kitB K (He.ga K "BadText") (.type "ValueError") true,
  fun K => excB K (He.ga K "BadSize"),
  fun K => kitB K (He.ga K "BadSize") (.ref (He.ga K "BadKey")) false,
  fun K => kitB K (He.ga K "BadSize") (.ref (He.ga K "BadText")) false,
  fun K => kitB K (He.ga K "BadSize") (.ref (He.ga K "BadSize")) true,
  fun K => kitB K (He.ga K "BadSize") (.ref (He.ga K "BadPlace")) false,
  fun K => kitB K (He.ga K "BadSize") (.type "ValueError") true,
  fun K => excB K (He.ga K "BadPlace"),
  fun K => kitB K (He.ga K "BadPlace") (.ref (He.ga K "BadKey")) false,
  fun K => kitB K (He.ga K "BadPlace") (.ref (He.ga K "BadText")) false,
  fun K => kitB K (He.ga K "BadPlace") (.ref (He.ga K "BadSize")) false,
  fun K => kitB K (He.ga K "BadPlace") (.ref (He.ga K "BadPlace")) true,
  fun K => kitB K (He.ga K "BadPlace") (.type "ValueError") true]
def exs : List (PySem.W.Frag → Bool) := exs0
/-- what the top has left -/
structure TX (K : PySem.W.Frag) (mg : Str → Option Value) : Prop where
  ex : ∃ h : Heap, K.In h ∧ h.Ns mainGlobals mg
  c : He.SaysD fa fn K
  x : (exs.all fun f => f K) = true
section
variable {K : PySem.W.Frag} {mg : Str → Option Value}
theorem g_HandError (T : TX K mg) : mg "HandError" = some (.ref (He.ga K "HandError")) := by obtain ⟨h, X, G⟩ := T.ex; exact He.glo_ok X G (T.c.fact 0)
theorem g_BadKey (T : TX K mg) : mg "BadKey" = some (.ref (He.ga K "BadKey")) := by obtain ⟨h, X, G⟩ := T.ex; exact He.glo_ok X G (T.c.fact 1)
theorem g_BadText (T : TX K mg) : mg "BadText" = some (.ref (He.ga K "BadText")) := by obtain ⟨h, X, G⟩ := T.ex; exact He.glo_ok X G (T.c.fact 2)
theorem g_BadSize (T : TX K mg) : mg "BadSize" = some (.ref (He.ga K "BadSize")) := by obtain ⟨h, X, G⟩ := T.ex; exact He.glo_ok X G (T.c.fact 3)
theorem g_BadPlace (T : TX K mg) : mg "BadPlace" = some (.ref (He.ga K "BadPlace")) := by obtain ⟨h, X, G⟩ := T.ex; exact He.glo_ok X G (T.c.fact 4)
theorem i_MOST_TEXT (T : TX K mg) : ∃ t, mg "MOST_TEXT" = some (.int 400 t) := by obtain ⟨h, X, G⟩ := T.ex; exact He.int_ok X G (T.c.fact 5)
theorem g_is_sign (T : TX K mg) : mg "is_sign" = some (.ref (He.ga K "is_sign")) := by obtain ⟨h, X, G⟩ := T.ex; exact He.glo_ok X G (T.c.fact 6)
theorem g_look_text (T : TX K mg) : mg "look_text" = some (.ref (He.ga K "look_text")) := by obtain ⟨h, X, G⟩ := T.ex; exact He.glo_ok X G (T.c.fact 7)
theorem i_MOST_LINES (T : TX K mg) : ∃ t, mg "MOST_LINES" = some (.int 200 t) := by obtain ⟨h, X, G⟩ := T.ex; exact He.int_ok X G (T.c.fact 8)
theorem g_History (T : TX K mg) : mg "History" = some (.ref (He.ga K "History")) := by obtain ⟨h, X, G⟩ := T.ex; exact He.glo_ok X G (T.c.fact 9)
theorem g__law_cell (T : TX K mg) : mg "_law_cell" = some (.ref (He.ga K "_law_cell")) := by obtain ⟨h, X, G⟩ := T.ex; exact He.glo_ok X G (T.c.fact 10)
theorem g__law_mix (T : TX K mg) : mg "_law_mix" = some (.ref (He.ga K "_law_mix")) := by obtain ⟨h, X, G⟩ := T.ex; exact He.glo_ok X G (T.c.fact 11)
theorem g__law_draw (T : TX K mg) : mg "_law_draw" = some (.ref (He.ga K "_law_draw")) := by obtain ⟨h, X, G⟩ := T.ex; exact He.glo_ok X G (T.c.fact 12)
theorem g__law_pick (T : TX K mg) : mg "_law_pick" = some (.ref (He.ga K "_law_pick")) := by obtain ⟨h, X, G⟩ := T.ex; exact He.glo_ok X G (T.c.fact 13)
theorem g__law_refusal (T : TX K mg) : mg "_law_refusal" = some (.ref (He.ga K "_law_refusal")) := by obtain ⟨h, X, G⟩ := T.ex; exact He.glo_ok X G (T.c.fact 14)
theorem g__law_told (T : TX K mg) : mg "_law_told" = some (.ref (He.ga K "_law_told")) := by obtain ⟨h, X, G⟩ := T.ex; exact He.glo_ok X G (T.c.fact 15)
theorem g__law_bad (T : TX K mg) : mg "_law_bad" = some (.ref (He.ga K "_law_bad")) := by obtain ⟨h, X, G⟩ := T.ex; exact He.glo_ok X G (T.c.fact 16)
theorem g_law (T : TX K mg) : mg "law" = some (.ref (He.ga K "law")) := by obtain ⟨h, X, G⟩ := T.ex; exact He.glo_ok X G (T.c.fact 17)
theorem b_ValueError (T : TX K mg) : mg "ValueError" = none := by obtain ⟨h, X, G⟩ := T.ex; exact He.free_ok X G (T.c.fact 18)
theorem b_all (T : TX K mg) : mg "all" = none := by obtain ⟨h, X, G⟩ := T.ex; exact He.free_ok X G (T.c.fact 19)
theorem b_isinstance (T : TX K mg) : mg "isinstance" = none := by obtain ⟨h, X, G⟩ := T.ex; exact He.free_ok X G (T.c.fact 20)
theorem b_len (T : TX K mg) : mg "len" = none := by obtain ⟨h, X, G⟩ := T.ex; exact He.free_ok X G (T.c.fact 21)
theorem b_list (T : TX K mg) : mg "list" = none := by obtain ⟨h, X, G⟩ := T.ex; exact He.free_ok X G (T.c.fact 22)
theorem b_min (T : TX K mg) : mg "min" = none := by obtain ⟨h, X, G⟩ := T.ex; exact He.free_ok X G (T.c.fact 23)
theorem b_ord (T : TX K mg) : mg "ord" = none := by obtain ⟨h, X, G⟩ := T.ex; exact He.free_ok X G (T.c.fact 24)
theorem b_range (T : TX K mg) : mg "range" = none := by obtain ⟨h, X, G⟩ := T.ex; exact He.free_ok X G (T.c.fact 25)
theorem b_str (T : TX K mg) : mg "str" = none := by obtain ⟨h, X, G⟩ := T.ex; exact He.free_ok X G (T.c.fact 26)
theorem cl_History (T : TX K mg) : Cls K (He.ga K "History") := He.cls_ok (T.c.fact 27)
theorem na_History_most (T : TX K mg) : NoAttr K (He.ga K "History") "most" := He.noat_ok (T.c.fact 28)
theorem na_History_kept (T : TX K mg) : NoAttr K (He.ga K "History") "kept" := He.noat_ok (T.c.fact 29)
theorem na_History_shown (T : TX K mg) : NoAttr K (He.ga K "History") "shown" := He.noat_ok (T.c.fact 30)
theorem na_History_spot (T : TX K mg) : NoAttr K (He.ga K "History") "spot" := He.noat_ok (T.c.fact 31)
theorem me_History_add (T : TX K mg) : Meth K (He.ga K "History") "add" (He.ma K (He.ga K "History") "add") := He.meth_ok (T.c.fact 32)
theorem me_History_all_lines (T : TX K mg) : Meth K (He.ga K "History") "all_lines" (He.ma K (He.ga K "History") "all_lines") := He.meth_ok (T.c.fact 33)
theorem me_History_here (T : TX K mg) : Meth K (He.ga K "History") "here" (He.ma K (He.ga K "History") "here") := He.meth_ok (T.c.fact 34)
theorem me_History_many (T : TX K mg) : Meth K (He.ga K "History") "many" (He.ma K (He.ga K "History") "many") := He.meth_ok (T.c.fact 35)
theorem me_History_keep (T : TX K mg) : Meth K (He.ga K "History") "keep" (He.ma K (He.ga K "History") "keep") := He.meth_ok (T.c.fact 36)
theorem me_History_go (T : TX K mg) : Meth K (He.ga K "History") "go" (He.ma K (He.ga K "History") "go") := He.meth_ok (T.c.fact 37)
theorem me_History_find (T : TX K mg) : Meth K (He.ga K "History") "find" (He.ma K (He.ga K "History") "find") := He.meth_ok (T.c.fact 38)
theorem mk_History (T : TX K mg) : Mk K (He.ga K "History") (He.ma K (He.ga K "History") "__init__") := He.mkr_ok (T.c.fact 39)
theorem xc_BadKey (T : TX K mg) : PySem.W.excIn K (He.ga K "BadKey") He.veBase "ValueError.__new__" = true ∧ PySem.W.keepIn K (.ref (He.ga K "BadKey")) = true ∧ PySem.W.subIn K (.ref (He.ga K "BadKey")) (.type "BaseException") = some true ∧ PySem.W.typeIn K (.ref (He.ga K "BadKey")) = some (.type "type") := He.exc_ok (T.c.fact 40)
theorem xc_BadText (T : TX K mg) : PySem.W.excIn K (He.ga K "BadText") He.veBase "ValueError.__new__" = true ∧ PySem.W.keepIn K (.ref (He.ga K "BadText")) = true ∧ PySem.W.subIn K (.ref (He.ga K "BadText")) (.type "BaseException") = some true ∧ PySem.W.typeIn K (.ref (He.ga K "BadText")) = some (.type "type") := He.exc_ok (T.c.fact 41)
theorem xc_BadSize (T : TX K mg) : PySem.W.excIn K (He.ga K "BadSize") He.veBase "ValueError.__new__" = true ∧ PySem.W.keepIn K (.ref (He.ga K "BadSize")) = true ∧ PySem.W.subIn K (.ref (He.ga K "BadSize")) (.type "BaseException") = some true ∧ PySem.W.typeIn K (.ref (He.ga K "BadSize")) = some (.type "type") := He.exc_ok (T.c.fact 42)
theorem xc_BadPlace (T : TX K mg) : PySem.W.excIn K (He.ga K "BadPlace") He.veBase "ValueError.__new__" = true ∧ PySem.W.keepIn K (.ref (He.ga K "BadPlace")) = true ∧ PySem.W.subIn K (.ref (He.ga K "BadPlace")) (.type "BaseException") = some true ∧ PySem.W.typeIn K (.ref (He.ga K "BadPlace")) = some (.type "type") := He.exc_ok (T.c.fact 43)
theorem xm_BadKey (T : TX K mg) : PySem.W.exmOne K (.ref (He.ga K "BadKey")) (.ref (He.ga K "HandError")) = some true := He.exm_ok (T.c.fact 49)
theorem xm_BadText (T : TX K mg) : PySem.W.exmOne K (.ref (He.ga K "BadText")) (.ref (He.ga K "HandError")) = some true := He.exm_ok (T.c.fact 50)
theorem xm_BadSize (T : TX K mg) : PySem.W.exmOne K (.ref (He.ga K "BadSize")) (.ref (He.ga K "HandError")) = some true := He.exm_ok (T.c.fact 51)
theorem xm_BadPlace (T : TX K mg) : PySem.W.exmOne K (.ref (He.ga K "BadPlace")) (.ref (He.ga K "HandError")) = some true := He.exm_ok (T.c.fact 52)
theorem ex_BadKey (T : TX K mg) : ExcC K (He.ga K "BadKey") := excB_ok (ex_at T.x 0 (f := fun K => excB K (He.ga K "BadKey")))
theorem ki_BadKey_BadKey (T : TX K mg) : PySem.W.kitOne K (.ref (He.ga K "BadKey")) (.ref (He.ga K "BadKey")) = some true := kitB_ok (ex_at T.x 1 (f := fun K => kitB K (He.ga K "BadKey") (.ref (He.ga K "BadKey")) true))
theorem ki_BadKey_BadText (T : TX K mg) : PySem.W.kitOne K (.ref (He.ga K "BadKey")) (.ref (He.ga K "BadText")) = some false := kitB_ok (ex_at T.x 2 (f := fun K => kitB K (He.ga K "BadKey") (.ref (He.ga K "BadText")) false))
theorem ki_BadKey_BadSize (T : TX K mg) : PySem.W.kitOne K (.ref (He.ga K "BadKey")) (.ref (He.ga K "BadSize")) = some false := kitB_ok (ex_at T.x 3 (f := fun K => kitB K (He.ga K "BadKey") (.ref (He.ga K "BadSize")) false))
theorem ki_BadKey_BadPlace (T : TX K mg) : PySem.W.kitOne K (.ref (He.ga K "BadKey")) (.ref (He.ga K "BadPlace")) = some false := kitB_ok (ex_at T.x 4 (f := fun K => kitB K (He.ga K "BadKey") (.ref (He.ga K "BadPlace")) false))
theorem ki_BadKey_ValueError (T : TX K mg) : PySem.W.kitOne K (.ref (He.ga K "BadKey")) (.type "ValueError") = some true := kitB_ok (ex_at T.x 5 (f := fun K => kitB K (He.ga K "BadKey") (.type "ValueError") true))
theorem ex_BadText (T : TX K mg) : ExcC K (He.ga K "BadText") := excB_ok (ex_at T.x 6 (f := fun K => excB K (He.ga K "BadText")))
theorem ki_BadText_BadKey (T : TX K mg) : PySem.W.kitOne K (.ref (He.ga K "BadText")) (.ref (He.ga K "BadKey")) = some false := kitB_ok (ex_at T.x 7 (f := fun K => kitB K (He.ga K "BadText") (.ref (He.ga K "BadKey")) false))
theorem ki_BadText_BadText (T : TX K mg) : PySem.W.kitOne K (.ref (He.ga K "BadText")) (.ref (He.ga K "BadText")) = some true := kitB_ok (ex_at T.x 8 (f := fun K => kitB K (He.ga K "BadText") (.ref (He.ga K "BadText")) true))
theorem ki_BadText_BadSize (T : TX K mg) : PySem.W.kitOne K (.ref (He.ga K "BadText")) (.ref (He.ga K "BadSize")) = some false := kitB_ok (ex_at T.x 9 (f := fun K => kitB K (He.ga K "BadText") (.ref (He.ga K "BadSize")) false))
theorem ki_BadText_BadPlace (T : TX K mg) : PySem.W.kitOne K (.ref (He.ga K "BadText")) (.ref (He.ga K "BadPlace")) = some false := kitB_ok (ex_at T.x 10 (f := fun K => kitB K (He.ga K "BadText") (.ref (He.ga K "BadPlace")) false))
theorem ki_BadText_ValueError (T : TX K mg) : PySem.W.kitOne K (.ref (He.ga K "BadText")) (.type "ValueError") = some true := kitB_ok (ex_at T.x 11 (f := fun K => kitB K (He.ga K "BadText") (.type "ValueError") true))
theorem ex_BadSize (T : TX K mg) : ExcC K (He.ga K "BadSize") := excB_ok (ex_at T.x 12 (f := fun K => excB K (He.ga K "BadSize")))
theorem ki_BadSize_BadKey (T : TX K mg) : PySem.W.kitOne K (.ref (He.ga K "BadSize")) (.ref (He.ga K "BadKey")) = some false := kitB_ok (ex_at T.x 13 (f := fun K => kitB K (He.ga K "BadSize") (.ref (He.ga K "BadKey")) false))
theorem ki_BadSize_BadText (T : TX K mg) : PySem.W.kitOne K (.ref (He.ga K "BadSize")) (.ref (He.ga K "BadText")) = some false := kitB_ok (ex_at T.x 14 (f := fun K => kitB K (He.ga K "BadSize") (.ref (He.ga K "BadText")) false))
theorem ki_BadSize_BadSize (T : TX K mg) : PySem.W.kitOne K (.ref (He.ga K "BadSize")) (.ref (He.ga K "BadSize")) = some true := kitB_ok (ex_at T.x 15 (f := fun K => kitB K (He.ga K "BadSize") (.ref (He.ga K "BadSize")) true))
theorem ki_BadSize_BadPlace (T : TX K mg) : PySem.W.kitOne K (.ref (He.ga K "BadSize")) (.ref (He.ga K "BadPlace")) = some false := kitB_ok (ex_at T.x 16 (f := fun K => kitB K (He.ga K "BadSize") (.ref (He.ga K "BadPlace")) false))
theorem ki_BadSize_ValueError (T : TX K mg) : PySem.W.kitOne K (.ref (He.ga K "BadSize")) (.type "ValueError") = some true := kitB_ok (ex_at T.x 17 (f := fun K => kitB K (He.ga K "BadSize") (.type "ValueError") true))
theorem ex_BadPlace (T : TX K mg) : ExcC K (He.ga K "BadPlace") := excB_ok (ex_at T.x 18 (f := fun K => excB K (He.ga K "BadPlace")))
theorem ki_BadPlace_BadKey (T : TX K mg) : PySem.W.kitOne K (.ref (He.ga K "BadPlace")) (.ref (He.ga K "BadKey")) = some false := kitB_ok (ex_at T.x 19 (f := fun K => kitB K (He.ga K "BadPlace") (.ref (He.ga K "BadKey")) false))
theorem ki_BadPlace_BadText (T : TX K mg) : PySem.W.kitOne K (.ref (He.ga K "BadPlace")) (.ref (He.ga K "BadText")) = some false := kitB_ok (ex_at T.x 20 (f := fun K => kitB K (He.ga K "BadPlace") (.ref (He.ga K "BadText")) false))
theorem ki_BadPlace_BadSize (T : TX K mg) : PySem.W.kitOne K (.ref (He.ga K "BadPlace")) (.ref (He.ga K "BadSize")) = some false := kitB_ok (ex_at T.x 21 (f := fun K => kitB K (He.ga K "BadPlace") (.ref (He.ga K "BadSize")) false))
theorem ki_BadPlace_BadPlace (T : TX K mg) : PySem.W.kitOne K (.ref (He.ga K "BadPlace")) (.ref (He.ga K "BadPlace")) = some true := kitB_ok (ex_at T.x 22 (f := fun K => kitB K (He.ga K "BadPlace") (.ref (He.ga K "BadPlace")) true))
theorem ki_BadPlace_ValueError (T : TX K mg) : PySem.W.kitOne K (.ref (He.ga K "BadPlace")) (.type "ValueError") = some true := kitB_ok (ex_at T.x 23 (f := fun K => kitB K (He.ga K "BadPlace") (.type "ValueError") true))
theorem fn_is_sign (T : TX K mg) : ∃ fd, FunD K "is_sign" "is_sign" (defArgs s_is_sign) (defBody s_is_sign) (defScope s_is_sign) [] [] (He.fAd K ("is_sign", none)) fd := T.c.def_ 0 (d := ⟨("is_sign", none), "is_sign", "is_sign", defArgs s_is_sign, defBody s_is_sign, defScope s_is_sign, [], []⟩)
theorem fn_look_text (T : TX K mg) : ∃ fd, FunD K "look_text" "look_text" (defArgs s_look_text) (defBody s_look_text) (defScope s_look_text) [] [] (He.fAd K ("look_text", none)) fd := T.c.def_ 1 (d := ⟨("look_text", none), "look_text", "look_text", defArgs s_look_text, defBody s_look_text, defScope s_look_text, [], []⟩)
theorem fn_History_init (T : TX K mg) : ∃ fd, FunD K "__init__" "History.__init__" (defArgs s_History_init) (defBody s_History_init) (defScope s_History_init) [] [] (He.fAd K ("History", some "__init__")) fd := T.c.def_ 2 (d := ⟨("History", some "__init__"), "__init__", "History.__init__", defArgs s_History_init, defBody s_History_init, defScope s_History_init, [], []⟩)
theorem fn_History_add (T : TX K mg) : ∃ fd, FunD K "add" "History.add" (defArgs s_History_add) (defBody s_History_add) (defScope s_History_add) [] [] (He.fAd K ("History", some "add")) fd := T.c.def_ 3 (d := ⟨("History", some "add"), "add", "History.add", defArgs s_History_add, defBody s_History_add, defScope s_History_add, [], []⟩)
theorem fn_History_all_lines (T : TX K mg) : ∃ fd, FunD K "all_lines" "History.all_lines" (defArgs s_History_all_lines) (defBody s_History_all_lines) (defScope s_History_all_lines) [] [] (He.fAd K ("History", some "all_lines")) fd := T.c.def_ 4 (d := ⟨("History", some "all_lines"), "all_lines", "History.all_lines", defArgs s_History_all_lines, defBody s_History_all_lines, defScope s_History_all_lines, [], []⟩)
theorem fn_History_here (T : TX K mg) : ∃ fd, FunD K "here" "History.here" (defArgs s_History_here) (defBody s_History_here) (defScope s_History_here) [] [] (He.fAd K ("History", some "here")) fd := T.c.def_ 5 (d := ⟨("History", some "here"), "here", "History.here", defArgs s_History_here, defBody s_History_here, defScope s_History_here, [], []⟩)
theorem fn_History_many (T : TX K mg) : ∃ fd, FunD K "many" "History.many" (defArgs s_History_many) (defBody s_History_many) (defScope s_History_many) [] [] (He.fAd K ("History", some "many")) fd := T.c.def_ 6 (d := ⟨("History", some "many"), "many", "History.many", defArgs s_History_many, defBody s_History_many, defScope s_History_many, [], []⟩)
theorem fn_History_keep (T : TX K mg) : ∃ fd, FunD K "keep" "History.keep" (defArgs s_History_keep) (defBody s_History_keep) (defScope s_History_keep) [] [] (He.fAd K ("History", some "keep")) fd := T.c.def_ 7 (d := ⟨("History", some "keep"), "keep", "History.keep", defArgs s_History_keep, defBody s_History_keep, defScope s_History_keep, [], []⟩)
theorem fn_History_go (T : TX K mg) : ∃ fd, FunD K "go" "History.go" (defArgs s_History_go) (defBody s_History_go) (defScope s_History_go) [] [] (He.fAd K ("History", some "go")) fd := T.c.def_ 8 (d := ⟨("History", some "go"), "go", "History.go", defArgs s_History_go, defBody s_History_go, defScope s_History_go, [], []⟩)
theorem fn_History_find (T : TX K mg) : ∃ fd, FunD K "find" "History.find" (defArgs s_History_find) (defBody s_History_find) (defScope s_History_find) [] [] (He.fAd K ("History", some "find")) fd := T.c.def_ 9 (d := ⟨("History", some "find"), "find", "History.find", defArgs s_History_find, defBody s_History_find, defScope s_History_find, [], []⟩)
theorem fn_l_cell (T : TX K mg) : ∃ fd, FunD K "_law_cell" "_law_cell" (defArgs s_l_cell) (defBody s_l_cell) (defScope s_l_cell) [] [] (He.fAd K ("_law_cell", none)) fd := T.c.def_ 10 (d := ⟨("_law_cell", none), "_law_cell", "_law_cell", defArgs s_l_cell, defBody s_l_cell, defScope s_l_cell, [], []⟩)
theorem fn_l_mix (T : TX K mg) : ∃ fd, FunD K "_law_mix" "_law_mix" (defArgs s_l_mix) (defBody s_l_mix) (defScope s_l_mix) [] [] (He.fAd K ("_law_mix", none)) fd := T.c.def_ 11 (d := ⟨("_law_mix", none), "_law_mix", "_law_mix", defArgs s_l_mix, defBody s_l_mix, defScope s_l_mix, [], []⟩)
theorem fn_l_draw (T : TX K mg) : ∃ fd, FunD K "_law_draw" "_law_draw" (defArgs s_l_draw) (defBody s_l_draw) (defScope s_l_draw) [] [] (He.fAd K ("_law_draw", none)) fd := T.c.def_ 12 (d := ⟨("_law_draw", none), "_law_draw", "_law_draw", defArgs s_l_draw, defBody s_l_draw, defScope s_l_draw, [], []⟩)
theorem fn_l_pick (T : TX K mg) : ∃ fd, FunD K "_law_pick" "_law_pick" (defArgs s_l_pick) (defBody s_l_pick) (defScope s_l_pick) [] [] (He.fAd K ("_law_pick", none)) fd := T.c.def_ 13 (d := ⟨("_law_pick", none), "_law_pick", "_law_pick", defArgs s_l_pick, defBody s_l_pick, defScope s_l_pick, [], []⟩)
theorem fn_l_refusal (T : TX K mg) : ∃ fd, FunD K "_law_refusal" "_law_refusal" (defArgs s_l_refusal) (defBody s_l_refusal) (defScope s_l_refusal) [] [] (He.fAd K ("_law_refusal", none)) fd := T.c.def_ 14 (d := ⟨("_law_refusal", none), "_law_refusal", "_law_refusal", defArgs s_l_refusal, defBody s_l_refusal, defScope s_l_refusal, [], []⟩)
theorem fn_l_told (T : TX K mg) : ∃ fd, FunD K "_law_told" "_law_told" (defArgs s_l_told) (defBody s_l_told) (defScope s_l_told) [] [] (He.fAd K ("_law_told", none)) fd := T.c.def_ 15 (d := ⟨("_law_told", none), "_law_told", "_law_told", defArgs s_l_told, defBody s_l_told, defScope s_l_told, [], []⟩)
theorem fn_l_bad (T : TX K mg) : ∃ fd, FunD K "_law_bad" "_law_bad" (defArgs s_l_bad) (defBody s_l_bad) (defScope s_l_bad) [] [] (He.fAd K ("_law_bad", none)) fd := T.c.def_ 16 (d := ⟨("_law_bad", none), "_law_bad", "_law_bad", defArgs s_l_bad, defBody s_l_bad, defScope s_l_bad, [], []⟩)
theorem fn_law (T : TX K mg) : ∃ fd, FunD K "law" "law" (defArgs s_law) (defBody s_law) (defScope s_law) [] [] (He.fAd K ("law", none)) fd := T.c.def_ 17 (d := ⟨("law", none), "law", "law", defArgs s_law, defBody s_law, defScope s_law, [], []⟩)
end
abbrev n_is_sign : List Str := ["sign"]
abbrev p_is_sign : List Str := ["sign"]
theorem sc_is_sign : FnScope n_is_sign p_is_sign (defScope s_is_sign) := ⟨rfl, rfl, rfl, by decide +kernel, rfl, by decide +kernel, by decide +kernel⟩
theorem bd_is_sign : Bnd "is_sign" "is_sign" s_is_sign p_is_sign := fun _ _ _ _ _ _ us hl => match us, hl with | [_], _ => rfl
abbrev n_look_text : List Str := ["text", "sign"]
abbrev p_look_text : List Str := ["text"]
theorem sc_look_text : FnScope n_look_text p_look_text (defScope s_look_text) := ⟨rfl, rfl, rfl, by decide +kernel, rfl, by decide +kernel, by decide +kernel⟩
theorem bd_look_text : Bnd "look_text" "look_text" s_look_text p_look_text := fun _ _ _ _ _ _ us hl => match us, hl with | [_], _ => rfl
abbrev n_History_init : List Str := ["self", "most"]
abbrev p_History_init : List Str := ["self", "most"]
theorem sc_History_init : FnScope n_History_init p_History_init (defScope s_History_init) := ⟨rfl, rfl, rfl, by decide +kernel, rfl, by decide +kernel, by decide +kernel⟩
theorem bd_History_init : Bnd "__init__" "History.__init__" s_History_init p_History_init := fun _ _ _ _ _ _ us hl => match us, hl with | [_, _], _ => rfl
abbrev n_History_add : List Str := ["self", "text"]
abbrev p_History_add : List Str := ["self", "text"]
theorem sc_History_add : FnScope n_History_add p_History_add (defScope s_History_add) := ⟨rfl, rfl, rfl, by decide +kernel, rfl, by decide +kernel, by decide +kernel⟩
theorem bd_History_add : Bnd "add" "History.add" s_History_add p_History_add := fun _ _ _ _ _ _ us hl => match us, hl with | [_, _], _ => rfl
abbrev n_History_all_lines : List Str := ["self"]
abbrev p_History_all_lines : List Str := ["self"]
theorem sc_History_all_lines : FnScope n_History_all_lines p_History_all_lines (defScope s_History_all_lines) := ⟨rfl, rfl, rfl, by decide +kernel, rfl, by decide +kernel, by decide +kernel⟩
theorem bd_History_all_lines : Bnd "all_lines" "History.all_lines" s_History_all_lines p_History_all_lines := fun _ _ _ _ _ _ us hl => match us, hl with | [_], _ => rfl
abbrev n_History_here : List Str := ["self"]
abbrev p_History_here : List Str := ["self"]
theorem sc_History_here : FnScope n_History_here p_History_here (defScope s_History_here) := ⟨rfl, rfl, rfl, by decide +kernel, rfl, by decide +kernel, by decide +kernel⟩
theorem bd_History_here : Bnd "here" "History.here" s_History_here p_History_here := fun _ _ _ _ _ _ us hl => match us, hl with | [_], _ => rfl
abbrev n_History_many : List Str := ["self"]
abbrev p_History_many : List Str := ["self"]
theorem sc_History_many : FnScope n_History_many p_History_many (defScope s_History_many) := ⟨rfl, rfl, rfl, by decide +kernel, rfl, by decide +kernel, by decide +kernel⟩
theorem bd_History_many : Bnd "many" "History.many" s_History_many p_History_many := fun _ _ _ _ _ _ us hl => match us, hl with | [_], _ => rfl
abbrev n_History_keep : List Str := ["self", "text"]
abbrev p_History_keep : List Str := ["self", "text"]
theorem sc_History_keep : FnScope n_History_keep p_History_keep (defScope s_History_keep) := ⟨rfl, rfl, rfl, by decide +kernel, rfl, by decide +kernel, by decide +kernel⟩
theorem bd_History_keep : Bnd "keep" "History.keep" s_History_keep p_History_keep := fun _ _ _ _ _ _ us hl => match us, hl with | [_, _], _ => rfl
abbrev n_History_go : List Str := ["self", "spot"]
abbrev p_History_go : List Str := ["self", "spot"]
theorem sc_History_go : FnScope n_History_go p_History_go (defScope s_History_go) := ⟨rfl, rfl, rfl, by decide +kernel, rfl, by decide +kernel, by decide +kernel⟩
theorem bd_History_go : Bnd "go" "History.go" s_History_go p_History_go := fun _ _ _ _ _ _ us hl => match us, hl with | [_, _], _ => rfl
abbrev n_History_find : List Str := ["self", "part", "spot", "k"]
abbrev p_History_find : List Str := ["self", "part", "spot"]
theorem sc_History_find : FnScope n_History_find p_History_find (defScope s_History_find) := ⟨rfl, rfl, rfl, by decide +kernel, rfl, by decide +kernel, by decide +kernel⟩
theorem bd_History_find : Bnd "find" "History.find" s_History_find p_History_find := fun _ _ _ _ _ _ us hl => match us, hl with | [_, _, _], _ => rfl
abbrev n_l_cell : List Str := ["_law_script", "_law_k"]
abbrev p_l_cell : List Str := ["_law_script", "_law_k"]
theorem sc_l_cell : FnScope n_l_cell p_l_cell (defScope s_l_cell) := ⟨rfl, rfl, rfl, by decide +kernel, rfl, by decide +kernel, by decide +kernel⟩
theorem bd_l_cell : Bnd "_law_cell" "_law_cell" s_l_cell p_l_cell := fun _ _ _ _ _ _ us hl => match us, hl with | [_, _], _ => rfl
abbrev n_l_mix : List Str := ["_law_script", "_law_k", "_law_number"]
abbrev p_l_mix : List Str := ["_law_script", "_law_k"]
theorem sc_l_mix : FnScope n_l_mix p_l_mix (defScope s_l_mix) := ⟨rfl, rfl, rfl, by decide +kernel, rfl, by decide +kernel, by decide +kernel⟩
theorem bd_l_mix : Bnd "_law_mix" "_law_mix" s_l_mix p_l_mix := fun _ _ _ _ _ _ us hl => match us, hl with | [_, _], _ => rfl
abbrev n_l_draw : List Str := ["_law_script", "_law_town", "_law_many"]
abbrev p_l_draw : List Str := ["_law_script", "_law_town", "_law_many"]
theorem sc_l_draw : FnScope n_l_draw p_l_draw (defScope s_l_draw) := ⟨rfl, rfl, rfl, by decide +kernel, rfl, by decide +kernel, by decide +kernel⟩
theorem bd_l_draw : Bnd "_law_draw" "_law_draw" s_l_draw p_l_draw := fun _ _ _ _ _ _ us hl => match us, hl with | [_, _, _], _ => rfl
abbrev n_l_pick : List Str := ["_law_script", "_law_town", "_law_some"]
abbrev p_l_pick : List Str := ["_law_script", "_law_town", "_law_some"]
theorem sc_l_pick : FnScope n_l_pick p_l_pick (defScope s_l_pick) := ⟨rfl, rfl, rfl, by decide +kernel, rfl, by decide +kernel, by decide +kernel⟩
theorem bd_l_pick : Bnd "_law_pick" "_law_pick" s_l_pick p_l_pick := fun _ _ _ _ _ _ us hl => match us, hl with | [_, _, _], _ => rfl
abbrev n_l_refusal : List Str := ["_law_held", "_law_kinds"]
abbrev p_l_refusal : List Str := ["_law_held"]
theorem sc_l_refusal : FnScope n_l_refusal p_l_refusal (defScope s_l_refusal) := ⟨rfl, rfl, rfl, by decide +kernel, rfl, by decide +kernel, by decide +kernel⟩
theorem bd_l_refusal : Bnd "_law_refusal" "_law_refusal" s_l_refusal p_l_refusal := fun _ _ _ _ _ _ us hl => match us, hl with | [_], _ => rfl
abbrev n_l_told : List Str := ["_law_history", "_law_word", "_law_one", "_law_other", "_law_held", "_law_found", "e"]
abbrev p_l_told : List Str := ["_law_history", "_law_word", "_law_one", "_law_other"]
theorem sc_l_told : FnScope n_l_told p_l_told (defScope s_l_told) := ⟨rfl, rfl, rfl, by decide +kernel, rfl, by decide +kernel, by decide +kernel⟩
theorem bd_l_told : Bnd "_law_told" "_law_told" s_l_told p_l_told := fun _ _ _ _ _ _ us hl => match us, hl with | [_, _, _, _], _ => rfl
abbrev n_l_bad : List Str := ["_law_history", "_law_some"]
abbrev p_l_bad : List Str := ["_law_history"]
theorem sc_l_bad : FnScope n_l_bad p_l_bad (defScope s_l_bad) := ⟨rfl, rfl, rfl, by decide +kernel, rfl, by decide +kernel, by decide +kernel⟩
theorem bd_l_bad : Bnd "_law_bad" "_law_bad" s_l_bad p_l_bad := fun _ _ _ _ _ _ us hl => match us, hl with | [_], _ => rfl
abbrev n_law : List Str := ["_law_script", "_law_town", "_law_most", "_law_history", "_law_kept", "_law_shown", "_law_here", "_law_k", "_law_way", "_law_text", "_law_goal", "_law_due", "_law_part", "_law_spot", "_law_some", "_law_j"]
abbrev p_law : List Str := ["_law_script"]
theorem sc_law : FnScope n_law p_law (defScope s_law) := ⟨rfl, rfl, rfl, by decide +kernel, rfl, by decide +kernel, by decide +kernel⟩
theorem bd_law : Bnd "law" "law" s_law p_law := fun _ _ _ _ _ _ us hl => match us, hl with | [_], _ => rfl
def fs_History (a0 a1 a2 a3 : V) : List (Str × V) := [("most", a0), ("kept", a1), ("shown", a2), ("spot", a3)]
theorem lk_History : (∀ a0 a1 a2 a3 : V, (fs_History a0 a1 a2 a3).lookup ("most" : Str) = some a0) ∧ (∀ a0 a1 a2 a3 : V, (fs_History a0 a1 a2 a3).lookup ("kept" : Str) = some a1) ∧ (∀ a0 a1 a2 a3 : V, (fs_History a0 a1 a2 a3).lookup ("shown" : Str) = some a2) ∧ (∀ a0 a1 a2 a3 : V, (fs_History a0 a1 a2 a3).lookup ("spot" : Str) = some a3) ∧ (∀ a0 a1 a2 a3 : V, (fs_History a0 a1 a2 a3).lookup ("add" : Str) = none) ∧ (∀ a0 a1 a2 a3 : V, (fs_History a0 a1 a2 a3).lookup ("all_lines" : Str) = none) ∧ (∀ a0 a1 a2 a3 : V, (fs_History a0 a1 a2 a3).lookup ("here" : Str) = none) ∧ (∀ a0 a1 a2 a3 : V, (fs_History a0 a1 a2 a3).lookup ("many" : Str) = none) ∧ (∀ a0 a1 a2 a3 : V, (fs_History a0 a1 a2 a3).lookup ("keep" : Str) = none) ∧ (∀ a0 a1 a2 a3 : V, (fs_History a0 a1 a2 a3).lookup ("go" : Str) = none) ∧ (∀ a0 a1 a2 a3 : V, (fs_History a0 a1 a2 a3).lookup ("find" : Str) = none) ∧ (∀ a0 a1 a2 a3 x : V, putF "most" x (fs_History a0 a1 a2 a3) = fs_History x a1 a2 a3) ∧ (∀ a0 a1 a2 a3 x : V, putF "kept" x (fs_History a0 a1 a2 a3) = fs_History a0 x a2 a3) ∧ (∀ a0 a1 a2 a3 x : V, putF "shown" x (fs_History a0 a1 a2 a3) = fs_History a0 a1 x a3) ∧ (∀ a0 a1 a2 a3 x : V, putF "spot" x (fs_History a0 a1 a2 a3) = fs_History a0 a1 a2 x) ∧ (∀ a0 a1 a2 a3 : V, ((fs_History a0 a1 a2 a3).length < 1000) = True) := by
  refine ⟨?_, ?_, ?_, ?_, ?_, ?_, ?_, ?_, ?_, ?_, ?_, ?_, ?_, ?_, ?_, ?_⟩ <;> intros <;> first | rfl | exact eq_true (by show _ < _; simp [fs_History])
theorem mk_fs_History : (∀ a0 : V, putF "most" a0 [] = [(("most" : Str), a0)]) ∧ (∀ a0 a1 : V, putF "kept" a1 [(("most" : Str), a0)] = [(("most" : Str), a0), (("kept" : Str), a1)]) ∧ (∀ a0 a1 a2 : V, putF "shown" a2 [(("most" : Str), a0), (("kept" : Str), a1)] = [(("most" : Str), a0), (("kept" : Str), a1), (("shown" : Str), a2)]) ∧ (∀ a0 a1 a2 a3 : V, putF "spot" a3 [(("most" : Str), a0), (("kept" : Str), a1), (("shown" : Str), a2)] = fs_History a0 a1 a2 a3) ∧ ((([] : List (Str × V)).length < 1000) = True) ∧ (∀ a0 : V, (([(("most" : Str), a0)] : List (Str × V)).length < 1000) = True) ∧ (∀ a0 a1 : V, (([(("most" : Str), a0), (("kept" : Str), a1)] : List (Str × V)).length < 1000) = True) ∧ (∀ a0 a1 a2 : V, (([(("most" : Str), a0), (("kept" : Str), a1), (("shown" : Str), a2)] : List (Str × V)).length < 1000) = True) := by
  refine ⟨?_, ?_, ?_, ?_, ?_, ?_, ?_, ?_⟩ <;> intros <;> first | rfl | exact eq_true (by show _ < _; simp)
theorem inj_History {a0 a1 a2 a3 b0 b1 b2 b3 : V} : (fs_History a0 a1 a2 a3 = fs_History b0 b1 b2 b3) = (a0 = b0 ∧ a1 = b1 ∧ a2 = b2 ∧ a3 = b3) := by
  unfold fs_History
  simp only [List.cons.injEq, Prod.mk.injEq, true_and, and_true]
theorem fk_History {K : PySem.W.Frag} {mg : Str → Option Value} (T : TX K mg) : (Cls K (He.ga K "History") = True) ∧ (NoAttr K (He.ga K "History") "most" = True) ∧ (NoAttr K (He.ga K "History") "kept" = True) ∧ (NoAttr K (He.ga K "History") "shown" = True) ∧ (NoAttr K (He.ga K "History") "spot" = True) := ⟨eq_true (cl_History T), eq_true (na_History_most T), eq_true (na_History_kept T), eq_true (na_History_shown T), eq_true (na_History_spot T)⟩
end LH
/-! ## Rd: readings by simp; loops, comprehensions -/
namespace LH
open PySem PySem.Spec PyProof.Rows L2
/-- texts as values -/
abbrev tv (t : List Nat) : V := .str (S t)
abbrev tvs (ts : List (List Nat)) : List V := ts.map tv
theorem tvs_add (us : List (List Nat)) (u : List Nat) : tvs (us ++ [u]) = tvs us ++ [tv u] := List.map_append
theorem ex_eq {α : Sort u} {a : α} {p : α → Prop} : (∃ x, a = x ∧ p x) = p a := propext ⟨fun ⟨_, e, h⟩ => e ▸ h, fun h => ⟨a, rfl, h⟩⟩
theorem ex_eq' {α : Sort u} {a : α} {p : α → Prop} : (∃ x, x = a ∧ p x) = p a := propext ⟨fun ⟨_, e, h⟩ => e ▸ h, fun h => ⟨a, rfl, h⟩⟩
theorem ex_eq0 {α : Sort u} {a : α} : (∃ x, a = x) = True := propext ⟨fun _ => trivial, fun _ => ⟨a, rfl⟩⟩
theorem cxK {CX : CXT} {P : Program} {w : World} {K : PySem.W.Frag} {mg : Str → Option Value} {base : Heap} {N : List Str} {qual : Str} {scope : Scope} {f : Addr} {cd : Value} {A : Around} {outer : List Env} {s : Shared} {H : Hp} {E : XK} :
    (cxOf CX P w K mg base N qual scope f cd A outer s H E).K = K := rfl
theorem if_tt {A B : Prop} : (if true = true then A else B) = A := if_pos rfl
theorem if_ff {A B : Prop} : (if false = true then A else B) = B := if_neg Bool.false_ne_true
theorem scII {i j : Int} : scal (.int i) (.int j) = true := rfl
theorem scSS {i j : Str} : scal (.str i) (.str j) = true := rfl
theorem scBB {i j : Bool} : scal (.bl i) (.bl j) = true := rfl
theorem scNN : scal .non .non = true := rfl
theorem scNI {j : Int} : scal .non (.int j) = true := rfl
theorem scNS {j : Str} : scal .non (.str j) = true := rfl
theorem scNB {j : Bool} : scal .non (.bl j) = true := rfl
theorem scIN {j : Int} : scal (.int j) .non = true := rfl
theorem scSN {j : Str} : scal (.str j) .non = true := rfl
theorem scBN {j : Bool} : scal (.bl j) .non = true := rfl
theorem scIS {i : Int} {j : Str} : scal (.int i) (.str j) = true := rfl
theorem scSI {i : Str} {j : Int} : scal (.str i) (.int j) = true := rfl
/-- the list comprehension behind its walk's making -/
def LcB (J : It) (g : TG) (tt : TT) (te : TE) (vs : List Nat) (σ : L2.St) (H1 : Hp) (Q : VK) : Prop := ∀ D, H1 D = none → ∃ W : Nat → Nat → Hp → Prop, (∃ m, W 0 m (upd H1 D (.lst []))) ∧ ∀ i m H, W i m H →
  (J.stop i H ∧ Q (.ref D) H) ∨ (J.go i H ∧ ∃ Nx : Hp → Prop, (∀ H', Nx H' → ∃ m', m' < m ∧ W (i + 1) m' H') ∧ ∀ x H', J.yld i H x H' → g x (wipe σ vs) H' fun σ2 H2 => wipe σ2 vs = wipe σ vs ∧ tt σ2 H2 fun b H3 =>
    if b = true then te σ2 H3 fun y H4 => ∃ acc, H4 D = some (.lst acc) ∧ acc.length < sizeLine ∧ Nx (upd H4 D (.lst (acc ++ [y]))) else Nx H3)
theorem tLc_eq {wi : TI} {g : TG} {tt : TT} {te : TE} {vs : List Nat} {σ : L2.St} {H : Hp} {Q : VK} : tLc wi g tt te vs σ H Q = wi σ H fun J H1 => LcB J g tt te vs σ H1 Q := rfl
/-- the for behind its walk's making -/
def ForB (J : It) (g : TG) (tb : TS) (D : Ends) (σ : L2.St) (H1 : Hp) : Prop := ∃ W : Nat → Nat → L2.St → Hp → Prop, (∃ m, W 0 m σ H1) ∧ ∀ i m σ H, W i m σ H →
  (J.stop i H ∧ D.nx σ H) ∨ (J.go i H ∧ ∃ N : L2.St → Hp → Prop, (∀ σ' H', N σ' H' → ∃ m', m' < m ∧ W (i + 1) m' σ' H') ∧ ∀ x H', J.yld i H x H' → g x σ H' fun σ2 H2 => tb { D with nx := N, ct := N, bk := D.nx } σ2 H2)
theorem tFor_eq {wi : TI} {g : TG} {tb : TS} {D : Ends} {σ : L2.St} {H : Hp} : tFor wi g tb D σ H = wi σ H fun J H1 => ForB J g tb D σ H1 := rfl

theorem same_upd {H H' : Hp} {p : Addr} {o : HO} (s : Same H H') (h : H p = none) : Same H (upd H' p o) := fun b u e => by
  rw [upd_ne (ne_of_none e h)]
  exact s b u e
theorem same_new {H : Hp} {p : Addr} {o : HO} (h : H p = none) : Same H (upd H p o) := same_upd (Same.refl H) h
theorem sq_of {K : PySem.W.Frag} {H : Hp} {a : Addr} {xs : List V} (h : H a = some (.lst xs)) : SqL K H a xs := .inl (.inl h)
theorem st_of {K : PySem.W.Frag} {H : Hp} {a : Addr} {xs : List V} (h : H a = some (.tup xs)) : SqT K H a xs := .inl (.inl h)
theorem rd_same {H H' : Hp} {a : Addr} {u : HO} (s : Same H H') (h : Rd H a u) : Rd H' a u := by
  rcases h with h | ⟨o, h⟩
  · exact .inl (s _ _ h)
  · exact .inr ⟨o, s _ _ h⟩
theorem seqT {K : PySem.W.Frag} {H H' : Hp} {a : Addr} {xs : List V} (s : Same H H') (h : SqT K H a xs) : SqT K H' a xs := by
  rcases h with h | h
  · exact .inl (rd_same s h)
  · exact .inr h

section
variable {g : TG} {tt : TT} {te : TE} {vs : List Nat} {σ : L2.St} {H : Hp} {Q : VK}
/-- a comprehension whose elements make nothing that matters: ys the items, f which are kept, v what is made of them -/
theorem lcb_gen {α : Type} {J : It} {n : Nat} {G : Hp → Prop} (ys : List α) (inj : α → V) (f : α → Bool) (v : α → V) (w : Walk J n G (YAt (ys.map inj))) (hn : n = ys.length) (hG : ∀ H', Same H H' → G H') (hz : ys.length ≤ 100000)
    (hs : ∀ y H', y ∈ ys → Same H H' → ∀ (Y : V → Hp → Prop) (N : Hp → Prop), (f y = true → ∀ H4, Same H' H4 → Y (v y) H4) → (f y = false → ∀ H3, Same H' H3 → N H3) →
      g (inj y) (wipe σ vs) H' fun σ2 H2 => wipe σ2 vs = wipe σ vs ∧ tt σ2 H2 fun b H3 => if b = true then te σ2 H3 Y else N H3)
    (hd : ∀ D H', H D = none → Same H H' → H' D = some (.lst ((ys.filter f).map v)) → Q (.ref D) H') : LcB J g tt te vs σ H Q := by
  intro D hD
  refine lc_it w (fun i H' => Same H H' ∧ H' D = some (.lst (((ys.take i).filter f).map v))) ⟨same_new hD, upd_same⟩ (fun i H' _ p => hG H' p.1) ?_ ?_
  · rintro i x H1 H2 hi ⟨s, e⟩ ⟨rfl, hx⟩
    rw [List.getElem?_map] at hx
    cases hy : ys[i]? with
    | none =>
      rw [hy] at hx
      cases hx
    | some y =>
      rw [hy] at hx
      have ex : inj y = x := Option.some.inj hx
      subst ex
      have et : ys.take (i + 1) = ys.take i ++ [y] := by rw [List.take_add_one, hy]; rfl
      refine hs y _ (List.mem_of_getElem? hy) s _ _ (fun hf H4 s4 => ?_) (fun hf H3 s3 => ?_)
      · refine ⟨_, s4 _ _ e, ?_, same_upd (s.trans s4) hD, ?_⟩
        · refine slt ?_
          have h1 := List.length_filter_le f (ys.take i)
          have h2 := List.length_take_le i ys
          have h3 : i < ys.length := by omega
          rw [List.length_map]
          have h4 : (ys.take i).length = i := by rw [List.length_take]; omega
          omega
        · rw [upd_same, et, List.filter_append, List.map_append, List.filter_cons, if_pos hf]
          rfl
      · refine ⟨s.trans s3, ?_⟩
        rw [s3 _ _ e, et, List.filter_append, List.map_append, List.filter_cons, if_neg (by rw [hf]; decide)]
        simp
  · rintro H' ⟨s, e⟩
    rw [hn, List.take_length] at e
    exact hd D H' hD s e
theorem walk_strS {t : List Nat} : Walk (Its (S t)) t.length (fun _ => True) (YAt (t.map fun c => V.str (S [c]))) := by
  have w := walk_str (z := S t)
  have e : (S t).cps.size = t.length := S_len t
  rw [e] at w
  refine w.mono (fun _ _ => trivial) fun i H x H' _ _ ⟨h1, c, h2, h3⟩ => ⟨h1, ?_⟩
  have h4 : t[i]? = some c := by
    rw [← h2]
    show t[i]? = (t.toArray)[i]?
    rw [List.getElem?_toArray]
  rw [List.getElem?_map, h4, h3]
  rfl
theorem walk_rng {lo : Int} {n : Nat} : Walk (Itr lo n) n (fun _ => True) (YAt ((List.range n).map fun i : Nat => V.int (lo + (i : Int)))) :=
  walk_range.mono (fun _ _ => trivial) fun i H x H' hi _ ⟨h1, h2⟩ => ⟨h1, by rw [List.getElem?_map, List.getElem?_range hi, h2]; rfl⟩
theorem lcb_str (t : List Nat) (f : Nat → Bool) (v : Nat → V) (hz : t.length ≤ 100000)
    (hs : ∀ c H', c ∈ t → Same H H' → ∀ (Y : V → Hp → Prop) (N : Hp → Prop), (f c = true → ∀ H4, Same H' H4 → Y (v c) H4) → (f c = false → ∀ H3, Same H' H3 → N H3) →
      g (.str (S [c])) (wipe σ vs) H' fun σ2 H2 => wipe σ2 vs = wipe σ vs ∧ tt σ2 H2 fun b H3 => if b = true then te σ2 H3 Y else N H3)
    (hd : ∀ D H', H D = none → Same H H' → H' D = some (.lst ((t.filter f).map v)) → Q (.ref D) H') : LcB (Its (S t)) g tt te vs σ H Q :=
  lcb_gen t (fun c => V.str (S [c])) f v walk_strS rfl (fun _ _ => trivial) hz hs hd
theorem lcb_rng (lo : Int) (n : Nat) (f : Int → Bool) (v : Int → V) (hz : n ≤ 100000)
    (hs : ∀ (k : Nat) H', k < n → Same H H' → ∀ (Y : V → Hp → Prop) (N : Hp → Prop), (f (lo + k) = true → ∀ H4, Same H' H4 → Y (v (lo + k)) H4) → (f (lo + k) = false → ∀ H3, Same H' H3 → N H3) →
      g (.int (lo + k)) (wipe σ vs) H' fun σ2 H2 => wipe σ2 vs = wipe σ vs ∧ tt σ2 H2 fun b H3 => if b = true then te σ2 H3 Y else N H3)
    (hd : ∀ D H', H D = none → Same H H' → H' D = some (.lst ((((List.range n).map fun k : Nat => lo + (k : Int)).filter f).map v)) → Q (.ref D) H') : LcB (Itr lo n) g tt te vs σ H Q := by
  refine lcb_gen ((List.range n).map fun k : Nat => lo + (k : Int)) V.int f v (by rw [List.map_map]; exact walk_rng) (by rw [List.length_map, List.length_range]) (fun _ _ => trivial) (by rw [List.length_map, List.length_range]; exact hz) (fun y H' hy => ?_) hd
  obtain ⟨k, hk, rfl⟩ := List.mem_map.mp hy
  exact hs k H' (List.mem_range.mp hk)
theorem lcb_list {α : Type} {K : PySem.W.Frag} {a : Addr} (ys : List α) (inj : α → V) (f : α → Bool) (v : α → V) (hl : SqL K H a (ys.map inj)) (hz : ys.length ≤ 100000)
    (hs : ∀ y H', y ∈ ys → Same H H' → ∀ (Y : V → Hp → Prop) (N : Hp → Prop), (f y = true → ∀ H4, Same H' H4 → Y (v y) H4) → (f y = false → ∀ H3, Same H' H3 → N H3) →
      g (inj y) (wipe σ vs) H' fun σ2 H2 => wipe σ2 vs = wipe σ vs ∧ tt σ2 H2 fun b H3 => if b = true then te σ2 H3 Y else N H3)
    (hd : ∀ D H', H D = none → Same H H' → H' D = some (.lst ((ys.filter f).map v)) → Q (.ref D) H') : LcB (Itl K a) g tt te vs σ H Q :=
  lcb_gen ys inj f v walk_list (by rw [List.length_map]) (fun _ s => s.seq hl) hz hs hd
theorem filter_tt {α : Type} : ∀ l : List α, l.filter (fun _ => true) = l
  | [] => rfl
  | a :: l => by rw [List.filter_cons, if_pos rfl, filter_tt l]
/-- the same where all are kept -/
theorem lcb_strM (t : List Nat) (v : Nat → V) (hz : t.length ≤ 100000)
    (hs : ∀ c H', c ∈ t → Same H H' → ∀ (Y : V → Hp → Prop), (∀ H4, Same H' H4 → Y (v c) H4) → g (.str (S [c])) (wipe σ vs) H' fun σ2 H2 => wipe σ2 vs = wipe σ vs ∧ te σ2 H2 Y)
    (hd : ∀ D H', H D = none → Same H H' → H' D = some (.lst (t.map v)) → Q (.ref D) H') : LcB (Its (S t)) g tYes te vs σ H Q := by
  refine lcb_str t (fun _ => true) v hz (fun c H' hc s Y N h1 _ => ?_) (by rw [filter_tt]; exact hd)
  have h := hs c H' hc s Y (h1 rfl)
  exact h
end
end LH
/-! ### loops, frames -/
namespace LH
open PySem PySem.Spec PyProof.Rows L2
section
variable {g : TG} {tb : TS} {D : Ends} {σ : L2.St} {H : Hp} {K : PySem.W.Frag}
theorem forb_rng {lo : Int} {n : Nat} (Pv : Nat → L2.St → Hp → Prop) (h0 : Pv 0 σ H) (hs : ∀ (i : Nat) σ' H', i < n → Pv i σ' H' → g (.int (lo + i)) σ' H' fun σ2 H2 => tb { D with nx := Pv (i + 1), ct := Pv (i + 1), bk := D.nx } σ2 H2)
    (hd : ∀ σ' H', Pv n σ' H' → D.nx σ' H') : ForB (Itr lo n) g tb D σ H := for_range Pv h0 hs hd
theorem forb_list {a : Addr} {xs : List V} (Pv : Nat → L2.St → Hp → Prop) (h0 : Pv 0 σ H) (hl : ∀ i σ' H', i ≤ xs.length → Pv i σ' H' → SqL K H' a xs)
    (hs : ∀ i x σ' H', xs[i]? = some x → Pv i σ' H' → g x σ' H' fun σ2 H2 => tb { D with nx := Pv (i + 1), ct := Pv (i + 1), bk := D.nx } σ2 H2) (hd : ∀ σ' H', Pv xs.length σ' H' → D.nx σ' H') : ForB (Itl K a) g tb D σ H := for_list Pv h0 hl hs hd
end
/-- what was tracked is as it was, but at F (tuples are at no time another); nothing goes -/
def Fx (F : List Addr) (H H' : Hp) : Prop := ∀ c o, H c = some o → (∃ o', H' c = some o') ∧ ((c ∉ F ∨ ∃ xs, o = .tup xs) → H' c = some o)
/-- no tuple is there -/
def NT (H : Hp) (p : Addr) : Prop := ∀ xs, H p ≠ some (.tup xs)
section
variable {F G : List Addr} {H H1 H2 H' : Hp} {a b c p : Addr} {o : HO} {xs : List V} {K : PySem.W.Frag}
theorem nt_lst {H : Hp} {p : Addr} {ys : List V} (e : H p = some (.lst ys)) : NT H p := fun xs h => by
  rw [e] at h
  cases h
theorem nt_ins {H : Hp} {p C dx : Addr} {fs : List (Str × V)} (e : H p = some (.ins C dx fs)) : NT H p := fun xs h => by
  rw [e] at h
  cases h
theorem nt_dK {H : Hp} {p : Addr} {kvs : List (Key × V)} (e : H p = some (.dK kvs)) : NT H p := fun xs h => by
  rw [e] at h
  cases h
theorem Fx.refl (F : List Addr) (H : Hp) : Fx F H H := fun _ _ e => ⟨⟨_, e⟩, fun _ => e⟩
theorem Fx.trans (x : Fx F H H1) (y : Fx F H1 H2) : Fx F H H2 := fun c o e => by
  obtain ⟨⟨o1, e1⟩, k⟩ := x c o e
  exact ⟨(y c o1 e1).1, fun n => (y c o (k n)).2 n⟩
theorem Fx.of (s : Same H H') : Fx F H H' := fun c o e => ⟨⟨_, s c o e⟩, fun _ => s c o e⟩
theorem Fx.mono (x : Fx F H H') (h : ∀ c ∈ F, c ∈ G) : Fx G H H' := fun c o e => ⟨(x c o e).1, fun n => (x c o e).2 (n.imp (fun q m => q (h c m)) id)⟩
theorem Fx.comp (x : Fx F H H1) (y : Fx G H1 H2) (h : ∀ c ∈ G, c ∈ F ∨ H c = none) : Fx F H H2 := fun c o e => by
  obtain ⟨⟨o1, e1⟩, k⟩ := x c o e
  refine ⟨(y c o1 e1).1, fun n => (y c o (k n)).2 (n.imp (fun n m => ?_) id)⟩
  rcases h c m with q | q
  · exact n q
  · rw [e] at q
    cases q
theorem Fx.upd (h : p ∈ F) (hp : NT H p) : Fx F H (L2.upd H p o) := fun c u e => by
  refine ⟨?_, fun n => ?_⟩
  · by_cases q : c = p
    · exact ⟨o, by rw [q, upd_same]⟩
    · exact ⟨u, by rw [upd_ne q]; exact e⟩
  · have ne : c ≠ p := fun z => by
      rcases n with n | ⟨xs, n⟩
      · exact n (by rw [z]; exact h)
      · rw [z, n] at e
        exact hp xs e
    rw [upd_ne ne]
    exact e
theorem Fx.new (h : H p = none) : Fx F H (L2.upd H p o) := Fx.of (same_new h)
theorem Fx.up (x : Fx F H H1) (h : p ∈ F) (hp : NT H1 p) : Fx F H (L2.upd H1 p o) := x.trans (Fx.upd h hp)
theorem Fx.nw (x : Fx F H H1) (h : H1 p = none) : Fx F H (L2.upd H1 p o) := x.trans (Fx.new h)
theorem Fx.at (x : Fx F H H') (e : H c = some o) (n : c ∉ F) : H' c = some o := (x c o e).2 (.inl n)
theorem Fx.tup (x : Fx F H H') (e : H c = some (.tup xs)) : H' c = some (.tup xs) := (x c _ e).2 (.inr ⟨_, rfl⟩)
theorem Fx.same (x : Fx [] H H') : Same H H' := fun c o e => (x c o e).2 (.inl List.not_mem_nil)
theorem Fx.rd {u : HO} (x : Fx F H H') (h : Rd H a u) (n : a ∉ F) : Rd H' a u := by
  rcases h with h | ⟨o, h⟩
  · exact .inl (x.at h n)
  · exact .inr ⟨o, x.at h n⟩
theorem Fx.sql (x : Fx F H H') (h : SqL K H a xs) (n : a ∉ F) : SqL K H' a xs := h.elim (fun q => .inl (x.rd q n)) .inr
theorem Fx.sqt (x : Fx F H H') (h : SqT K H a xs) (n : a ∉ F) : SqT K H' a xs := h.elim (fun q => .inl (x.rd q n)) .inr
/-- what is free was free -/
theorem Fx.free (x : Fx F H H') (n : H' p = none) : H p = none := by
  cases e : H p with
  | none => rfl
  | some o =>
    obtain ⟨⟨o', q⟩, _⟩ := x p o e
    rw [n] at q
    cases q
theorem tru_lst (h : H a = some (.lst xs)) : TruV K (.ref a) H (decide (xs ≠ [])) := by
  refine .inl ⟨xs, sq_of h, ?_⟩
  cases xs <;> rfl
theorem ne_of2 {p q : Addr} {o u : HO} (e : H p = some o) (f : H q = some u) (n : o ≠ u) : p ≠ q := fun z => n (by
  rw [z, f] at e
  exact (Option.some.inj e).symm)
theorem ne_il {p q C dx : Addr} {fs : List (Str × V)} {ys : List V} (e : H p = some (.ins C dx fs)) (f : H q = some (.lst ys)) : p ≠ q := ne_of2 e f (by intro z; cases z)
theorem ne_new {p q : Addr} {o : HO} (e : H p = some o) (f : H q = none) : p ≠ q := ne_of_none e f
/-- an address that a method leaves in the place of another one -/
abbrev New (H : Hp) (l l' : Addr) : Prop := l' = l ∨ H l' = none
/-- a free one is none of those put -/
theorem un {x : Addr} (h : upd H x o p = none) : x ≠ p ∧ H p = none := by
  by_cases e : p = x
  · rw [e, upd_same] at h
    cases h
  · rw [upd_ne e] at h
    exact ⟨fun q => e q.symm, h⟩
theorem Fx.nil (s : Same H H') : Fx [] H H' := Fx.of s
end
end LH
/-! ## X1: an error caught and kept, isinstance of it; further rules: o.f as a target, text * n, list.count -/
namespace LH
open PySem PySem.Spec PyProof.Rows L2

/-- an error of the class C that was caught, at a -/
def KX (C a : Addr) : HO := .ext fun h => ∃ (oe : Obj) (vs : Array Value), h.get? a = some oe ∧ Zc (.ref C) none oe ∧ oe.data = .fields vs
theorem kx_ok {P : Program} {w : World} {H : Hp} {h : Heap} {a C : Addr} {oe : Obj} {vs : Array Value} (e : h.get? a = some oe) (z : Zc (.ref C) none oe) (d : oe.data = .fields vs) : ObjOk P w H h a (KX C a) :=
  ⟨⟨oe, vs, e, z, d⟩, ⟨oe, e⟩, fun _ _ ⟨o, v, q, r⟩ k => ⟨o, v, k o q, r⟩⟩
section
variable {X : Cx} {pins : List (Addr × Obj)} {σ : L2.St} {H : Hp} {s : Shared}
/-- an object that is pinned, made behind the entry: from now on it is tracked -/
theorem track {a C : Addr} {oe : Obj} {vs : Array Value} (I : Inv X ((a, oe) :: pins) σ H s) (n0 : X.s_0.heap.get? a = none) (z : Zc (.ref C) none oe) (d : oe.data = .fields vs) (np : ∀ p ∈ X.pn ++ pins, p.1 ≠ a) : Inv X pins σ (upd H a (KX C a)) s := by
  obtain ⟨ea, na, nL, nF, _⟩ := I.pin (a, oe) (List.mem_append_right _ List.mem_cons_self)
  have old : ∀ b o, X.s_0.heap.get? b = some o → b ≠ a := fun b o e q => by
    rw [q, n0] at e
    cases e
  have ne : ∀ b o, H b = some o → b ≠ a := fun b o e => ne_of_none e na
  have B := I.base
  refine ⟨I.ok, I.os, I.bare, ⟨B.keep, B.slot, fun b o e n hx => ?_, B.there, fun b xs e => ?_, fun b o u e => ?_, fun b ps e => ?_⟩, I.loc, I.cell, ?_, fun x c e => ?_, fun p hp => ?_, fun b u e => ?_, I.len⟩
  · rw [upd_ne (old b o e)]
    exact B.free b o e n hx
  · have q := B.tups b xs e
    rw [upd_ne (ne b _ q)]
    exact q
  · have q := B.frzs b o u e
    rw [upd_ne (ne b _ q)]
    exact q
  · obtain ⟨m, q⟩ := B.tbls b ps e
    exact ⟨m, by rw [upd_ne (ne b _ q)]; exact q⟩
  · rw [upd_ne (Ne.symm nL)]
    exact I.free
  · have nc : c ≠ a := fun q => by
      obtain ⟨v, o, ho, hd⟩ := I.cell x c e
      rw [q, ea] at ho
      cases ho
      rw [d] at hd
      cases hd
    rw [upd_ne nc]
    exact I.freeC x c e
  · have hp2 : p ∈ X.pn ++ (a, oe) :: pins := by
      rcases List.mem_append.mp hp with q | q
      · exact List.mem_append_left _ q
      · exact List.mem_append_right _ (List.mem_cons_of_mem _ q)
    obtain ⟨e, n, r⟩ := I.pin p hp2
    exact ⟨e, by rw [upd_ne (np p hp)]; exact n, r⟩
  · by_cases hb : b = a
    · rw [hb, upd_same] at e
      cases e
      rw [hb]
      exact kx_ok ea z d
    · rw [upd_ne hb] at e
      exact (I.hok b u e).stay (fun _ _ _ q => q) (fun c q => by rw [upd_ne (ne c _ q)]; exact q) fun c xs q => by rw [upd_ne (ne c _ q)]; exact q
/-- what the clause 'except x as n' wishes, its one statement keeping the error: slot i is n's -/
def wKeep (K : PySem.W.Frag) (c : Value) (i : Nat) (ts : Addr → Value → Option Addr → TS) (D : Ends) : WX := fun cls d σ H =>
  ∃ C, cls = .ref C ∧ d = none ∧ PySem.W.exmOne K cls c = some true ∧ ∀ a, H a = none → ts a cls d { nx := fun σ' H' => D.nx (σ'.set i none) (upd H' a (KX C a)), rt := fun _ _ => False } (σ.set i (some (.ref a))) H
variable {x n : Str} {c : Value} {i : Nat} {body suite : List Stmt} {b₀ : Stmt} {np pos pos' : Pos} {tb : WX → TS} {ts : Addr → Value → Option Addr → TS}
/-- try: body / except x as n: suite, where the suite keeps the error: behind it the error is tracked -/
theorem ps_try_keep (hs : X.stack = X.env :: X.outer) (hf : X.env.frame = some X.env.locals) (hex : X.ex = []) (hN : X.N.Nodup) (hi : X.N[i]? = some n) (hln : X.env.kindOf n = some .local) (hc : Names X x c)
    (hb : ∀ (W : WX) (pn : List (Addr × Obj)) (xe : Value → Shared → Prop), Takes (X.tr pn xe) W → PassesOwn (model X.prog X.w) X.A X.env xe → PSs (X.tr pn xe) body (tb W))
    (hsu : ∀ (a : Addr) (oe : Obj) (cls : Value) (d : Option Addr) (pn : List (Addr × Obj)), Zc cls d oe → (∃ vs, oe.data = .fields vs) → PSs (X.suite a ((a, oe) :: pn)) (b₀ :: suite) (ts a cls d)) :
    PS X (.Try body [.ExceptHandler (some (.Name x np)) (some n) (b₀ :: suite) pos'] [] [] pos) (fun D σ H => tb (wKeep X.K c i ts D) D σ H) := by
  refine ⟨fun pins s σ H D I h => wpAny_Try_except ?_⟩
  have ok := I.ok
  let land : Value → Shared → Prop := fun e z1 => wpAny (model X.prog X.w) X.A (noteFrame e X.env) (fun _ z2 => wpAny (model X.prog X.w) X.A (setFlight e none) (fun _ z3 =>
    wpAny (model X.prog X.w) X.A (handleBy e X.env [.ExceptHandler (some (.Name x np)) (some n) (b₀ :: suite) pos']) (SP X pins D) X.xe z3) X.xe z2) X.xe z1
  have through := (hb (wKeep X.K c i ts D) (X.pn ++ pins) land (fun u z xx => ?_) PassesOwn.looking).run [] s σ H D (I.toTry _) h
  · refine wpAny_mono through (fun f z1 q => ?_) (fun e z1 he => he)
    cases f with
    | next =>
      obtain ⟨σ1, H1, J, q⟩ := q
      exact wpAny_execs_nil ⟨σ1, H1, J.ofTry ok, q⟩
    | brk =>
      obtain ⟨σ1, H1, J, q⟩ := q
      exact ⟨σ1, H1, J.ofTry ok, q⟩
    | cont =>
      obtain ⟨σ1, H1, J, q⟩ := q
      exact ⟨σ1, H1, J.ofTry ok, q⟩
    | ret u =>
      obtain ⟨v, σ1, H1, J, r, q⟩ := q
      exact ⟨v, σ1, H1, J.ofTry ok, r, q⟩
  · -- the error is here
    obtain ⟨a, B, sI, pins2, σ1, H1, cls, d, rfl, J0, nb, up, sky, na, os, ag, C, rfl, rfl, hm, hyes⟩ := xx
    have J : Inv X pins σ1 H1 sI := J0.ofTry ok
    have sky1 : Sky B (X.env :: X.outer) a (Zc (.ref C) none) X.env.locals z.heap := hs ▸ sky
    show land (.ref a) z
    refine Sky.land Zc.steady (by rw [ok.frames, hs]) hf sky1 fun h3 fly up3 => ?_
    have K3 : Inv X pins σ1 H1 { z with heap := h3 } := J.landed nb fly.1 (up.trans up3) os ag
    obtain ⟨o3, v3, g3, z3, d3⟩ := fly.there
    have noFr : a ∉ frs (X.env :: X.outer) := fun hm => by
      obtain ⟨_, o, e, bad⟩ := fly.2.2.1.mem hm
      rw [g3] at e
      cases e
      exact bad _ d3
    have nL : a ≠ X.env.locals := fun q => noFr (List.mem_filterMap.mpr ⟨X.env, List.mem_cons_self, by rw [hf, q]⟩)
    have nF : a ∉ X.fs := fun hm => by
      obtain ⟨e, he, q⟩ := List.mem_filterMap.mp hm
      exact noFr (List.mem_filterMap.mpr ⟨e, List.mem_cons_of_mem _ he, q⟩)
    -- it is younger than the entry, and no pinned object
    have gone : sI.heap.get? a = none := by
      cases e : sI.heap.get? a with
      | none => rfl
      | some o =>
        have q := nb a o e (by rw [show (X.tr (X.pn ++ pins) land).stack = X.env :: X.outer from hs]; exact noFr)
        rw [fly.2.1] at q
        cases q
    have n0 : X.s_0.heap.get? a = none := by
      cases e : X.s_0.heap.get? a with
      | none => rfl
      | some o =>
        obtain ⟨o2, q⟩ := J.base.there a o e (by rw [hex]; exact List.not_mem_nil)
        rw [gone] at q
        cases q
    have nP : ∀ p ∈ X.pn ++ pins, p.1 ≠ a := fun p hp q => by
      have e := (J.pin p hp).1
      rw [q, gone] at e
      cases e
    have S3 := K3.suite g3 d3 na nL nF
    refine wpAny_handleBy_cons (codeAny_handlers_test ?_) (by intro q; cases q)
    have ty : PySem.W.Looks (model X.prog X.w) h3 (typeOf (.ref a)) (.ref C) := fun A Q E s k q => wpAny_typeOf_ref (k _ _ g3) (by rw [z3.1]; exact q)
    have named : ∀ {Q : Value → Shared → Prop} {E : Value → Shared → Prop}, Q c { z with heap := h3 } → wpAny (model X.prog X.w) (X.A.mark (some (.ref a))) (eval (.Name x np) X.env) Q E { z with heap := h3 } := fun {Q E} q => by
      obtain ⟨hg, hdb, hx | ⟨hx, hv, hnn⟩⟩ := hc
      · exact ld_glob (X := X.suite a ((a, o3) :: (X.pn ++ pins))) S3 hg hx q hdb
      · exact ld_blt (X := X.suite a ((a, o3) :: (X.pn ++ pins))) S3 hg hx hv q hnn hdb
    refine named ((PySem.W.exm_one (M := model X.prog X.w) K3.kIn ty hm).here (codeAny_handlers_suite_as (HandSPX.lands_againZ fly fun h4 fl4 up4 => ?_)))
    obtain ⟨o4, v4, g4, z4, d4⟩ := fl4.there
    have K4 : Inv X pins σ1 H1 { z with heap := h4 } := J.landed nb fl4.1 ((up.trans up3).trans up4) os ag
    have S4 := K4.suite g4 d4 na nL nF
    refine store_ok (X := X.suite a ((a, o4) :: (X.pn ++ pins))) (v := .ref a) S4 hN hi (.inl hln) rfl (fun s5 S5 => ?_) (.inr hln)
    refine wpAny_mono ((hsu a o4 (.ref C) none (X.pn ++ pins) z4 ⟨_, d4⟩).run [] s5 _ H1 _ S5 (hyes a na)) (fun f s6 hsp => ?_) (fun _ _ q => False.elim q)
    cases f with
    | next =>
      obtain ⟨σ6, H6, S6, q6⟩ := hsp
      have S7 : Inv X ((a, o4) :: pins) σ6 H6 s6 := (S6.unsuite ok).pins_of fun p hp => by
        rcases List.mem_cons.mp hp with e | hp
        · exact S6.pin p (by rw [e]; exact List.mem_append_left _ List.mem_cons_self)
        · exact S6.pin p (List.mem_append_left _ (List.mem_cons_of_mem _ (List.mem_append_right _ hp)))
      exact gone_ok S7 hN hi hln fun s7 J7 => ⟨_, _, track J7 n0 z4 d4 nP, q6⟩
    | brk =>
      obtain ⟨_, _, _, q⟩ := hsp
      exact False.elim q
    | cont =>
      obtain ⟨_, _, _, q⟩ := hsp
      exact False.elim q
    | ret u =>
      obtain ⟨_, _, _, _, _, q⟩ := hsp
      exact False.elim q
/-- isinstance(e, c), e an error that was kept -/
def rIsX (K : PySem.W.Frag) : List V → Hp → VK → Prop := fun xs H Q => ∃ (a C : Addr) (c : V) (cv : Value) (b : Bool), xs = [.ref a, c] ∧ H a = some (KX C a) ∧ ExcC K C ∧ (∀ u, RelV c u → u = cv) ∧ PySem.W.kitOne K (.ref C) cv = some b ∧ Q (.bl b) H
theorem call_isX : CallR X (.builtin "isinstance") (rIsX X.K) := by
  intro pins s σ H xs us Q I r h
  obtain ⟨a, D, c, cv, b, rfl, ha, C, hcv, e, q⟩ := h
  cases r with
  | cons rx rr =>
    cases rr with
    | cons rt rr =>
      cases rr
      cases rx
      have ec := hcv _ rt
      subst ec
      obtain ⟨⟨⟨oc, od, oda, osl⟩, vs, hget, ⟨h1, h2⟩, hv⟩, _⟩ := I.hok a _ ha
      dsimp only at h1 h2 hv
      subst h1 h2 hv
      exact PySem.W.kia_one (PySem.W.handS_kitx_exc C.hg C.hk C.hs C.hd C.ha C.hn C.ht C.hm) I.kIn ⟨hget, rfl, rfl, trivial⟩ e (fun z => nomatch z) fun tk => ⟨.bl b, H, I.kept (t' := tk) fun _ _ z => z, rfl, q⟩
/-- list.count of flat items -/
def rCntF (K : PySem.W.Frag) : V → List V → Hp → VK → Prop := fun x xs H Q => ∃ (p : Addr) (ys : List V) (y : V), x = .ref p ∧ xs = [y] ∧ SqL K H p ys ∧ flatV y = true ∧ ys.all flatV = true ∧ Q (.int (ys.countP fun z => eqV z y : Nat)) H
theorem count_rel {y : V} : ∀ {ys : List V} {us : List Value}, Vals ys us → ys.all flatV = true → us.countP (eqU y) = ys.countP fun z => eqV z y
  | [], [], _, _ => rfl
  | z :: ys, u :: us, .cons r t, f => by
    rw [List.all_cons, Bool.and_eq_true] at f
    rw [List.countP_cons, List.countP_cons, count_rel t f.2, eqU_of r f.1]
theorem mt_countB : MtR X "list.count" (rCntF X.K) := by
  intro pins s σ H x xs v us Q I rx rxs h
  obtain ⟨p, ys, y, rfl, rfl, hl, fy, fys, q⟩ := h
  cases rx
  obtain ⟨u, rfl, ru⟩ := rxs.one
  obtain ⟨its, rv, ⟨⟨cls, dd, data, sl⟩, n, ho, hc, hdn, hd⟩, hlen⟩ := I.list hl
  simp only at hc hd
  subst hc hd
  refine call_meets PySem.F.slot_list_count ⟨_, ho, rfl⟩ PySem.F.entry_list_count (PySem.F.args_list_count_2 _ _) (SeqAt.list_countAt p its.toArray n dd sl u (eqU y)) ⟨ho, fun u2 hu2 => mem_eqAt ru fy rv fys u2 (by simpa using hu2), ?_⟩
  have e : its.toArray.toList.countP (eqU y) = ys.countP fun z => eqV z y := count_rel rv fys
  refine ⟨.int (ys.countP fun z => eqV z y : Nat), H, I.tok _, ⟨s.toks, ?_⟩, q⟩
  show Value.int ((its.toArray.toList.countP (eqU y) : Nat) : Int) s.toks = _
  rw [e]
/-- o.f as a target among others -/
def gAttr (K : PySem.W.Frag) (to : TE) (f : Str) : TG := fun v σ H Q => to σ H fun x H1 => ∃ a C dx fs, x = .ref a ∧ H1 a = some (.ins C dx fs) ∧ Cls K C ∧ NoAttr K C f ∧ fs.length < 1000 ∧ Q σ (upd H1 a (.ins C dx (putF f v fs)))
theorem pg_attr {o : Expr} {f : Str} {to : TE} {pos : Pos} (ho : PE X o to) : PG X (.Attribute o f pos) (gAttr X.K to f) := by
  refine ⟨fun pins s σ H v u Q I r h => PySem.W.kas_attr (thn (ho.run pins s σ H _ I h) fun ov s1 hq => ?_)⟩
  obtain ⟨y, H1, I1, rx, a, C, dx, fs, rfl, ea, c, n, l, q⟩ := hq
  cases rx
  exact setattr_ok I1 ea c n l r fun s2 I2 => ⟨σ, _, I2, q⟩
/-- text * n -/
def rRepS : R2 := fun x y H Q => ∃ z k, x = .str z ∧ y = .int k ∧ MulOk z k ∧ Q (.str (Txt.mul z k)) H
theorem op_repS : OpR X (binaryOp .Mult) rRepS := by
  intro pins s σ H x y v u Q I rx ry h
  obtain ⟨z, k, rfl, rfl, hk, q⟩ := h
  obtain ⟨t, rfl⟩ := rx
  obtain ⟨t2, rfl⟩ := ry
  exact SB.mul hk fun t' k' => ⟨.str _, H, I.tok _, ⟨_, rfl⟩, q⟩
end
section
variable {X : Cx} {k : Nat} {C : Addr} {x m : Str} {ps : List Str} {sp : Sp} {E : L2.St → XK} {p pos apos : Pos} {e o : Expr} {es : List Expr} {ta : TE} {t : TA}
/-- calls in a try's body: what is let out is wished for at the slots -/
theorem pcS (D : Dn X.prog X.w X.K X.mg X.base k x ps sp) (hr : Room k X.A) (hx : ∀ σ, PassesAt (L2.CX X.prog X.w) X σ (E σ)) (ha : PA X (e :: es) t) (hg : Gl X x := by rfl) (hdb : (x == ("__debug__" : Str)) = false := by decide)
    (he : starEach (e :: es) X.env = (false, eval e X.env) :: starEach es X.env := by rfl) (hpl : (backTo pos (starEach es X.env)).any (·.1) = false := by rfl) : PE X (.Call (.Name x p) (e :: es) [] pos) (tCallS sp E t) := by
  obtain ⟨f, fd, F, b, hm, kp⟩ := D.ex
  exact pe_callS F hr hg hm kp b hx ha hdb he hpl
def tMethW (C : Addr) (m : Str) (sp : Sp) (E : L2.St → XK) (ta : TE) (t : TA) : TE := fun σ H Q => ta σ H fun x H1 => ∃ a dx fs, x = .ref a ∧ H1 a = some (.ins C dx fs) ∧ fs.lookup m = none ∧ t σ H1 fun vs H2 => sp (x :: vs) H2 Q (E σ)
theorem pmS {pl : Sem Bool} (M : Mt X.prog X.w X.K X.mg X.base k C m ps sp) (hr : Room k X.A) (hx : ∀ σ, PassesAt (L2.CX X.prog X.w) X σ (E σ)) (ho : PE X o ta) (ha : PA X (e :: es) t)
    (hst : starEach (e :: es) X.env = (false, eval e X.env) :: starEach es X.env := by rfl) (hpl : (backTo pos (starEach es X.env)).any (·.1) = false := by rfl)
    (ht : eval (.Call (.Attribute o m apos) (e :: es) [] pos) X.env = (do
      let ov ← eval o X.env
      standAt apos.atName
      let (f, first) ← holding [ov] (getMethod ov m pl)
      callWith pos f first (backTo pos (starEach (e :: es) X.env)) (backToKw pos (keywordEach [] X.env))) := by rfl) : PE X (.Call (.Attribute o m apos) (e :: es) [] pos) (tMethW C m sp E ta t) := by
  obtain ⟨f, fd, F, b, hm⟩ := M.ex
  refine ⟨fun pins s σ H Q I h => PySem.W.methodCall_KW (pl := pl) (thn (ho.run pins s σ H _ I h) fun u s1 hq => ?_) ht⟩
  obtain ⟨y, H1, I1, rx, a, dx, fs, rfl, ea, l, q⟩ := hq
  cases rx
  refine getmeth_ok I1 ea M.cl hm l (PySem.W.callWith_K (first := [.ref a]) (h₀ := X.base) I.ok.mod.kin hm.kp (thn (ha.run pos pins s1 σ H1 _ I1 q) fun us s2 hv => ?_) hst hpl)
  obtain ⟨vs, H2, I2, r, q2⟩ := hv
  exact ⟨I2.kIn, run_fnS (us := .ref a :: us) (vs := .ref a :: vs) F hr b (hx σ) I2 (.cons rfl r) q2⟩
/-- a new one, made in a try's body -/
def tMakeS (C : Addr) (sp : Sp) (E : L2.St → XK) (t : TA) : TE := fun σ H Q => t σ H fun vs H1 => ∀ x dx, H1 x = none → H1 dx = none → dx ≠ x →
  sp (.ref x :: vs) (upd (upd H1 dx (.own x)) x (.ins C dx [])) (fun v H2 => v = .non ∧ Q (.ref x) H2) (E σ)
theorem pnS (D : Mn X.prog X.w X.K X.mg X.base k x C ps sp) (hr : Room (k + 1) X.A) (hx : ∀ σ, PassesAt (L2.CX X.prog X.w) X σ (E σ)) (ha : PA X (e :: es) t) (hg : Gl X x := by rfl) (hdb : (x == ("__debug__" : Str)) = false := by decide)
    (he : starEach (e :: es) X.env = (false, eval e X.env) :: starEach es X.env := by rfl) (hpl : (backTo pos (starEach es X.env)).any (·.1) = false := by rfl) : PE X (.Call (.Name x p) (e :: es) [] pos) (tMakeS C sp E t) := by
  obtain ⟨f, fd, F, b, M⟩ := D.ex
  refine ⟨fun pins s0 σ H0 Q0 I0 h0 => ?_⟩
  refine wpAny_Call_Name_kw (ld_glob I0 hg D.gl ?_ hdb)
  refine PySem.W.callWith_K (h₀ := X.base) I0.ok.mod.kin M.kp (thn (ha.run pos pins s0 σ H0 _ I0 h0) fun us s ⟨vs, H, I, r, h⟩ => ⟨I.kIn, ?_⟩) he hpl
  have hq := h (s.heap.objs.size + 1) s.heap.objs.size (I.hok.fresh (Nat.le_succ _)) (I.hok.fresh (Nat.le_refl _)) (Nat.ne_of_lt (Nat.lt_succ_self _))
  have I2 := Inv.made (C := C) I
  have r2 : Vals (V.ref (s.heap.objs.size + 1) :: vs) (Value.ref (s.heap.objs.size + 1) :: us) := .cons rfl r
  have hl : (Value.ref (s.heap.objs.size + 1) :: us).length = ps.length := by
    have e := r2.length
    rw [F.len _ _ _ _ hq] at e
    exact e.symm
  have bt := b _ (Value.ref (s.heap.objs.size + 1) :: us) I2.kIn (by rw [List.append_nil]; exact hl)
  rw [List.append_nil] at bt
  refine wpAny_call (make_map (f := f) I.kIn M.makes M.init (beq_iff_eq.mp M.fn) (codeAny_mono (F.run _ X.stack _ _ ⟨Value.ref (s.heap.objs.size + 1) :: us, []⟩ (Value.ref (s.heap.objs.size + 1) :: us) _ _ (E σ) (hr.make C us [])
    (I2.env0.make C us []) bt r2 hq) fun r s' hq' => ?_))
  cases r with
  | error e => exact hx σ pins _ _ e s' I2 hq'
  | ok fl =>
    cases fl with
    | ret u =>
      obtain ⟨v, H', I3, rv, ev, q3⟩ := I2.after hq'
      subst ev
      exact ⟨rv, ⟨V.ref (s.heap.objs.size + 1), H', I3, rfl, q3⟩⟩
    | next => exact False.elim hq'
    | brk => exact False.elim hq'
    | cont => exact False.elim hq'
theorem pmS0 {pl : Sem Bool} (M : Mt X.prog X.w X.K X.mg X.base k C m ps sp) (hr : Room k X.A) (hx : ∀ σ, PassesAt (L2.CX X.prog X.w) X σ (E σ)) (ho : PE X o ta)
    (ht : eval (.Call (.Attribute o m apos) [] [] pos) X.env = (do
      let ov ← eval o X.env
      standAt apos.atName
      let (f, first) ← holding [ov] (getMethod ov m pl)
      callWith pos f first (backTo pos (starEach [] X.env)) (backToKw pos (keywordEach [] X.env))) := by rfl) : PE X (.Call (.Attribute o m apos) [] [] pos) (tMethW C m sp E ta tNil) := by
  obtain ⟨f, fd, F, b, hm⟩ := M.ex
  refine ⟨fun pins s σ H Q I h => PySem.W.methodCall_KW (pl := pl) (thn (ho.run pins s σ H _ I h) fun u s1 hq => ?_) ht⟩
  obtain ⟨y, H1, I1, rx, a, dx, fs, rfl, ea, l, q⟩ := hq
  cases rx
  exact getmeth_ok I1 ea M.cl hm l (PySem.W.callWith_K0 (first := [.ref a]) I1.kIn hm.kp (run_fnS (us := [.ref a]) (vs := [.ref a]) F hr b (hx σ) I1 (.cons rfl .nil) q))
end
/-- an attribute is handed out -/
def spGet (K : PySem.W.Frag) (C f : Str) : Sp := fun vs H Q _ => ∃ (x dx : Addr) (fs : List (Str × V)) (v : V), vs = [.ref x] ∧ H x = some (.ins (He.ga K C) dx fs) ∧ fs.lookup f = some v ∧ Q v H
end LH
open L2 LH PySem in
local macro_rules | `(tactic| walk_at "rd0") => `(tactic| simp only [L2.start, List.map_cons, List.map_nil, List.length_cons, List.length_nil, Nat.reduceAdd, Nat.reduceSub, List.replicate_succ, List.replicate_zero, List.cons_append, List.nil_append, List.append_nil])
open L2 LH PySem in
local macro_rules | `(tactic| walk_at "rd1") => `(tactic| dsimp only [tVar, tC, tOp, tUn, tAndV, tOrV, tNotV, tIf, tAnd, tOr, tNot, tB, tTest, tChain, tCons, tNil, tTup, tLst, tCB, tCall, tMeth, tMake, tFld, sFld, tSeq, tNext, tAsg, gName, tIfS, tRet, tRetN, tDrop, tM0, tM1, tBM, tBM0, rAppend, rPop, tLits, tCallS, tMethW, tMakeS, WE, wKeep, iStr, iRng1, iRng2, iList, iTup, tSl, tPart, tNoPart,
  rI, rI0, rU, rEq, rNe, rIxL, rIxT, rIxS, rSlS, rSlL])
open L2 LH PySem in
local macro_rules | `(tactic| walk_at "rd2") => `(tactic| simp only [List.getElem?_cons_zero, List.getElem?_cons_succ, List.set_cons_zero, List.set_cons_succ, List.cons_append, List.nil_append, List.append_nil, Option.some.injEq, V.int.injEq, V.str.injEq, V.bl.injEq, V.ref.injEq, List.cons.injEq, HO.ins.injEq, HO.lst.injEq, HO.tup.injEq, S_inj, ofS_inj, String.reduceEq, ex_eq, ex_eq', ex_eq0, tLc_eq, tFor_eq, iStr, iRng1, iRng2, iList, iTup, tVar, tC, tOp, tCons, tNil, tCB, tFld, tCallS, tMethW, tMakeS, WE, wKeep, tLits, tLst, tTup, wipe, rI, rI0, rU, rEq, rNe, scII, scSS, scBB, scNN, scNI, scNS, scNB, scIN, scSN, scBN, scIS, scSI, if_tt, if_ff, and_true, true_and, and_assoc, exists_and_left, exists_and_right, exists_const, cxK, decide_true, decide_false, Bool.not_true, Bool.not_false, eq_self_iff_true, Bool.true_eq_false, Bool.false_eq_true, if_true, if_false, reduceCtorEq, S_len, S_one, S_tl, decide_eq_true_eq, tUn, tAndV, tOrV, tNotV, tIf, tAnd, tOr, tNot, tB, tTest, tChain, tCall, tMeth, tMake, sFld, tSeq, tNext, tAsg, gName, tIfS, tRet, tRetN, tDrop, tM0, tM1, tBM, tBM0, rAppend, rPop, tSl, tPart, tNoPart, rIxL, rIxT, rIxS, rSlS, rSlL, rCat, iRng3, tRevL, tDisp, tPairs, tDGet, sDPut, gTup, gCons, gNil, gSub, gAttr, rSetL, tv])
local macro_rules | `(tactic| walk_at "rd") => `(tactic| ((try walk_at "rd0"); (try walk_at "rd1"); (try walk_at "rd2")))
/-! ## Words: signs, texts, places -/
namespace LH
open PySem PySem.Spec PyProof.Rows L2

def isSign (t : List Nat) : Bool := match t with
  | [c] => decide (32 ≤ c) && decide (c < 127) && decide (c ≠ 37)
  | _ => false
def okText (t : List Nat) : Bool := decide (t.length ≤ 400) && t.all fun c => isSign [c]
def letters : List Nat := ("abcdefghijklmnopqrstuvwxyzABCDEFGHIJKLMNOPQRSTUVWXYZ0123456789" : Str).cps.toList
def isLetC (c : Nat) : Bool := decide (c ∈ letters)
def isLet (t : List Nat) (i : Int) : Bool := decide (0 ≤ i) && (match t[i.toNat]? with
  | some c => isLetC c
  | none => false)
def spIsSign : Sp := fun vs H Q _ => ∃ t : List Nat, vs = [.str (S t)] ∧ t.length ≤ 100000 ∧ Q (.bl (isSign t)) H
/-- refused: an exception of that class -/
abbrev Rf (K : PySem.W.Frag) (c : Str) (E : XK) (H : Hp) : Prop := ∀ H', Same H H' → E (.ref (He.ga K c)) none H'
def spLookText (K : PySem.W.Frag) : Sp := fun vs H Q E => ∃ t : List Nat, vs = [.str (S t)] ∧ t.length ≤ 100000 ∧ if okText t = true then ∀ H', Same H H' → Q .non H' else Rf K "BadText" E H
def spLookPlace (K : PySem.W.Frag) : Sp := fun vs H Q E => ∃ (t : List Nat) (i : Int), vs = [.str (S t), .int i] ∧ t.length ≤ 100000 ∧ if 0 ≤ i ∧ i ≤ t.length then Q .non H else Rf K "BadPlace" E H
def spIsLetter : Sp := fun vs H Q _ => ∃ (t : List Nat) (i : Int), vs = [.str (S t), .int i] ∧ t.length ≤ 100000 ∧ Q (.bl (isLet t i)) H
theorem S_get0 (t : List Nat) : (S t).cps.getD 0 0 = t.getD 0 0 := by
  unfold S
  cases t <;> rfl
theorem isSign_lt {c : Nat} (h : isSign [c] = true) : c < 128 := by
  have e : (decide (32 ≤ c) && decide (c < 127) && decide (c ≠ 37)) = true := h
  simp only [Bool.and_eq_true, decide_eq_true_eq] at e
  omega
theorem okText_lt {t : List Nat} (h : okText t = true) : ∀ c ∈ t, c < 128 := fun c hc => by
  unfold okText at h
  exact isSign_lt (List.all_eq_true.mp (Bool.and_eq_true_iff.mp h).2 c hc)
theorem okText_len {t : List Nat} (h : okText t = true) : t.length ≤ 400 := by
  unfold okText at h
  exact of_decide_eq_true (Bool.and_eq_true_iff.mp h).1
section
variable {P : Program} {w : World} {K : PySem.W.Frag} {mg : Str → Option Value} {base : Heap}
theorem d_is_sign (T : TX K mg) : Dn P w K mg base 1 "is_sign" p_is_sign spIsSign := by
  refine dn_of (fn_is_sign T) (g_is_sign T) sc_is_sign bd_is_sign (fun vs H Q E h => ?_) (fun cdv A outer s H vs Q E hr h => ?_)
  · obtain ⟨t, rfl, _⟩ := h
    rfl
  · obtain ⟨t, rfl, ht, k⟩ := h
    refine ⟨_, (pss_one (ps_ret (pe_and (pe_cmpR op_eq (pe_callB call_len_str (by rfl) (b_len T) boot_len (pa_cons (pv 0) pa_nil)) pe_int (nomark _)) (pe_and (pe_chain op_le op_lt pe_int (pe_callB call_ord (by rfl) (b_ord T) (by decide +kernel) (pa_cons (pv 0) pa_nil)) pe_int) (pe_one (pe_cmpR op_ne (pe_callB call_ord (by rfl) (b_ord T) (by decide +kernel) (pa_cons (pv 0) pa_nil)) pe_int (nomark _))))))), ?_⟩
    walk_at "rd"
    refine ⟨sline ht, ?_⟩
    match t, k with
    | [], k => exact k
    | [c], k =>
      rw [S_get0, if_pos (show (([c].length : Nat) : Int) = 1 from rfl)]
      refine ⟨rfl, ?_⟩
      have e : isSign [c] = (decide (32 ≤ c) && decide (c < 127) && decide (c ≠ 37)) := rfl
      rw [e] at k
      have ec : [c].getD 0 0 = c := rfl
      rw [ec]
      by_cases h1 : 32 ≤ c
      · rw [if_pos (show (32 : Int) ≤ (c : Int) by omega)]
        by_cases h2 : c < 127
        · rw [if_pos (show (c : Int) < 127 by omega)]
          refine ⟨rfl, ?_⟩
          have e2 : (decide (32 ≤ c) && decide (c < 127) && decide (c ≠ 37)) = !decide ((c : Int) = 37) := by
            rw [decide_eq_true h1, decide_eq_true h2]
            by_cases h3 : c = 37
            · subst h3; rfl
            · rw [decide_eq_true h3, decide_eq_false (show ¬ (c : Int) = 37 by omega)]; rfl
          rw [e2] at k
          exact k
        · rw [if_neg (show ¬ (c : Int) < 127 by omega)]
          rw [decide_eq_false h2, Bool.and_false, Bool.false_and] at k
          exact k
      · rw [if_neg (show ¬ (32 : Int) ≤ (c : Int) by omega)]
        rw [decide_eq_false h1, Bool.false_and, Bool.false_and] at k
        exact k
    | a :: b :: r, k =>
      rw [if_neg (show ¬ (((a :: b :: r).length : Nat) : Int) = 1 by rw [List.length_cons, List.length_cons]; omega)]
      exact k
theorem d_look_text (T : TX K mg) : Dn P w K mg base 2 "look_text" p_look_text (spLookText K) := by
  refine dn_of (fn_look_text T) (g_look_text T) sc_look_text bd_look_text (fun vs H Q E h => ?_) (fun cdv A outer s H vs Q E hr h => ?_)
  · obtain ⟨t, rfl, _⟩ := h
    rfl
  · obtain ⟨t, rfl, ht, k⟩ := h
    refine ⟨_, (pss_one (ps_if (PW.pt (pw_or (pt_cmpR op_gt (pe_callB call_len_str (by rfl) (b_len T) boot_len (pa_cons (pv 0) pa_nil)) (pgi (i_MOST_TEXT T)) (nomark _)) (pw_or1 (pt_not (pt_val (pe_callB (cr_all rfl) (by rfl) (b_all T) (by decide +kernel) (pa_cons (pe_lc (own := [("sign", 1)]) rfl sc_look_text.nd (pi_str (pv 0)) (blkOk_by (own := [("sign", 1)]) (N := n_look_text) (sc := defScope s_look_text) (by decide +kernel)) (fun _ _ _ _ _ => (pg_name (i := 1) sc_look_text.nd rfl (Or.inl rfl))) (fun _ _ _ _ _ => pts_nil) (fun _ _ _ _ _ => (pc (d_is_sign T) (hr.mono (by decide)) px0 (pa_cons (pv 1) pa_nil)))) pa_nil))))))) (pss_one (ps_raise rfl (takes_of rfl rfl rfl rfl) (pmk_own PySem.F.excBase_ValueError (xc_BadText T).1 (g_BadText T) (xc_BadText T).2.1 (raises_own (xc_BadText T).2.2.1 (xc_BadText T).2.2.2) rfl))) pss_nil)), ?_⟩
    walk_at "rd"
    refine ⟨sline ht, ?_⟩
    unfold okText at k
    by_cases h4 : (400 : Int) < (t.length : Int)
    · rw [if_pos h4]
      rw [decide_eq_false (by omega), Bool.false_and, if_neg Bool.false_ne_true] at k
      exact k H (Same.refl H)
    · rw [if_neg h4]
      rw [decide_eq_true (show t.length ≤ 400 by omega), Bool.true_and] at k
      refine lcb_strM t (fun c => .bl (isSign [c])) (by omega) (fun c H' hc s Y hY => ?_) (fun D H' hD s e => ?_)
      · walk_at "rd"
        exact ⟨[c], rfl, by simp, hY H' (Same.refl H')⟩
      · refine ⟨D, t.map fun c => isSign [c], rfl, sq_of (by rw [e, List.map_map]; rfl), _, rfl, ?_⟩
        have ea : (t.map fun c => isSign [c]).all id = t.all fun c => isSign [c] := by rw [List.all_map]; rfl
        rw [ea]
        cases ho : t.all fun c => isSign [c] with
        | true =>
          rw [ho] at k
          exact k H' s
        | false =>
          rw [ho] at k
          exact k H' s
end
end LH
/-! ## D1: the law's draws; how a refusal is told -/
namespace LH
open PySem PySem.Spec PyProof.Rows L2
/-- the script at a (it is no town), the town at b: its length the draws so far, at most z -/
structure Dr (K : PySem.W.Frag) (H : Hp) (a b : Addr) (ns : List Int) (z : Nat) : Prop where
  scr : (Rd H a (.lst (ns.map V.int)) ∧ a ≠ b) ∨ ∀ H' : Hp, SqL K H' a (ns.map V.int)
  len : ns.length ≤ 63
  tow : ∃ zs, H b = some (.lst zs) ∧ zs.length ≤ z
theorem Dr.sql {K : PySem.W.Frag} {H : Hp} {a b : Addr} {ns : List Int} {z : Nat} (d : Dr K H a b ns z) : SqL K H a (ns.map V.int) := d.scr.elim (fun q => .inl q.1) fun q => q H
theorem Dr.mono {K : PySem.W.Frag} {H : Hp} {a b : Addr} {ns : List Int} {z z' : Nat} (d : Dr K H a b ns z) (h : z ≤ z') : Dr K H a b ns z' :=
  ⟨d.scr, d.len, let ⟨zs, e, l⟩ := d.tow; ⟨zs, e, Nat.le_trans l h⟩⟩
/-- carried over what leaves the town and the script -/
theorem Dr.fx {K : PySem.W.Frag} {F : List Addr} {H H' : Hp} {a b : Addr} {ns : List Int} {z : Nat} (d : Dr K H a b ns z) (x : Fx F H H') (na : (∃ u, Rd H a u) → a ∉ F) (nb : b ∉ F) : Dr K H' a b ns z :=
  ⟨d.scr.elim (fun q => .inl ⟨x.rd q.1 (na ⟨_, q.1⟩), q.2⟩) .inr, d.len, let ⟨zs, e, l⟩ := d.tow; ⟨zs, x.at e nb, l⟩⟩
theorem Dr.same {K : PySem.W.Frag} {H H' : Hp} {a b : Addr} {ns : List Int} {z : Nat} (d : Dr K H a b ns z) (s : Same H H') : Dr K H' a b ns z := d.fx (F := []) (Fx.of s) (fun _ => List.not_mem_nil) List.not_mem_nil
theorem Dr.there {K : PySem.W.Frag} {H : Hp} {a b : Addr} {ns : List Int} {z : Nat} (d : Dr K H a b ns z) : H b ≠ none := by
  obtain ⟨zs, e, _⟩ := d.tow
  rw [e]
  exact fun q => nomatch q
/-- the script is a constant of the module -/
abbrev Cst (K : PySem.W.Frag) (a : Addr) (ns : List Int) : Prop := ∀ H' : Hp, SqL K H' a (ns.map V.int)
/-- the script is none of these -/
def Ap (K : PySem.W.Frag) (a : Addr) (ns : List Int) (F : List Addr) : Prop := Cst K a ns ∨ a ∉ F
theorem Dr.new {K : PySem.W.Frag} {H : Hp} {a b c : Addr} {ns : List Int} {z : Nat} (d : Dr K H a b ns z) (h : H c = none) : Ap K a ns [c] := by
  rcases d.scr with ⟨q, _⟩ | q
  · refine .inr fun m => ?_
    rw [List.mem_singleton] at m
    rw [← m] at h
    rcases q with q | ⟨o, q⟩
    · rw [h] at q
      cases q
    · rw [h] at q
      cases q
  · exact .inl q
theorem Ap.cons {K : PySem.W.Frag} {a c : Addr} {ns : List Int} {F : List Addr} (h : Ap K a ns [c]) (g : Ap K a ns F) : Ap K a ns (c :: F) := by
  rcases h with h | h
  · exact .inl h
  · rcases g with g | g
    · exact .inl g
    · refine .inr fun m => ?_
      rcases List.mem_cons.mp m with m | m
      · exact h (by rw [m]; exact List.mem_cons_self)
      · exact g m
theorem Ap.mono {K : PySem.W.Frag} {a : Addr} {ns : List Int} {F G : List Addr} (h : Ap K a ns G) (s : ∀ c ∈ F, c ∈ G) : Ap K a ns F := h.imp id fun n m => n (s a m)
theorem Dr.fy {K : PySem.W.Frag} {F : List Addr} {H H' : Hp} {a b : Addr} {ns : List Int} {z : Nat} (d : Dr K H a b ns z) (x : Fx F H H') (na : Ap K a ns F) (nb : b ∉ F) : Dr K H' a b ns z := by
  refine ⟨?_, d.len, let ⟨zs, e, l⟩ := d.tow; ⟨zs, x.at e nb, l⟩⟩
  rcases na with na | na
  · exact .inr na
  · exact d.scr.elim (fun q => .inl ⟨x.rd q.1 na, q.2⟩) .inr
theorem Dr.ne {K : PySem.W.Frag} {H : Hp} {a b c : Addr} {ns : List Int} {z : Nat} (d : Dr K H a b ns z) (h : H c = none) : b ≠ c := fun e => by
  obtain ⟨zs, q, _⟩ := d.tow
  rw [e, h] at q
  cases q
/-- a script, a new town -/
theorem Dr.start {K : PySem.W.Frag} {H : Hp} {a p : Addr} {ns : List Int} (hS : SqL K H a (ns.map V.int)) (hl : ns.length ≤ 63) (hp : H p = none) : Dr K (upd H p (.lst [])) a p ns 0 := by
  refine ⟨?_, hl, [], upd_same, Nat.le_refl _⟩
  rcases hS with h | h
  · have ne : a ≠ p := by
      rcases h with h | ⟨o, h⟩
      · exact ne_of_none h hp
      · exact ne_of_none h hp
    exact .inl ⟨(Fx.of (F := []) (same_new hp)).rd h List.not_mem_nil, ne⟩
  · exact .inr fun _ => .inr h
def spCell (K : PySem.W.Frag) : Sp := fun vs H Q _ => ∃ (a : Addr) (ns : List Int) (k : Int), vs = [.ref a, .int k] ∧ SqL K H a (ns.map V.int) ∧ ns.length ≤ 63 ∧ 0 ≤ k ∧ ∀ i : Int, Q (.int i) H
def spMix (K : PySem.W.Frag) : Sp := fun vs H Q _ => ∃ (a : Addr) (ns : List Int) (k : Int), vs = [.ref a, .int k] ∧ SqL K H a (ns.map V.int) ∧ ns.length ≤ 63 ∧ 0 ≤ k ∧ k ≤ 100000 ∧ ∀ i : Int, 0 ≤ i → i < 4294967231 → Q (.int i) H
def spDraw (K : PySem.W.Frag) : Sp := fun vs H Q _ => ∃ (a b : Addr) (m : Int) (ns : List Int) (z : Nat), vs = [.ref a, .ref b, .int m] ∧ Dr K H a b ns z ∧ z < 90000 ∧ 0 < m ∧ m < 1000000 ∧
  ∀ (d : Int) (H' : Hp), 0 ≤ d → d < m → Fx [b] H H' → Dr K H' a b ns (z + 1) → Q (.int d) H'
def spPick (K : PySem.W.Frag) : Sp := fun vs H Q _ => ∃ (a b l : Addr) (xs : List V) (ns : List Int) (z : Nat), vs = [.ref a, .ref b, .ref l] ∧ Dr K H a b ns z ∧ z < 90000 ∧ SqL K H l xs ∧ l ≠ b ∧ xs ≠ [] ∧ xs.length ≤ 1000 ∧
  ∀ (j : Nat) (v : V) (H' : Hp), xs[j]? = some v → Fx [b] H H' → Dr K H' a b ns (z + 1) → Q v H'
section
variable {P : Program} {w : World} {K : PySem.W.Frag} {mg : Str → Option Value} {base : Heap}
theorem d_l_cell (T : TX K mg) : Dn P w K mg base 1 "_law_cell" p_l_cell (spCell K) := by
  refine dn_of (fn_l_cell T) (g__law_cell T) sc_l_cell bd_l_cell (fun vs H Q E h => ?_) (fun cdv A outer s H vs Q E hr h => ?_)
  · obtain ⟨a, ns, k, rfl, _⟩ := h
    rfl
  · obtain ⟨a, ns, k, rfl, hS, hl, hk, q⟩ := h
    refine ⟨_, (pss_cons (ps_if (pt_truth (pv 0) (by intro _; rfl)) (pss_one (ps_ret (pe_ix ix_list (pv 0) (pe_op op_modN (pv 1) (pe_callB call_len_seq (by rfl) (b_len T) boot_len (pa_cons (pv 0) pa_nil))) (fun _ _ => rfl)))) pss_nil) (pss_one (ps_ret pe_int))), ?_⟩
    walk_at "rd"
    cases ns with
    | nil => exact ⟨false, .inl ⟨_, hS, rfl⟩, q 0⟩
    | cons n r =>
      refine ⟨true, .inl ⟨_, hS, rfl⟩, ?_⟩
      rw [if_pos rfl]
      refine ⟨_, .inl hS, by rw [List.length_map, List.length_cons]; omega, _, hS, ?_⟩
      have hp : (0 : Int) < ((((n :: r).map V.int).length : Nat) : Int) := by rw [List.length_map, List.length_cons]; omega
      generalize hm : k.fmod (((n :: r).map V.int).length : Nat) = m
      rw [Int.fmod_eq_emod_of_nonneg _ (by omega)] at hm
      have h1 : 0 ≤ m := by rw [← hm]; exact Int.emod_nonneg _ (by omega)
      have h2 : m < (((n :: r).map V.int).length : Nat) := by rw [← hm]; exact Int.emod_lt_of_pos _ hp
      rw [atI_in h1 h2, List.getElem?_map]
      have h3 : m.toNat < (n :: r).length := by
        rw [List.length_map] at h2
        omega
      rw [List.getElem?_eq_getElem h3]
      exact ⟨_, rfl, q _⟩
theorem d_l_mix (T : TX K mg) : Dn P w K mg base 2 "_law_mix" p_l_mix (spMix K) := by
  refine dn_of (fn_l_mix T) (g__law_mix T) sc_l_mix bd_l_mix (fun vs H Q E h => ?_) (fun cdv A outer s H vs Q E hr h => ?_)
  · obtain ⟨a, ns, k, rfl, _⟩ := h
    rfl
  · obtain ⟨a, ns, k, rfl, hS, hl, hk, hk2, q⟩ := h
    refine ⟨_, (pss_cons (ps_set (i := 2) sc_l_mix.nd rfl (Or.inl rfl) (pe_op op_modN (pe_op op_add (pc (d_l_cell T) (hr.mono (by decide)) px (pa_cons (pv 0) (pa_cons (pv 1) pa_nil))) (pe_op op_mul pe_int (pe_op op_add (pv 1) pe_int))) pe_int)) (pss_cons (ps_set (i := 2) sc_l_mix.nd rfl (Or.inl rfl) (pe_op op_modN (pe_op op_pow (pv 2) pe_int) pe_int)) (pss_one (ps_ret (pe_op op_modN (pe_op op_add (pe_op op_mul (pe_op op_fdivN (pv 2) pe_int) pe_int) (pv 2)) pe_int))))), ?_⟩
    walk_at "rd"
    refine ⟨a, ns, k, rfl, hS, hl, hk, fun i => ?_⟩
    have pos : ∀ (x m : Int), 0 < m → 0 ≤ x.fmod m ∧ x.fmod m < m := fun x m hm => by
      rw [Int.fmod_eq_emod_of_nonneg _ (by omega)]
      exact ⟨Int.emod_nonneg _ (by omega), Int.emod_lt_of_pos _ hm⟩
    refine ⟨.inl (by omega), _, rfl, by omega, ?_⟩
    obtain ⟨a1, a2⟩ := pos (i + 104729 * (k + 1)) 4294967291 (by omega)
    generalize (i + 104729 * (k + 1)).fmod 4294967291 = u at a1 a2 ⊢
    refine ⟨⟨by omega, by omega, by omega⟩, by omega, ?_⟩
    obtain ⟨b1, b2⟩ := pos (u ^ Int.toNat 5) 4294967279 (by omega)
    generalize (u ^ Int.toNat 5).fmod 4294967279 = v at b1 b2 ⊢
    refine ⟨⟨by omega, by decide⟩, ?_⟩
    have e : v.fdiv 64 = v / 64 := Int.fdiv_eq_ediv_of_nonneg _ (by omega)
    rw [e]
    refine ⟨.inl (by omega), by omega, ?_⟩
    obtain ⟨c1, c2⟩ := pos (v / 64 * 69621 + v) 4294967231 (by omega)
    exact q _ c1 c2
theorem d_l_draw (T : TX K mg) : Dn P w K mg base 3 "_law_draw" p_l_draw (spDraw K) := by
  refine dn_of (fn_l_draw T) (g__law_draw T) sc_l_draw bd_l_draw (fun vs H Q E h => ?_) (fun cdv A outer s H vs Q E hr h => ?_)
  · obtain ⟨a, b, m, ns, z, rfl, _⟩ := h
    rfl
  · obtain ⟨a, b, m, ns, z, rfl, D, hz, hm, hm2, q⟩ := h
    refine ⟨_, (pss_cons (ps_expr (pe_bm PySem.F.plainAttrs_list PySem.F.slot_list_append PySem.F.type_list_append mt_append (pv 1) (pa_cons pe_int pa_nil))) (pss_one (ps_ret (pe_op op_modN (pe_op op_fdivN (pc (d_l_mix T) (hr.mono (by decide)) px (pa_cons (pv 0) (pa_cons (pe_callB call_len_seq (by rfl) (b_len T) boot_len (pa_cons (pv 1) pa_nil)) pa_nil))) pe_int) (pv 2))))), ?_⟩
    walk_at "rd"
    obtain ⟨zs, et, lt⟩ := D.tow
    refine ⟨.inl ⟨rfl, _, sq_of et⟩, zs, et, slt (by omega), _, .inl (sq_of upd_same), ?_⟩
    have nl : ((zs ++ [V.int 0]).length : Nat) ≤ z + 1 := by rw [List.length_append]; simp; omega
    have hf : Fx [b] H (upd H b (.lst (zs ++ [.int 0]))) := Fx.upd List.mem_cons_self (nt_lst et)
    have D' : Dr K (upd H b (.lst (zs ++ [.int 0]))) a b ns (z + 1) := ⟨D.scr.elim (fun q => .inl ⟨hf.rd q.1 (by simp [q.2]), q.2⟩) .inr, D.len, _, upd_same, nl⟩
    refine ⟨a, ns, _, rfl, D'.sql, D.len, by omega, by omega, fun i h0 h1 => ⟨_, rfl, ⟨by omega, by decide⟩, by omega, ?_⟩⟩
    rw [Int.fmod_eq_emod_of_nonneg _ (by omega)]
    exact q _ _ (Int.emod_nonneg _ (by omega)) (Int.emod_lt_of_pos _ hm) hf D'
theorem d_l_pick (T : TX K mg) : Dn P w K mg base 4 "_law_pick" p_l_pick (spPick K) := by
  refine dn_of (fn_l_pick T) (g__law_pick T) sc_l_pick bd_l_pick (fun vs H Q E h => ?_) (fun cdv A outer s H vs Q E hr h => ?_)
  · obtain ⟨a, b, l, xs, ns, z, rfl, _⟩ := h
    rfl
  · obtain ⟨a, b, l, xs, ns, z, rfl, D, hz, hL, nl, hx, hx2, q⟩ := h
    refine ⟨_, (pss_one (ps_ret (pe_ix ix_list (pv 2) (pc (d_l_draw T) (hr.mono (by decide)) px (pa_cons (pv 0) (pa_cons (pv 1) (pa_cons (pe_callB call_len_seq (by rfl) (b_len T) boot_len (pa_cons (pv 2) pa_nil)) pa_nil)))) (fun _ _ => rfl)))), ?_⟩
    walk_at "rd"
    have hp : 0 < xs.length := List.length_pos_iff.mpr hx
    refine ⟨_, .inl hL, a, b, _, ns, z, rfl, D, hz, by omega, by omega, fun d H' h0 h1 B D' => ⟨_, _, rfl, B.sql hL (by simp [nl]), ?_⟩⟩
    rw [atI_in h0 h1, List.getElem?_eq_getElem (by omega)]
    exact ⟨_, rfl, q d.toNat _ _ (List.getElem?_eq_getElem (by omega)) B D'⟩
/-- the errors and how they are told -/
def kinds : List (Str × Str) := [("BadKey", "key"), ("BadText", "text"), ("BadSize", "size"), ("BadPlace", "place")]
def spRefusal (K : PySem.W.Frag) : Sp := fun vs H Q _ => ∃ (x : Addr) (c d : Str), vs = [.ref x] ∧ (c, d) ∈ kinds ∧ H x = some (KX (He.ga K c) x) ∧
  ∀ p H', H p = none → Same H H' → H' p = some (.tup [.str "refused", .str d]) → Q (.ref p) H'
/-- the four answers, one of them true -/
structure Ans4 (bs : List Bool) (j : Nat) : Prop where
  len : bs.length = 4
  cnt : (bs.map V.bl).countP (fun z => eqV z (.bl true)) = 1
  at_ : bs[j]? = some true
  no : ∀ m, m < j → bs[m]? = some false
theorem d_l_refusal (T : TX K mg) : Dn P w K mg base 1 "_law_refusal" p_l_refusal (spRefusal K) := by
  refine dn_of (fn_l_refusal T) (g__law_refusal T) sc_l_refusal bd_l_refusal (fun vs H Q E h => ?_) (fun cdv A outer s H vs Q E hr h => ?_)
  · obtain ⟨x, c, d, rfl, _⟩ := h
    rfl
  · obtain ⟨x, c, d, rfl, hc, hx, k⟩ := h
    refine ⟨_, (pss_cons (ps_if (pt_cmpR op_isN (pv 0) pe_non (nomark _)) (pss_one (ps_ret (pe_tup (pa_cons pe_str pa_nil)))) pss_nil) (pss_cons (ps_set (i := 1) sc_l_refusal.nd rfl (Or.inl rfl) (pe_lst (pa_cons (pe_callB call_isX (by rfl) (b_isinstance T) (by decide +kernel) (pa_cons (pv 0) (pa_cons (pgr (g_BadKey T)) pa_nil))) (pa_cons (pe_callB call_isX (by rfl) (b_isinstance T) (by decide +kernel) (pa_cons (pv 0) (pa_cons (pgr (g_BadText T)) pa_nil))) (pa_cons (pe_callB call_isX (by rfl) (b_isinstance T) (by decide +kernel) (pa_cons (pv 0) (pa_cons (pgr (g_BadSize T)) pa_nil))) pa_nil))))) (pss_cons (ps_expr (pe_bm PySem.F.plainAttrs_list PySem.F.slot_list_append PySem.F.type_list_append mt_append (pv 1) (pa_cons (pe_callB call_isX (by rfl) (b_isinstance T) (by decide +kernel) (pa_cons (pv 0) (pa_cons (pgr (g_BadPlace T)) pa_nil))) pa_nil))) (pss_cons (ps_if (PW.pt (pw_or (pt_cmpR op_ne (pe_bm PySem.F.plainAttrs_list PySem.F.slot_list_count PySem.F.type_list_count mt_countB (pv 1) (pa_cons pe_bl pa_nil)) pe_int (nomark _)) (pw_or1 (pt_not (pt_val (pe_callB call_isX (by rfl) (b_isinstance T) (by decide +kernel) (pa_cons (pv 0) (pa_cons (pe_bltn (v := .ty "ValueError") rfl (b_ValueError T) (by decide +kernel) rfl) pa_nil)))))))) (pss_one (ps_ret (pe_tup (pa_cons pe_str pa_nil)))) pss_nil) (pss_one (ps_ret (pe_tup (pa_cons pe_str (pa_cons (pe_ix ix_list (pe_lst (pa_lits rfl)) (pe_bm PySem.F.plainAttrs_list PySem.F.slot_list_index PySem.F.type_list_index mt_index (pv 1) (pa_cons pe_bl pa_nil)) (fun _ _ => rfl)) pa_nil))))))))), ?_⟩
    walk_at "rd"
    have facts : ∃ (b0 b1 b2 b3 : Bool) (j : Nat), ExcC K (He.ga K c) ∧ PySem.W.kitOne K (.ref (He.ga K c)) (.ref (He.ga K "BadKey")) = some b0 ∧ PySem.W.kitOne K (.ref (He.ga K c)) (.ref (He.ga K "BadText")) = some b1 ∧
        PySem.W.kitOne K (.ref (He.ga K c)) (.ref (He.ga K "BadSize")) = some b2 ∧ PySem.W.kitOne K (.ref (He.ga K c)) (.ref (He.ga K "BadPlace")) = some b3 ∧ PySem.W.kitOne K (.ref (He.ga K c)) (.type "ValueError") = some true ∧
        Ans4 [b0, b1, b2, b3] j ∧ [V.str "key", .str "text", .str "size", .str "place"][j]? = some (.str d) := by
      have hc2 : (c, d) = (("BadKey", "key") : Str × Str) ∨ (c, d) = (("BadText", "text") : Str × Str) ∨ (c, d) = (("BadSize", "size") : Str × Str) ∨ (c, d) = (("BadPlace", "place") : Str × Str) := by
        simpa [kinds] using hc
      rcases hc2 with e | e | e | e
      · cases e
        exact ⟨_, _, _, _, 0, ex_BadKey T, ki_BadKey_BadKey T, ki_BadKey_BadText T, ki_BadKey_BadSize T, ki_BadKey_BadPlace T, ki_BadKey_ValueError T, ⟨rfl, rfl, rfl, fun m hm => by omega⟩, rfl⟩
      · cases e
        exact ⟨_, _, _, _, 1, ex_BadText T, ki_BadText_BadKey T, ki_BadText_BadText T, ki_BadText_BadSize T, ki_BadText_BadPlace T, ki_BadText_ValueError T, ⟨rfl, rfl, rfl, fun m hm => match m, hm with | 0, _ => rfl⟩, rfl⟩
      · cases e
        exact ⟨_, _, _, _, 2, ex_BadSize T, ki_BadSize_BadKey T, ki_BadSize_BadText T, ki_BadSize_BadSize T, ki_BadSize_BadPlace T, ki_BadSize_ValueError T, ⟨rfl, rfl, rfl, fun m hm => match m, hm with | 0, _ => rfl | 1, _ => rfl⟩, rfl⟩
      · cases e
        exact ⟨_, _, _, _, 3, ex_BadPlace T, ki_BadPlace_BadKey T, ki_BadPlace_BadText T, ki_BadPlace_BadSize T, ki_BadPlace_BadPlace T, ki_BadPlace_ValueError T, ⟨rfl, rfl, rfl, fun m hm => match m, hm with | 0, _ => rfl | 1, _ => rfl | 2, _ => rfl⟩, rfl⟩
    obtain ⟨b0, b1, b2, b3, j, hC, k0, k1, k2, k3, kV, A, hd⟩ := facts
    refine ⟨x, _, _, _, b0, rfl, hx, hC, fun _ r => r, k0, x, _, _, _, b1, rfl, hx, hC, fun _ r => r, k1, x, _, _, _, b2, rfl, hx, hC, fun _ r => r, k2, (by show 3 ≤ sizeLine; decide), fun p hp => ?_⟩
    have n1 : x ≠ p := ne_of_none hx hp
    have h1 : upd H p (.lst [.bl b0, .bl b1, .bl b2]) x = some (KX (He.ga K c) x) := by rw [upd_ne n1]; exact hx
    refine ⟨.inl ⟨rfl, _, sq_of upd_same⟩, x, _, _, _, b3, rfl, h1, hC, fun _ r => r, k3, _, upd_same, (by show 3 < sizeLine; decide), ?_⟩
    have h2 : upd (upd H p (.lst [.bl b0, .bl b1, .bl b2])) p (.lst ([.bl b0, .bl b1, .bl b2] ++ [.bl b3])) x = some (KX (He.ga K c) x) := by rw [upd_ne n1]; exact h1
    have flat : ([V.bl b0, .bl b1, .bl b2] ++ [V.bl b3]).all flatV = true := rfl
    refine ⟨.inl ⟨rfl, _, sq_of upd_same⟩, p, _, _, rfl, rfl, sq_of upd_same, rfl, flat, rfl, ?_⟩
    have ec : ([V.bl b0, .bl b1, .bl b2] ++ [V.bl b3]).countP (fun z => eqV z (.bl true)) = 1 := A.cnt
    rw [ec, if_neg (by decide)]
    refine ⟨x, _, _, _, true, rfl, h2, hC, fun _ r => r, kV, _, rfl, ?_⟩
    rw [if_neg (by decide)]
    refine ⟨by show 4 ≤ sizeLine; decide, fun p1 hp1 => ?_⟩
    have n2 : p ≠ p1 := ne_of_none upd_same hp1
    have hb : (upd (upd (upd H p (.lst [.bl b0, .bl b1, .bl b2])) p (.lst ([.bl b0, .bl b1, .bl b2] ++ [.bl b3]))) p1 (.lst ([("key" : Str), "text", "size", "place"].map V.str))) p = some (.lst ([.bl b0, .bl b1, .bl b2] ++ [.bl b3])) := by
      rw [upd_ne n2]
      exact upd_same
    have hz : ([V.bl b0, .bl b1, .bl b2] ++ [V.bl b3])[j]? = some (.bl true) := by
      have e := A.at_
      show ([b0, b1, b2, b3].map V.bl)[j]? = some (.bl true)
      rw [List.getElem?_map, e]
      rfl
    have hno : ∀ (m : Nat) (z : V), m < j → ([V.bl b0, .bl b1, .bl b2] ++ [V.bl b3])[m]? = some z → eqV z (.bl true) = false := fun m z hm e => by
      have e2 : ([b0, b1, b2, b3].map V.bl)[m]? = some z := e
      rw [List.getElem?_map, A.no m hm] at e2
      cases e2
      rfl
    have hj : j < 4 := by
      have := (List.getElem?_eq_some_iff.mp hz).1
      exact this
    refine ⟨.inl ⟨rfl, _, sq_of hb⟩, p, _, _, j, _, rfl, rfl, sq_of hb, rfl, flat, hz, rfl, hno, _, _, rfl, sq_of upd_same, .str d, ?_, (by show 2 ≤ sizeLine; decide), fun p2 hp2 => ?_⟩
    · rw [atI_in (by omega) (by show (j : Int) < 4; omega), Int.toNat_natCast]
      exact hd
    · have s1 : Same H (upd (upd (upd H p (.lst [.bl b0, .bl b1, .bl b2])) p (.lst ([.bl b0, .bl b1, .bl b2] ++ [.bl b3]))) p1 (.lst ([("key" : Str), "text", "size", "place"].map V.str))) := by
        refine same_upd (same_upd (same_new hp) hp) ?_
        have e := hp1
        rw [upd_ne n2.symm, upd_ne n2.symm] at e
        exact e
      exact k p2 _ (s1.free hp2) (same_upd s1 (s1.free hp2)) upd_same
end
/-- a refusal, told -/
def IsRef (H : Hp) (d : Str) (v : V) : Prop := ∃ p, v = .ref p ∧ H p = some (.tup [.str "refused", .str d])
/-- an error that a try's body lets out is kept in slot j -/
theorem rf_keep {K : PySem.W.Frag} {c : Str} {i j : Nat} {D : Ends} {σ : L2.St} {H : Hp} (xm : PySem.W.exmOne K (.ref (He.ga K c)) (.ref (He.ga K "HandError")) = some true) (hl : i < σ.length)
    (h : ∀ a H', Same H H' → H' a = none → D.nx (((σ.set i (some (.ref a))).set j (some (.ref a))).set i none) (upd H' a (KX (He.ga K c) a))) :
    ∀ H', Same H H' → WE (wKeep K (.ref (He.ga K "HandError")) i (fun _ _ _ => tAsg (tVar i) (gName j)) D) σ (.ref (He.ga K c)) none H' :=
  fun H' s => ⟨_, rfl, rfl, xm, fun a ha => ⟨.ref a, List.getElem?_set_self hl, h a H' s ha⟩⟩
/-- .. and told -/
theorem ref_end {K : PySem.W.Frag} {c d : Str} {a : Addr} {H H' : Hp} {Q : VK} {E : XK} (hk : (c, d) ∈ kinds) (s : Same H H') (na : H' a = none) (k : ∀ v H2, Same H H2 → IsRef H2 d v → Q v H2) : spRefusal K [.ref a] (upd H' a (KX (He.ga K c) a)) Q E := by
  refine ⟨a, c, d, rfl, hk, upd_same, fun p H2 hp s2 e => k _ H2 ((same_upd s (s.free na)).trans s2) ⟨p, rfl, e⟩⟩
theorem k_text : (("BadText", "text") : Str × Str) ∈ kinds := by simp [kinds]
theorem k_place : (("BadPlace", "place") : Str × Str) ∈ kinds := by simp [kinds]
theorem k_size : (("BadSize", "size") : Str × Str) ∈ kinds := by simp [kinds]
theorem k_key : (("BadKey", "key") : Str × Str) ∈ kinds := by simp [kinds]
/-! ### comparisons of data, lists of refusals -/
section
variable {K : PySem.W.Frag} {H : Hp} {x y : V} {d e : PyData} {Q : VK}
theorem ne_data (hx : Dp K H x d) (hy : Dp K H y e) (h1 : SeqAt.shaped d = true) (h2 : SeqAt.shaped e = true) (q : Q (.bl (!PyData.eqv d e)) H) : rNeD K x y H Q := ⟨d, e, hx, hy, h1, h2, q⟩
theorem eq_data' (hx : Dp K H x d) (hy : Dp K H y e) (h1 : SeqAt.shaped d = true) (h2 : SeqAt.shaped e = true) (q : Q (.bl (PyData.eqv d e)) H) : rEqD K x y H Q := ⟨d, e, hx, hy, h1, h2, q⟩
theorem ne_same (hx : Dp K H x d) (hy : Dp K H y d) (h1 : SeqAt.shaped d = true) (q : Q (.bl false) H) : rNeD K x y H Q := ne_data hx hy h1 h1 (by rw [SeqAt.eqv_refl _ (SeqAt.canLay_of_shaped h1)]; exact q)
theorem eq_same (hx : Dp K H x d) (hy : Dp K H y d) (h1 : SeqAt.shaped d = true) (q : Q (.bl true) H) : rEqD K x y H Q := eq_data' hx hy h1 h1 (by rw [SeqAt.eqv_refl _ (SeqAt.canLay_of_shaped h1)]; exact q)
theorem IsRef.same {H' : Hp} {d : Str} {v : V} (h : IsRef H d v) (s : Same H H') : IsRef H' d v := let ⟨p, e, q⟩ := h; ⟨p, e, s _ _ q⟩
abbrev refD (d : Str) : PyData := .tuple [.str "refused", .str d]
theorem IsRef.dp {d : Str} {v : V} (h : IsRef H d v) : Dp K H v (refD d) := by
  obtain ⟨p, rfl, q⟩ := h
  exact .tup (st_of q) (.cons (.str _) (.cons (.str _) .nil))
theorem dp_refs {d : Str} : ∀ {vs : List V}, (∀ v ∈ vs, IsRef H d v) → DpAll K H vs (List.replicate vs.length (refD d))
  | [], _ => .nil
  | v :: vs, h => .cons (h v List.mem_cons_self).dp (dp_refs fun u hu => h u (List.mem_cons_of_mem _ hu))
/-- a comprehension of refusals -/
theorem lcb_ref {g : TG} {te : TE} {vs : List Nat} {σ : L2.St} {α : Type} {J : It} {n : Nat} {G : Hp → Prop} (ys : List α) (inj : α → V) (w : Walk J n G (YAt (ys.map inj))) (hn : n = ys.length) (hG : ∀ H', Same H H' → G H') (hz : ys.length ≤ 1000) (d : Str)
    (hs : ∀ y H', y ∈ ys → Same H H' → ∀ Y : V → Hp → Prop, (∀ v H4, Same H' H4 → IsRef H4 d v → Y v H4) → g (inj y) (wipe σ vs) H' fun σ2 H2 => wipe σ2 vs = wipe σ vs ∧ te σ2 H2 Y)
    (hd : ∀ D acc H', Same H H' → H' D = some (.lst acc) → acc.length = n → (∀ v ∈ acc, IsRef H' d v) → Q (.ref D) H') : LcB J g tYes te vs σ H Q := by
  intro D hD
  refine lc_it w (fun i H' => Same H H' ∧ ∃ acc, H' D = some (.lst acc) ∧ acc.length = i ∧ ∀ v ∈ acc, IsRef H' d v) ⟨same_new hD, [], upd_same, rfl, fun v hv => absurd hv List.not_mem_nil⟩ (fun i H' _ p => hG H' p.1) ?_ ?_
  · rintro i x H1 H2 hi ⟨s, acc, e, la, ra⟩ ⟨rfl, hx⟩
    rw [List.getElem?_map] at hx
    cases hy : ys[i]? with
    | none =>
      rw [hy] at hx
      cases hx
    | some y =>
      rw [hy] at hx
      have ex : inj y = x := Option.some.inj hx
      subst ex
      refine hs y _ (List.mem_of_getElem? hy) s _ fun v H4 s4 rv => ⟨acc, s4 _ _ e, slt (by omega), same_upd (s.trans s4) hD, acc ++ [v], upd_same, by rw [List.length_append, la]; rfl, fun u hu => ?_⟩
      have key : ∀ u, IsRef H4 d u → IsRef (upd H4 D (.lst (acc ++ [v]))) d u := fun u hu => by
        obtain ⟨p, rfl, q⟩ := hu
        refine ⟨p, rfl, ?_⟩
        have ne : p ≠ D := ne_of q (s4 _ _ e) (by intro z; cases z)
        rw [upd_ne ne]
        exact q
      rcases List.mem_append.mp hu with h | h
      · exact key u ((ra u h).same s4)
      · rw [List.mem_singleton.mp h]
        exact key v rv
  · rintro H' ⟨s, acc, e, la, ra⟩
    exact hd D acc H' s e la ra
/-- compared with so many like one that is written -/
theorem ne_refs {d : Str} {n : Nat} {D q p : Addr} {acc ys : List V} {R : VK} (e : H D = some (.lst acc)) (la : acc.length = n) (ra : ∀ v ∈ acc, IsRef H d v) (eq : H q = some (.lst ys)) (hp : H p = some (.tup [.str "refused", .str d])) (hy : ys = List.replicate n (.ref p))
    (hs : SeqAt.shaped (.list (List.replicate n (refD d))) = true) (k : R (.bl false) H) : rNeD K (.ref D) (.ref q) H R := by
  have h1 : Dp K H (.ref D) (.list (List.replicate n (refD d))) := .lst (sq_of e) (by rw [← la]; exact dp_refs ra)
  have h2 : Dp K H (.ref q) (.list (List.replicate n (refD d))) := by
    refine .lst (sq_of eq) ?_
    rw [hy]
    have := dp_refs (K := K) (H := H) (d := d) (vs := List.replicate n (.ref p)) fun v hv => by
      rw [List.eq_of_mem_replicate hv]
      exact ⟨p, rfl, hp⟩
    rw [List.length_replicate] at this
    exact this
  exact ne_same h1 h2 hs k
theorem eq_refs {d : Str} {n : Nat} {D q p : Addr} {acc ys : List V} {R : VK} (e : H D = some (.lst acc)) (la : acc.length = n) (ra : ∀ v ∈ acc, IsRef H d v) (eq : H q = some (.lst ys)) (hp : H p = some (.tup [.str "refused", .str d])) (hy : ys = List.replicate n (.ref p))
    (hs : SeqAt.shaped (.list (List.replicate n (refD d))) = true) (k : R (.bl true) H) : rEqD K (.ref D) (.ref q) H R := by
  have h1 : Dp K H (.ref D) (.list (List.replicate n (refD d))) := .lst (sq_of e) (by rw [← la]; exact dp_refs ra)
  have h2 : Dp K H (.ref q) (.list (List.replicate n (refD d))) := by
    refine .lst (sq_of eq) ?_
    rw [hy]
    have := dp_refs (K := K) (H := H) (d := d) (vs := List.replicate n (.ref p)) fun v hv => by
      rw [List.eq_of_mem_replicate hv]
      exact ⟨p, rfl, hp⟩
    rw [List.length_replicate] at this
    exact this
  exact eq_same h1 h2 hs k
/-- [("refused", d)] * n -/
theorem mk_refs {d : Str} {n : Nat} {R : VK} (hn : n ≤ 1000) (k : ∀ p q H', Same H H' → H' p = some (.tup [.str "refused", .str d]) → H' q = some (.lst (List.replicate n (.ref p))) → R (.ref q) H') :
    [V.str "refused", V.str d].length ≤ sizeLine ∧ ∀ p, H p = none → [V.ref p].length ≤ sizeLine ∧ ∀ l, upd H p (.tup [.str "refused", .str d]) l = none → rRep (.ref l) (.int (n : Nat)) (upd (upd H p (.tup [.str "refused", .str d])) l (.lst [.ref p])) R := by
  refine ⟨by show 2 ≤ sizeLine; decide, fun p hp => ⟨by show 1 ≤ sizeLine; decide, fun l hl => ?_⟩⟩
  refine ⟨l, n, _, rfl, rfl, upd_same, by omega, by omega, sline (by rw [Int.toNat_natCast]; show 1 * n ≤ 100000; omega), fun q hq => ?_⟩
  have s1 : Same H (upd (upd H p (.tup [.str "refused", .str d])) l (.lst [.ref p])) := (same_new hp).trans (same_new hl)
  have e1 : upd (upd H p (.tup [.str "refused", .str d])) l (.lst [.ref p]) p = some (.tup [.str "refused", .str d]) := by
    rw [upd_ne (ne_of_none upd_same hl)]
    exact upd_same
  refine k p q _ (s1.trans (same_new hq)) (same_new hq _ _ e1) ?_
  rw [upd_same, Int.toNat_natCast]
  have e : (List.replicate n [V.ref p]).flatten = List.replicate n (V.ref p) := by
    clear k hn
    induction n with
    | zero => rfl
    | succ n ih => rw [List.replicate_succ, List.flatten_cons, ih, List.replicate_succ]; rfl
  rw [e]
end
/-- signs alone, at most n -/
def okPiece (n : Nat) (z : Str) : Bool := decide (z.cps.toList.length ≤ n) && z.cps.toList.all fun c => isSign [c]
theorem pick_str {zs : List Str} {j : Nat} {v : V} (h : (zs.map V.str)[j]? = some v) : ∃ z ∈ zs, v = .str z := by
  rw [List.getElem?_map] at h
  cases e : zs[j]? with
  | none =>
    rw [e] at h
    cases h
  | some z =>
    rw [e] at h
    exact ⟨z, List.mem_of_getElem? e, (Option.some.inj h).symm⟩
theorem pick_piece {zs : List Str} {n j : Nat} {v : V} (h : (zs.map V.str)[j]? = some v) (ok : zs.all (okPiece n) = true) : ∃ t : List Nat, v = .str (S t) ∧ t.length ≤ n ∧ t.all (fun c => isSign [c]) = true := by
  obtain ⟨z, hz, rfl⟩ := pick_str h
  have q := List.all_eq_true.mp ok z hz
  unfold okPiece at q
  rw [Bool.and_eq_true, decide_eq_true_iff] at q
  exact ⟨z.cps.toList, rfl, q.1, q.2⟩
/-- one of a list that is made for it -/
theorem pick_new {K : PySem.W.Frag} {H : Hp} {a b : Addr} {ns : List Int} {z : Nat} {xs : List V} {R : VK} {E : XK} (D : Dr K H a b ns z) (hz : z < 90000) (hx : xs ≠ []) (hl : xs.length ≤ 1000)
    (k : ∀ (j : Nat) (v : V) (H' : Hp), xs[j]? = some v → Fx [b] H H' → Dr K H' a b ns (z + 1) → R v H') : xs.length ≤ sizeLine ∧ ∀ p, H p = none → spPick K [.ref a, .ref b, .ref p] (upd H p (.lst xs)) R E := by
  refine ⟨sline (by omega), fun p hp => ?_⟩
  have D1 := D.same (same_new (o := .lst xs) hp)
  refine ⟨a, b, p, xs, ns, z, rfl, D1, hz, sq_of upd_same, ?_, hx, hl, fun j v H' hj F D' => k j v H' hj ((Fx.of (same_new hp)).trans F) D'⟩
  intro e
  exact D.there (by rw [← e]; exact hp)
/-! ### lists of texts, compared -/
/-- signs that are told as data -/
abbrev Asc (t : List Nat) : Prop := ∀ c ∈ t, c < 128
abbrev AscL (ts : List (List Nat)) : Prop := ∀ u ∈ ts, Asc u
theorem strOk_asc {t : List Nat} (h : Asc t) : PyData.strOk (S t) = true := by
  show (t.toArray.all fun c => decide (c < 0x110000)) = true
  rw [List.all_toArray]
  exact List.all_eq_true.mpr fun c hc => decide_eq_true (by have := h c hc; omega)
abbrev tds (ts : List (List Nat)) : List PyData := ts.map fun u => .str (S u)
theorem canLay_texts : ∀ {ts : List (List Nat)}, AscL ts → PyData.canLayAll0 (tds ts) = true
  | [], _ => by simp [PyData.canLayAll0]
  | u :: us, h => by
    have h1 := strOk_asc (h u List.mem_cons_self)
    have h2 := canLay_texts (ts := us) fun x hx => h x (List.mem_cons_of_mem _ hx)
    show PyData.canLayAll0 (.str (S u) :: tds us) = true
    simp only [PyData.canLayAll0, PyData.canLay0, h1, h2, Bool.and_self]
theorem depth_texts : ∀ (ts : List (List Nat)), PyData.depthAll (tds ts) = 0
  | [] => by simp [PyData.depthAll]
  | u :: us => by
    show PyData.depthAll (.str (S u) :: tds us) = 0
    simp only [PyData.depthAll, PyData.depth, depth_texts us, Nat.max_self]
theorem shaped_texts {ts : List (List Nat)} (h : AscL ts) : SeqAt.shaped (.list (tds ts)) = true := by
  show (PyData.canLay0 _ && decide (PyData.depth _ ≤ 64)) = true
  have e1 : PyData.canLay0 (.list (tds ts)) = true := by
    simp only [PyData.canLay0]
    exact canLay_texts h
  have e2 : PyData.depth (.list (tds ts)) = 1 := by
    simp only [PyData.depth, depth_texts]
  rw [e1, e2]
  rfl
theorem dp_all {K : PySem.W.Frag} {H : Hp} : ∀ (ts : List (List Nat)), DpAll K H (tvs ts) (tds ts)
  | [] => .nil
  | u :: us => .cons (.str _) (dp_all us)
theorem dp_texts {K : PySem.W.Frag} {H : Hp} {t : Addr} {ts : List (List Nat)} (e : H t = some (.lst (tvs ts))) : Dp K H (.ref t) (.list (tds ts)) := .lst (sq_of e) (dp_all ts)
theorem eqv_nil {ts : List (List Nat)} : PyData.eqv (.list (tds ts)) (.list []) = decide (ts = []) := by
  cases ts with
  | nil => rfl
  | cons u us => rfl
/-- texts != [] -/
theorem ne_empty {K : PySem.W.Frag} {H : Hp} {t q : Addr} {ts : List (List Nat)} {Q : VK} (e : H t = some (.lst (tvs ts))) (f : H q = some (.lst [])) (h : AscL ts) (k : Q (.bl (decide (ts ≠ []))) H) : rNeD K (.ref t) (.ref q) H Q := by
  refine ne_data (dp_texts e) (.lst (sq_of f) .nil) (shaped_texts h) (by decide +kernel) ?_
  rw [eqv_nil]
  have e2 : (!decide (ts = [])) = decide (ts ≠ []) := by
    by_cases z : ts = [] <;> simp [z]
  rw [e2]
  exact k
theorem ne_texts {K : PySem.W.Frag} {H : Hp} {t q : Addr} {ts : List (List Nat)} {Q : VK} (e : H t = some (.lst (tvs ts))) (f : H q = some (.lst (tvs ts))) (h : AscL ts) (k : Q (.bl false) H) : rNeD K (.ref t) (.ref q) H Q := ne_same (dp_texts e) (dp_texts f) (shaped_texts h) k
theorem eq_texts {K : PySem.W.Frag} {H : Hp} {t q : Addr} {ts : List (List Nat)} {Q : VK} (e : H t = some (.lst (tvs ts))) (f : H q = some (.lst (tvs ts))) (h : AscL ts) (k : Q (.bl true) H) : rEqD K (.ref t) (.ref q) H Q := eq_same (dp_texts e) (dp_texts f) (shaped_texts h) k
theorem inV_strs (z : Str) : ∀ zs : List Str, inV (.str z) (zs.map V.str) = decide (z ∈ zs)
  | [] => by
    show ([] : List V).any _ = _
    simp
  | y :: zs => by
    have ih := inV_strs z zs
    show ((V.str y :: zs.map V.str).any fun u => eqV u (.str z)) = _
    rw [List.any_cons]
    have e : ((zs.map V.str).any fun u => eqV u (.str z)) = decide (z ∈ zs) := ih
    rw [e]
    have e2 : eqV (.str y) (.str z) = (y == z) := rfl
    rw [e2]
    by_cases h : z = y
    · subst h
      simp
    · have h2 : ¬ y = z := fun q => h q.symm
      simp [h, h2]
theorem flat_strs (zs : List Str) : (zs.map V.str).all flatV = true := by
  rw [List.all_map]
  exact List.all_eq_true.mpr fun _ _ => rfl
theorem in_strs {K : PySem.W.Frag} {H : Hp} {z : Str} {p : Addr} (zs : List Str) {Q : VK} (e : SqT K H p (zs.map V.str)) (k : Q (.bl (decide (z ∈ zs))) H) : rIn K false (.str z) (.ref p) H Q := by
  refine ⟨p, _, rfl, .inr e, rfl, flat_strs zs, ?_⟩
  rw [if_neg (by decide), inV_strs]
  exact k
theorem notin_strs {K : PySem.W.Frag} {H : Hp} {z : Str} {p : Addr} (zs : List Str) {Q : VK} (e : SqT K H p (zs.map V.str)) (k : Q (.bl (decide (z ∉ zs))) H) : rIn K true (.str z) (.ref p) H Q := by
  refine ⟨p, _, rfl, .inr e, rfl, flat_strs zs, ?_⟩
  rw [if_pos rfl, inV_strs]
  have e2 : (!decide (z ∈ zs)) = decide (z ∉ zs) := by
    by_cases h : z ∈ zs <;> simp [h]
  rw [e2]
  exact k
/-! ### two things apart -/
/-- the town, the script, what stands at F, what stands at G: all apart -/
structure Sep (K : PySem.W.Frag) (H : Hp) (a p : Addr) (ns : List Int) (z : Nat) (F G : List Addr) : Prop where
  D : Dr K H a p ns z
  ap : Ap K a ns F
  aq : Ap K a ns G
  pn : p ∉ F
  qn : p ∉ G
  dj : ∀ c ∈ F, c ∉ G
  oF : ∀ c ∈ F, H c ≠ none
  oG : ∀ c ∈ G, H c ≠ none
section
variable {K : PySem.W.Frag} {H H' : Hp} {a p : Addr} {ns : List Int} {z z' : Nat} {F G F' G' : List Addr}
theorem Fx.old (f : Fx F H H') {c : Addr} (h : H c ≠ none) : H' c ≠ none := fun e => h (f.free e)
theorem Sep.symm (S : Sep K H a p ns z F G) : Sep K H a p ns z G F := ⟨S.D, S.aq, S.ap, S.qn, S.pn, fun c h g => S.dj c g h, S.oG, S.oF⟩
theorem Sep.draw (S : Sep K H a p ns z F G) (f : Fx [p] H H') (D : Dr K H' a p ns z') : Sep K H' a p ns z' F G := ⟨D, S.ap, S.aq, S.pn, S.qn, S.dj, fun c h => f.old (S.oF c h), fun c h => f.old (S.oG c h)⟩
theorem Sep.same (S : Sep K H a p ns z F G) (s : Same H H') : Sep K H' a p ns z F G := S.draw (Fx.of s) (S.D.same s)
theorem Sep.mono (S : Sep K H a p ns z F G) (h : z ≤ z') : Sep K H a p ns z' F G := ⟨S.D.mono h, S.ap, S.aq, S.pn, S.qn, S.dj, S.oF, S.oG⟩
theorem Ap.each (h : ∀ c ∈ F, Ap K a ns [c]) : Ap K a ns F := by
  induction F with
  | nil => exact .inr List.not_mem_nil
  | cons c F ih => exact (h c List.mem_cons_self).cons (ih fun d hd => h d (List.mem_cons_of_mem _ hd))
theorem Ap.of (h : Ap K a ns F) {c : Addr} (m : c ∈ F) : Ap K a ns [c] := h.mono fun d hd => by rw [List.mem_singleton.mp hd]; exact m
theorem Sep.left (S : Sep K H a p ns z F G) (f : Fx F H H') (n : ∀ c ∈ F', c ∈ F ∨ H c = none) (o : ∀ c ∈ F', H' c ≠ none) : Sep K H' a p ns z F' G := by
  refine ⟨S.D.fy f S.ap S.pn, Ap.each fun c hc => ?_, S.aq, fun h => ?_, S.qn, fun c hc g => ?_, o, fun c h => f.old (S.oG c h)⟩
  · rcases n c hc with q | q
    · exact S.ap.of q
    · exact S.D.new q
  · rcases n p h with q | q
    · exact S.pn q
    · exact S.D.ne q rfl
  · rcases n c hc with q | q
    · exact S.dj c q g
    · exact S.oG c g q
theorem Sep.right (S : Sep K H a p ns z F G) (f : Fx G H H') (n : ∀ c ∈ G', c ∈ G ∨ H c = none) (o : ∀ c ∈ G', H' c ≠ none) : Sep K H' a p ns z F G' := (S.symm.left f n o).symm
theorem Sep.nG (S : Sep K H a p ns z F G) {c : Addr} (h : c ∈ G) : c ∉ F := fun m => S.dj c m h
theorem Sep.nF (S : Sep K H a p ns z F G) {c : Addr} (h : c ∈ F) : c ∉ G := S.dj c h
theorem Sep.npF (S : Sep K H a p ns z F G) {c : Addr} (h : c ∈ F) : c ∉ [p] := fun m => S.pn (by rw [← List.mem_singleton.mp m]; exact h)
theorem Sep.npG (S : Sep K H a p ns z F G) {c : Addr} (h : c ∈ G) : c ∉ [p] := fun m => S.qn (by rw [← List.mem_singleton.mp m]; exact h)
end
/-- the texts that the law writes -/
def smallT (t : List Nat) : Bool := okText t && decide (t.length ≤ 10)
theorem small_len {i : Nat} (h : i < 31) : ("t" : Str).length + (Str.ofString (toString (i : Int))).length ≤ 100 := by
  have : ∀ i : Fin 31, ("t" : Str).length + (Str.ofString (toString ((i : Nat) : Int))).length ≤ 100 := by decide +kernel
  exact this ⟨i, h⟩
theorem small_num {i : Nat} (h : i < 31) : smallT (("t" : Str) ++ Str.ofString (toString (i : Int))).cps.toList = true := by
  have : ∀ i : Fin 31, smallT (("t" : Str) ++ Str.ofString (toString ((i : Nat) : Int))).cps.toList = true := by decide +kernel
  exact this ⟨i, h⟩
theorem shaped_str {t : List Nat} (h : Asc t) : SeqAt.shaped (.str (S t)) = true := by
  show (PyData.canLay0 (.str (S t)) && decide (PyData.depth (.str (S t)) ≤ 64)) = true
  simp only [PyData.canLay0, PyData.depth, strOk_asc h]
  rfl
end LH
/-! ## Histories -/
namespace LH
open PySem PySem.Spec PyProof.Rows L2
theorem walk_rangeC {lo c : Int} {n : Nat} : Walk (Itc lo c n) n (fun _ => True) (fun i H x H' => H' = H ∧ x = .int (lo + (i : Nat) * c)) :=
  ⟨fun _ _ hi _ => hi, fun _ _ => Nat.le_refl _, fun _ _ _ _ _ _ y => y⟩
theorem forb_rngC {lo c : Int} {n : Nat} {g : TG} {tb : TS} {D : Ends} {σ : L2.St} {H : Hp} (Pv : Nat → L2.St → Hp → Prop) (h0 : Pv 0 σ H)
    (hs : ∀ (i : Nat) σ' H', i < n → Pv i σ' H' → g (.int (lo + (i : Nat) * c)) σ' H' fun σ2 H2 => tb { D with nx := Pv (i + 1), ct := Pv (i + 1), bk := D.nx } σ2 H2) (hd : ∀ σ' H', Pv n σ' H' → D.nx σ' H') : ForB (Itc lo c n) g tb D σ H :=
  for_it walk_rangeC Pv h0 (fun _ _ _ _ _ => trivial) (fun i x σ' H1 H2 hi p ⟨e1, e2⟩ => by subst e1 e2; exact hs i σ' _ hi p) hd
/-- a history: at most m lines, as they were, as they are changed, which one is there -/
structure Hs where
  m : Nat
  kept : List (List Nat)
  shown : List (List Nat)
  spot : Nat
def HistAt (K : PySem.W.Frag) (H : Hp) (x ak as : Addr) (M : Hs) : Prop :=
  (∃ dx, H x = some (.ins (He.ga K "History") dx (fs_History (.int M.m) (.ref ak) (.ref as) (.int M.spot)))) ∧ H ak = some (.lst (tvs M.kept)) ∧ H as = some (.lst (tvs M.shown)) ∧ ak ≠ as
def HistTo (K : PySem.W.Frag) (H : Hp) (x ak as : Addr) (M : Hs) (Q : Hp → Prop) : Prop :=
  ∀ ak' as' H', New H ak ak' → New H as as' → Fx [x, ak, as] H H' → HistAt K H' x ak' as' M → Q H'
theorem HistAt.fx {K : PySem.W.Frag} {F : List Addr} {H H' : Hp} {x ak as : Addr} {M : Hs} (R : HistAt K H x ak as M) (f : Fx F H H') (n : ∀ c ∈ [x, ak, as], c ∉ F) : HistAt K H' x ak as M := by
  obtain ⟨⟨dx, h1⟩, h2, h3, h4⟩ := R
  exact ⟨⟨dx, f.at h1 (n _ (by simp))⟩, f.at h2 (n _ (by simp)), f.at h3 (n _ (by simp)), h4⟩
theorem HistAt.same {K : PySem.W.Frag} {H H' : Hp} {x ak as : Addr} {M : Hs} (R : HistAt K H x ak as M) (s : Same H H') : HistAt K H' x ak as M := R.fx (Fx.of (F := []) s) fun _ _ => List.not_mem_nil
theorem HistAt.old {K : PySem.W.Frag} {H : Hp} {x ak as : Addr} {M : Hs} (R : HistAt K H x ak as M) : ∀ c ∈ [x, ak, as], H c ≠ none := by
  obtain ⟨⟨dx, h1⟩, h2, h3, _⟩ := R
  intro c hc e
  simp only [List.mem_cons, List.not_mem_nil, or_false] at hc
  rcases hc with rfl | rfl | rfl
  · rw [h1] at e
    cases e
  · rw [h2] at e
    cases e
  · rw [h3] at e
    cases e
def addK (m : Nat) (t : List Nat) (kept : List (List Nat)) : List (List Nat) := if t ≠ [] ∧ kept.getLast? ≠ some t then (kept ++ [t]).drop (kept.length + 1 - m) else kept
theorem addK_len {m : Nat} {t : List Nat} {kept : List (List Nat)} : (addK m t kept).length ≤ kept.length + 1 := by
  unfold addK
  split
  · rw [List.length_drop, List.length_append, List.length_singleton]
    omega
  · omega
def Hs.add (M : Hs) (t : List Nat) : Hs := ⟨M.m, addK M.m t M.kept, addK M.m t M.kept ++ [[]], (addK M.m t M.kept).length⟩
def Hs.keep (M : Hs) (t : List Nat) : Hs := ⟨M.m, M.kept, M.shown.set M.spot t, M.spot⟩
def Hs.go (M : Hs) (k : Nat) : Hs := ⟨M.m, M.kept, M.shown, k⟩
/-- whether a part is in a text -/
def hasT (part t : List Nat) : Bool := !(Builtin.Str.occurrences (S t) (S part) 0 (S t).length 1).isEmpty
/-- the last one up to k in which it is -/
def findK (part : List Nat) (kept : List (List Nat)) : Nat → Option Nat
  | 0 => none
  | k + 1 => if hasT part (kept.getD k []) = true then some k else findK part kept k
def optV : Option Nat → V
  | none => .non
  | some k => .int k
theorem eqv_tds : ∀ (a b : List (List Nat)), PyData.eqv (.list (tds a)) (.list (tds b)) = decide (a = b)
  | [], [] => rfl
  | [], _ :: _ => rfl
  | _ :: _, [] => rfl
  | u :: us, v :: vs => by
    have ih := eqv_tds us vs
    have ih2 : PyData.eqvAll (tds us) (tds vs) = decide (us = vs) := by
      rw [← ih]
      simp only [PyData.eqv]
    show PyData.eqv (.list (.str (S u) :: tds us)) (.list (.str (S v) :: tds vs)) = _
    simp only [PyData.eqv, PyData.eqvAll]
    rw [ih2]
    by_cases h : u = v
    · subst h
      by_cases g : us = vs
      · subst g
        simp
      · simp [g]
    · have hs : ¬ S u = S v := fun e => h (by rw [S_inj] at e; exact e)
      have hb : (S u == S v) = false := beq_eq_false_iff_ne.mpr hs
      rw [hb]
      simp [h]
/-- the last of a list, as a list -/
theorem drop_last (l : List (List Nat)) (t : List Nat) : l.drop (l.length - 1) = [t] ↔ l.getLast? = some t := by
  rcases List.eq_nil_or_concat l with h | ⟨l', b, h⟩
  · subst h
    simp
  · rw [List.concat_eq_append] at h
    subst h
    rw [List.getLast?_concat, List.length_append, List.length_singleton, Nat.add_sub_cancel, List.drop_append_of_le_length (Nat.le_refl _), List.drop_length]
    simp
def spHist (K : PySem.W.Frag) : Sp := fun vs H Q E => ∃ (x dx : Addr) (m : Int), vs = [.ref x, .int m] ∧ H x = some (.ins (He.ga K "History") dx []) ∧
  if 1 ≤ m ∧ m ≤ 200 then (∀ ak as H', H ak = none → H as = none → Fx [x] H H' → HistAt K H' x ak as ⟨m.toNat, [], [[]], 0⟩ → Q .non H') else Rf K "BadSize" E H
def spHAdd (K : PySem.W.Frag) : Sp := fun vs H Q E => ∃ (x ak as : Addr) (M : Hs) (t : List Nat), vs = [.ref x, tv t] ∧ HistAt K H x ak as M ∧ t.length ≤ 100000 ∧ M.kept.length ≤ 1000 ∧ 1 ≤ M.m ∧ AscL M.kept ∧
  if okText t = true then HistTo K H x ak as (M.add t) (Q .non) else Rf K "BadText" E H
def spHAll (K : PySem.W.Frag) : Sp := fun vs H Q E => ∃ (x ak as : Addr) (M : Hs), vs = [.ref x] ∧ HistAt K H x ak as M ∧ ∀ q, H q = none → Q (.ref q) (upd H q (.lst (tvs M.kept)))
def spHMany (K : PySem.W.Frag) : Sp := fun vs H Q E => ∃ (x ak as : Addr) (M : Hs), vs = [.ref x] ∧ HistAt K H x ak as M ∧ Q (.int (M.kept.length : Nat)) H
def spHKeep (K : PySem.W.Frag) : Sp := fun vs H Q E => ∃ (x ak as : Addr) (M : Hs) (t : List Nat), vs = [.ref x, tv t] ∧ HistAt K H x ak as M ∧ M.spot < M.shown.length ∧ HistTo K H x ak as (M.keep t) (Q .non)
def spHGo (K : PySem.W.Frag) : Sp := fun vs H Q E => ∃ (x ak as : Addr) (M : Hs) (i : Int), vs = [.ref x, .int i] ∧ HistAt K H x ak as M ∧
  if 0 ≤ i ∧ i < M.shown.length then HistTo K H x ak as (M.go i.toNat) (Q (tv (M.shown.getD i.toNat []))) else Rf K "BadPlace" E H
def spHFind (K : PySem.W.Frag) : Sp := fun vs H Q E => ∃ (x ak as : Addr) (M : Hs) (part : List Nat) (i : Int), vs = [.ref x, tv part, .int i] ∧ HistAt K H x ak as M ∧ M.kept.length ≤ 1000 ∧ -100000 ≤ i ∧ i ≤ 100000 ∧
  Q (optV (findK part M.kept (min (i + 1).toNat M.kept.length))) H
section
variable {P : Program} {w : World} {K : PySem.W.Frag} {mg : Str → Option Value} {base : Heap}
theorem d_History_init (T : TX K mg) : Mn P w K mg base 1 "History" (He.ga K "History") p_History_init (spHist K) := by
  refine mn_of (fn_History_init T) (mk_History T) (g_History T) sc_History_init bd_History_init (fun vs H Q E h => ?_) (fun cdv A outer s H vs Q E hr h => ?_)
  · obtain ⟨x, dx, m, rfl, _⟩ := h
    rfl
  · obtain ⟨x, dx, m, rfl, hp, k⟩ := h
    refine ⟨_, (pss_cons (ps_if (pt_not (pt_chain op_le op_le pe_int (pv 1) (pgi (i_MOST_LINES T)))) (pss_one (ps_raise rfl (takes_of rfl rfl rfl rfl) (pmk_own PySem.F.excBase_ValueError (xc_BadSize T).1 (g_BadSize T) (xc_BadSize T).2.1 (raises_own (xc_BadSize T).2.2.1 (xc_BadSize T).2.2.2) rfl))) pss_nil) (pss_cons (ps_fld (pv 0) (pv 1) rfl) (pss_cons (ps_fld (pv 0) (pe_lst pa_nil) rfl) (pss_cons (ps_fld (pv 0) (pe_lst (pa_cons pe_str pa_nil)) rfl) (pss_one (ps_fld (pv 0) pe_int rfl)))))), ?_⟩
    walk_at "rd"
    simp only [List.getElem?_cons_zero, List.getElem?_cons_succ, List.set_cons_zero, List.set_cons_succ, List.cons_append, List.nil_append, List.append_nil, Option.some.injEq, V.int.injEq, V.str.injEq, V.bl.injEq, V.ref.injEq, List.cons.injEq, HO.ins.injEq, HO.lst.injEq, HO.tup.injEq, S_inj, ofS_inj, String.reduceEq, ex_eq, ex_eq', ex_eq0, tLc_eq, tFor_eq, iStr, iRng1, iRng2, iList, iTup, tVar, tC, tOp, tCons, tNil, tCB, tFld, tCallS, tMethW, tMakeS, WE, wKeep, tLits, tLst, tTup, wipe, rI, rI0, rU, rEq, rNe, scII, scSS, scBB, scNN, scNI, scNS, scNB, scIN, scSN, scBN, scIS, scSI, if_tt, if_ff, and_true, true_and, and_assoc, exists_and_left, exists_and_right, exists_const, cxK, decide_true, decide_false, Bool.not_true, Bool.not_false, eq_self_iff_true, Bool.true_eq_false, Bool.false_eq_true, if_true, if_false, reduceCtorEq, S_len, S_one, S_tl, decide_eq_true_eq, tUn, tAndV, tOrV, tNotV, tIf, tAnd, tOr, tNot, tB, tTest, tChain, tCall, tMeth, tMake, sFld, tSeq, tNext, tAsg, gName, tIfS, tRet, tRetN, tDrop, tM0, tM1, tBM, tBM0, rAppend, rPop, tSl, tPart, tNoPart, rIxL, rIxT, rIxS, rSlS, rSlL, rCat, iRng3, tRevL, tDisp, tPairs, tDGet, sDPut, gTup, gCons, gNil, gSub, gAttr, rSetL, tv, upd_same, upd_upd, List.length_cons, List.length_nil, Nat.reduceAdd, Nat.zero_add, lines, fk_History T, lk_History, inj_History, hp, mk_fs_History]
    have no : ¬ (1 ≤ m ∧ m ≤ 200) → E (.ref (He.ga K "BadSize")) none H := fun n => by
      rw [if_neg n] at k
      exact k H (Same.refl H)
    by_cases h1 : 1 ≤ m
    · rw [if_pos h1]
      by_cases h2 : m ≤ 200
      · rw [if_neg (by rw [decide_eq_true h2]; decide)]
        rw [if_pos ⟨h1, h2⟩] at k
        refine ⟨by decide, fun ak hak => ?_⟩
        obtain ⟨n1, hak⟩ := un hak
        simp only [List.getElem?_cons_zero, List.getElem?_cons_succ, List.set_cons_zero, List.set_cons_succ, List.cons_append, List.nil_append, List.append_nil, Option.some.injEq, V.int.injEq, V.str.injEq, V.bl.injEq, V.ref.injEq, List.cons.injEq, HO.ins.injEq, HO.lst.injEq, HO.tup.injEq, S_inj, ofS_inj, String.reduceEq, ex_eq, ex_eq', ex_eq0, tLc_eq, tFor_eq, iStr, iRng1, iRng2, iList, iTup, tVar, tC, tOp, tCons, tNil, tCB, tFld, tCallS, tMethW, tMakeS, WE, wKeep, tLits, tLst, tTup, wipe, rI, rI0, rU, rEq, rNe, scII, scSS, scBB, scNN, scNI, scNS, scNB, scIN, scSN, scBN, scIS, scSI, if_tt, if_ff, and_true, true_and, and_assoc, exists_and_left, exists_and_right, exists_const, cxK, decide_true, decide_false, Bool.not_true, Bool.not_false, eq_self_iff_true, Bool.true_eq_false, Bool.false_eq_true, if_true, if_false, reduceCtorEq, S_len, S_one, S_tl, decide_eq_true_eq, tUn, tAndV, tOrV, tNotV, tIf, tAnd, tOr, tNot, tB, tTest, tChain, tCall, tMeth, tMake, sFld, tSeq, tNext, tAsg, gName, tIfS, tRet, tRetN, tDrop, tM0, tM1, tBM, tBM0, rAppend, rPop, tSl, tPart, tNoPart, rIxL, rIxT, rIxS, rSlS, rSlL, rCat, iRng3, tRevL, tDisp, tPairs, tDGet, sDPut, gTup, gCons, gNil, gSub, gAttr, rSetL, tv, upd_same, upd_upd, List.length_cons, List.length_nil, Nat.reduceAdd, Nat.zero_add, lines, fk_History T, lk_History, inj_History, mk_fs_History, upd_ne n1]
        refine ⟨by decide, fun as has => ?_⟩
        obtain ⟨n2, has⟩ := un has
        obtain ⟨n3, has⟩ := un has
        obtain ⟨_, has⟩ := un has
        simp only [List.getElem?_cons_zero, List.getElem?_cons_succ, List.set_cons_zero, List.set_cons_succ, List.cons_append, List.nil_append, List.append_nil, Option.some.injEq, V.int.injEq, V.str.injEq, V.bl.injEq, V.ref.injEq, List.cons.injEq, HO.ins.injEq, HO.lst.injEq, HO.tup.injEq, S_inj, ofS_inj, String.reduceEq, ex_eq, ex_eq', ex_eq0, tLc_eq, tFor_eq, iStr, iRng1, iRng2, iList, iTup, tVar, tC, tOp, tCons, tNil, tCB, tFld, tCallS, tMethW, tMakeS, WE, wKeep, tLits, tLst, tTup, wipe, rI, rI0, rU, rEq, rNe, scII, scSS, scBB, scNN, scNI, scNS, scNB, scIN, scSN, scBN, scIS, scSI, if_tt, if_ff, and_true, true_and, and_assoc, exists_and_left, exists_and_right, exists_const, cxK, decide_true, decide_false, Bool.not_true, Bool.not_false, eq_self_iff_true, Bool.true_eq_false, Bool.false_eq_true, if_true, if_false, reduceCtorEq, S_len, S_one, S_tl, decide_eq_true_eq, tUn, tAndV, tOrV, tNotV, tIf, tAnd, tOr, tNot, tB, tTest, tChain, tCall, tMeth, tMake, sFld, tSeq, tNext, tAsg, gName, tIfS, tRet, tRetN, tDrop, tM0, tM1, tBM, tBM0, rAppend, rPop, tSl, tPart, tNoPart, rIxL, rIxT, rIxS, rSlS, rSlL, rCat, iRng3, tRevL, tDisp, tPairs, tDGet, sDPut, gTup, gCons, gNil, gSub, gAttr, rSetL, tv, upd_same, upd_upd, List.length_cons, List.length_nil, Nat.reduceAdd, Nat.zero_add, lines, fk_History T, lk_History, inj_History, mk_fs_History, upd_ne n1, upd_ne n2]
        refine ⟨by decide, by decide, k ak as _ hak has ?_ ⟨⟨dx, ?_⟩, ?_, ?_, n3⟩⟩
        · have mm : x ∈ [x] := List.mem_cons_self
          refine Fx.up (Fx.nw (Fx.up (Fx.nw (Fx.up (Fx.refl _ _) mm (nt_ins hp)) ?_) mm (nt_ins (by rw [upd_ne n1, upd_same]))) ?_) mm (nt_ins (by rw [upd_ne n2, upd_same]))
          · rw [upd_ne n1.symm]
            exact hak
          · rw [upd_ne n2.symm, upd_ne n3.symm, upd_ne n2.symm]
            exact has
        · rw [upd_same, Int.toNat_of_nonneg (by omega)]
          rfl
        · rw [upd_ne n1.symm, upd_ne n3, upd_ne n1.symm, upd_same]
          rfl
        · rw [upd_ne n2.symm, upd_same]
          rfl
      · rw [if_pos (by rw [decide_eq_false h2]; rfl)]
        exact no fun h => h2 h.2
    · rw [if_neg h1]
      exact no fun h => h1 h.1
theorem d_History_add (T : TX K mg) : Mt P w K mg base 3 (He.ga K "History") "add" p_History_add (spHAdd K) := by
  refine mt_of (fn_History_add T) (cl_History T) (me_History_add T) sc_History_add bd_History_add (fun vs H Q E h => ?_) (fun cdv A outer s H vs Q E hr h => ?_)
  · obtain ⟨x, ak, as, M, t, rfl, _⟩ := h
    rfl
  · obtain ⟨x, ak, as, M, t, rfl, R, ht, hk, m1, asc, k⟩ := h
    obtain ⟨⟨dx, hp⟩, hak, has, nks⟩ := id R
    refine ⟨_, (pss_cons (ps_expr (pc (d_look_text T) (hr.mono (by decide)) px (pa_cons (pv 1) pa_nil))) (Evl.pss_cut (ps_if (PW.pt (pw_and (pt_cmpR op_ne (pv 1) pe_str (nomark _)) (pw_and1 (pt_cmpR (op_neD hr.units) (pe_slice sl_list (pe_fld (pv 0) rfl) (po_some (pe_un un_neg pe_int)) po_none) (pe_lst (pa_cons (pv 1) pa_nil)) (nomark _))))) (pss_one (ps_fld (pv 0) (pe_slice sl_list (pe_op op_cat (pe_fld (pv 0) rfl) (pe_lst (pa_cons (pv 1) pa_nil))) (po_some (pe_op op_sub pe_int (pe_fld (pv 0) rfl))) po_none) rfl)) pss_nil) (pss_cons (ps_fld (pv 0) (pe_op op_cat (pe_fld (pv 0) rfl) (pe_lst (pa_cons pe_str pa_nil))) rfl) (pss_one (ps_fld (pv 0) (pe_callB call_len_seq (by rfl) (b_len T) boot_len (pa_cons (pe_fld (pv 0) rfl) pa_nil)) rfl))))), ?_⟩
    walk_at "rd"
    refine ⟨t, rfl, ht, ?_⟩
    by_cases ok : okText t = true
    · rw [if_pos ok] at k ⊢
      intro H1 s1
      have hp1 := s1 _ _ hp
      have hak1 := s1 _ _ hak
      have has1 := s1 _ _ has
      let Mid : L2.St → Hp → Prop := fun σ' H' => ∃ ak', σ' = [some (.ref x), some (tv t)] ∧ HistAt K H' x ak' as ⟨M.m, addK M.m t M.kept, M.shown, M.spot⟩ ∧ New H1 ak ak' ∧ Fx [x, ak, as] H1 H'
      refine ⟨Mid, ?_, ?_⟩
      · walk_at "rd"
        simp only [List.getElem?_cons_zero, List.getElem?_cons_succ, List.set_cons_zero, List.set_cons_succ, List.cons_append, List.nil_append, List.append_nil, Option.some.injEq, V.int.injEq, V.str.injEq, V.bl.injEq, V.ref.injEq, List.cons.injEq, HO.ins.injEq, HO.lst.injEq, HO.tup.injEq, S_inj, ofS_inj, String.reduceEq, ex_eq, ex_eq', ex_eq0, tLc_eq, tFor_eq, iStr, iRng1, iRng2, iList, iTup, tVar, tC, tOp, tCons, tNil, tCB, tFld, tCallS, tMethW, tMakeS, WE, wKeep, tLits, tLst, tTup, wipe, rI, rI0, rU, rEq, rNe, scII, scSS, scBB, scNN, scNI, scNS, scNB, scIN, scSN, scBN, scIS, scSI, if_tt, if_ff, and_true, true_and, and_assoc, exists_and_left, exists_and_right, exists_const, cxK, decide_true, decide_false, Bool.not_true, Bool.not_false, eq_self_iff_true, Bool.true_eq_false, Bool.false_eq_true, if_true, if_false, reduceCtorEq, S_len, S_one, S_tl, decide_eq_true_eq, tUn, tAndV, tOrV, tNotV, tIf, tAnd, tOr, tNot, tB, tTest, tChain, tCall, tMeth, tMake, sFld, tSeq, tNext, tAsg, gName, tIfS, tRet, tRetN, tDrop, tM0, tM1, tBM, tBM0, rAppend, rPop, tSl, tPart, tNoPart, rIxL, rIxT, rIxS, rSlS, rSlL, rCat, iRng3, tRevL, tDisp, tPairs, tDGet, sDPut, gTup, gCons, gNil, gSub, gAttr, rSetL, tv, upd_same, upd_upd, List.length_cons, List.length_nil, Nat.reduceAdd, Nat.zero_add, lines, fk_History T, lk_History, inj_History, hp1]
        have same : addK M.m t M.kept = M.kept → ∀ H', Same H1 H' → Mid [some (.ref x), some (tv t)] H' := fun e H' s => by
          refine ⟨ak, rfl, ?_, .inl rfl, Fx.of s⟩
          rw [e]
          exact ⟨⟨dx, s _ _ hp1⟩, s _ _ hak1, s _ _ has1, nks⟩
        by_cases e0 : t = []
        · rw [if_neg (by rw [decide_eq_true (show S t = ("" : Str) by rw [e0]; rfl)]; decide)]
          exact same (if_neg fun h => h.1 e0) H1 (Same.refl _)
        · have es : ¬ S t = ("" : Str) := fun h => e0 (by rw [show ("" : Str) = S [] from rfl, S_inj] at h; exact h)
          rw [if_pos (by rw [decide_eq_false es]; rfl)]
          have ec : cutV (tvs M.kept) (some (-1)) none = tvs (M.kept.drop (M.kept.length - 1)) := by
            rw [cutV_neg _ _ (by omega), List.length_map, ← List.map_drop, show ((M.kept.length : Int) + -1).toNat = M.kept.length - 1 by omega]
          refine ⟨_, sq_of hak1, ?_⟩
          rw [ec]
          intro q1 h1 q2 h2
          have s2 := (same_new (o := .lst (tvs (M.kept.drop (M.kept.length - 1)))) h1).trans (same_new (o := .lst [.str (S t)]) h2)
          refine ne_data (d := .list (tds (M.kept.drop (M.kept.length - 1)))) (e := .list (tds [t])) (dp_texts (same_new h2 _ _ upd_same)) (dp_texts upd_same) (shaped_texts fun u hu => asc u (List.mem_of_mem_drop hu)) (shaped_texts fun u hu => by rw [List.mem_singleton.mp hu]; exact okText_lt ok) ⟨_, rfl, ?_⟩
          rw [eqv_tds]
          by_cases el : M.kept.getLast? = some t
          · rw [if_neg (by rw [decide_eq_true ((drop_last _ _).mpr el)]; decide)]
            exact same (if_neg fun h => h.2 el) _ s2
          · rw [if_pos (by rw [decide_eq_false fun h => el ((drop_last _ _).mp h)]; rfl)]
            have ea : addK M.m t M.kept = (M.kept ++ [t]).drop (M.kept.length + 1 - M.m) := if_pos ⟨e0, el⟩
            have hp2 := s2 _ _ hp1
            have hak2 := s2 _ _ hak1
            have has2 := s2 _ _ has1
            simp only [List.getElem?_cons_zero, List.getElem?_cons_succ, List.set_cons_zero, List.set_cons_succ, List.cons_append, List.nil_append, List.append_nil, Option.some.injEq, V.int.injEq, V.str.injEq, V.bl.injEq, V.ref.injEq, List.cons.injEq, HO.ins.injEq, HO.lst.injEq, HO.tup.injEq, S_inj, ofS_inj, String.reduceEq, ex_eq, ex_eq', ex_eq0, tLc_eq, tFor_eq, iStr, iRng1, iRng2, iList, iTup, tVar, tC, tOp, tCons, tNil, tCB, tFld, tCallS, tMethW, tMakeS, WE, wKeep, tLits, tLst, tTup, wipe, rI, rI0, rU, rEq, rNe, scII, scSS, scBB, scNN, scNI, scNS, scNB, scIN, scSN, scBN, scIS, scSI, if_tt, if_ff, and_true, true_and, and_assoc, exists_and_left, exists_and_right, exists_const, cxK, decide_true, decide_false, Bool.not_true, Bool.not_false, eq_self_iff_true, Bool.true_eq_false, Bool.false_eq_true, if_true, if_false, reduceCtorEq, S_len, S_one, S_tl, decide_eq_true_eq, tUn, tAndV, tOrV, tNotV, tIf, tAnd, tOr, tNot, tB, tTest, tChain, tCall, tMeth, tMake, sFld, tSeq, tNext, tAsg, gName, tIfS, tRet, tRetN, tDrop, tM0, tM1, tBM, tBM0, rAppend, rPop, tSl, tPart, tNoPart, rIxL, rIxT, rIxS, rSlS, rSlL, rCat, iRng3, tRevL, tDisp, tPairs, tDGet, sDPut, gTup, gCons, gNil, gSub, gAttr, rSetL, tv, upd_same, upd_upd, List.length_cons, List.length_nil, Nat.reduceAdd, Nat.zero_add, lines, fk_History T, lk_History, inj_History, hp2]
            intro q3 h3
            have hp3 := same_new (o := .lst [.str (S t)]) h3 _ _ hp2
            have hak3 := same_new (o := .lst [.str (S t)]) h3 _ _ hak2
            refine ⟨_, hak3, sline (by rw [List.length_map]; omega), fun q4 h4 => ?_⟩
            have s3 := same_new (o := .lst [.str (S t)]) h3
            have s4 := same_new (o := .lst (tvs M.kept ++ [.str (S t)])) h4
            have hp4 := s4 _ _ hp3
            simp only [List.getElem?_cons_zero, List.getElem?_cons_succ, List.set_cons_zero, List.set_cons_succ, List.cons_append, List.nil_append, List.append_nil, Option.some.injEq, V.int.injEq, V.str.injEq, V.bl.injEq, V.ref.injEq, List.cons.injEq, HO.ins.injEq, HO.lst.injEq, HO.tup.injEq, S_inj, ofS_inj, String.reduceEq, ex_eq, ex_eq', ex_eq0, tLc_eq, tFor_eq, iStr, iRng1, iRng2, iList, iTup, tVar, tC, tOp, tCons, tNil, tCB, tFld, tCallS, tMethW, tMakeS, WE, wKeep, tLits, tLst, tTup, wipe, rI, rI0, rU, rEq, rNe, scII, scSS, scBB, scNN, scNI, scNS, scNB, scIN, scSN, scBN, scIS, scSI, if_tt, if_ff, and_true, true_and, and_assoc, exists_and_left, exists_and_right, exists_const, cxK, decide_true, decide_false, Bool.not_true, Bool.not_false, eq_self_iff_true, Bool.true_eq_false, Bool.false_eq_true, if_true, if_false, reduceCtorEq, S_len, S_one, S_tl, decide_eq_true_eq, tUn, tAndV, tOrV, tNotV, tIf, tAnd, tOr, tNot, tB, tTest, tChain, tCall, tMeth, tMake, sFld, tSeq, tNext, tAsg, gName, tIfS, tRet, tRetN, tDrop, tM0, tM1, tBM, tBM0, rAppend, rPop, tSl, tPart, tNoPart, rIxL, rIxT, rIxS, rSlS, rSlL, rCat, iRng3, tRevL, tDisp, tPairs, tDGet, sDPut, gTup, gCons, gNil, gSub, gAttr, rSetL, tv, upd_same, upd_upd, List.length_cons, List.length_nil, Nat.reduceAdd, Nat.zero_add, lines, fk_History T, lk_History, inj_History, hp4]
            refine ⟨_, sq_of upd_same, fun q5 h5 => ?_⟩
            have n5 := ne_new hp4 h5
            simp only [List.getElem?_cons_zero, List.getElem?_cons_succ, List.set_cons_zero, List.set_cons_succ, List.cons_append, List.nil_append, List.append_nil, Option.some.injEq, V.int.injEq, V.str.injEq, V.bl.injEq, V.ref.injEq, List.cons.injEq, HO.ins.injEq, HO.lst.injEq, HO.tup.injEq, S_inj, ofS_inj, String.reduceEq, ex_eq, ex_eq', ex_eq0, tLc_eq, tFor_eq, iStr, iRng1, iRng2, iList, iTup, tVar, tC, tOp, tCons, tNil, tCB, tFld, tCallS, tMethW, tMakeS, WE, wKeep, tLits, tLst, tTup, wipe, rI, rI0, rU, rEq, rNe, scII, scSS, scBB, scNN, scNI, scNS, scNB, scIN, scSN, scBN, scIS, scSI, if_tt, if_ff, and_true, true_and, and_assoc, exists_and_left, exists_and_right, exists_const, cxK, decide_true, decide_false, Bool.not_true, Bool.not_false, eq_self_iff_true, Bool.true_eq_false, Bool.false_eq_true, if_true, if_false, reduceCtorEq, S_len, S_one, S_tl, decide_eq_true_eq, tUn, tAndV, tOrV, tNotV, tIf, tAnd, tOr, tNot, tB, tTest, tChain, tCall, tMeth, tMake, sFld, tSeq, tNext, tAsg, gName, tIfS, tRet, tRetN, tDrop, tM0, tM1, tBM, tBM0, rAppend, rPop, tSl, tPart, tNoPart, rIxL, rIxT, rIxS, rSlS, rSlL, rCat, iRng3, tRevL, tDisp, tPairs, tDGet, sDPut, gTup, gCons, gNil, gSub, gAttr, rSetL, tv, upd_same, upd_upd, List.length_cons, List.length_nil, Nat.reduceAdd, Nat.zero_add, lines, fk_History T, lk_History, inj_History, upd_ne n5, hp4]
            have ex : cutV (tvs M.kept ++ [.str (S t)]) (some (0 - (M.m : Int))) none = tvs ((M.kept ++ [t]).drop (M.kept.length + 1 - M.m)) := by
              have e1 : tvs M.kept ++ [.str (S t)] = tvs (M.kept ++ [t]) := (tvs_add _ _).symm
              rw [e1, cutV_neg _ _ (by omega), List.length_map, ← List.map_drop, List.length_append, List.length_singleton, show (((M.kept.length + 1 : Nat) : Int) + (0 - (M.m : Int))).toNat = M.kept.length + 1 - M.m by omega]
            rw [ex, ← ea]
            have s5 := same_new (o := .lst (tvs (addK M.m t M.kept))) h5
            have sAll := s2.trans (s3.trans (s4.trans s5))
            have nas := ne_new (s4 _ _ (s3 _ _ has2)) h5
            have hasE := s5 _ _ (s4 _ _ (s3 _ _ has2))
            have hpE := s5 _ _ hp4
            have nx := ne_il hpE hasE
            refine ⟨q5, rfl, ⟨⟨dx, upd_same⟩, ?_, ?_, nas.symm⟩, .inr (s2.free (s3.free (s4.free h5))), (Fx.of sAll).trans (Fx.upd List.mem_cons_self (nt_ins hpE))⟩
            · rw [upd_ne n5.symm, upd_same]
            · rw [upd_ne nx.symm]
              exact hasE
      · rintro σ' H2 ⟨ak2, rfl, R2, n2, f2⟩
        obtain ⟨⟨dx2, hp2⟩, hak2, has2, nks2⟩ := id R2
        walk_at "rd"
        simp only [List.getElem?_cons_zero, List.getElem?_cons_succ, List.set_cons_zero, List.set_cons_succ, List.cons_append, List.nil_append, List.append_nil, Option.some.injEq, V.int.injEq, V.str.injEq, V.bl.injEq, V.ref.injEq, List.cons.injEq, HO.ins.injEq, HO.lst.injEq, HO.tup.injEq, S_inj, ofS_inj, String.reduceEq, ex_eq, ex_eq', ex_eq0, tLc_eq, tFor_eq, iStr, iRng1, iRng2, iList, iTup, tVar, tC, tOp, tCons, tNil, tCB, tFld, tCallS, tMethW, tMakeS, WE, wKeep, tLits, tLst, tTup, wipe, rI, rI0, rU, rEq, rNe, scII, scSS, scBB, scNN, scNI, scNS, scNB, scIN, scSN, scBN, scIS, scSI, if_tt, if_ff, and_true, true_and, and_assoc, exists_and_left, exists_and_right, exists_const, cxK, decide_true, decide_false, Bool.not_true, Bool.not_false, eq_self_iff_true, Bool.true_eq_false, Bool.false_eq_true, if_true, if_false, reduceCtorEq, S_len, S_one, S_tl, decide_eq_true_eq, tUn, tAndV, tOrV, tNotV, tIf, tAnd, tOr, tNot, tB, tTest, tChain, tCall, tMeth, tMake, sFld, tSeq, tNext, tAsg, gName, tIfS, tRet, tRetN, tDrop, tM0, tM1, tBM, tBM0, rAppend, rPop, tSl, tPart, tNoPart, rIxL, rIxT, rIxS, rSlS, rSlL, rCat, iRng3, tRevL, tDisp, tPairs, tDGet, sDPut, gTup, gCons, gNil, gSub, gAttr, rSetL, tv, upd_same, upd_upd, List.length_cons, List.length_nil, Nat.reduceAdd, Nat.zero_add, lines, fk_History T, lk_History, inj_History, hp2]
        intro q1 h1
        have s3 := same_new (o := .lst [.str ""]) h1
        refine ⟨_, s3 _ _ hak2, sline (by have := addK_len (m := M.m) (t := t) (kept := M.kept); show (tvs (addK M.m t M.kept)).length + 1 ≤ 100000; rw [List.length_map]; omega), fun q2 h2 => ?_⟩
        have s4 := same_new (o := .lst (tvs (addK M.m t M.kept) ++ [.str ""])) h2
        have hp4 := s4 _ _ (s3 _ _ hp2)
        have hak4 := s4 _ _ (s3 _ _ hak2)
        simp only [List.getElem?_cons_zero, List.getElem?_cons_succ, List.set_cons_zero, List.set_cons_succ, List.cons_append, List.nil_append, List.append_nil, Option.some.injEq, V.int.injEq, V.str.injEq, V.bl.injEq, V.ref.injEq, List.cons.injEq, HO.ins.injEq, HO.lst.injEq, HO.tup.injEq, S_inj, ofS_inj, String.reduceEq, ex_eq, ex_eq', ex_eq0, tLc_eq, tFor_eq, iStr, iRng1, iRng2, iList, iTup, tVar, tC, tOp, tCons, tNil, tCB, tFld, tCallS, tMethW, tMakeS, WE, wKeep, tLits, tLst, tTup, wipe, rI, rI0, rU, rEq, rNe, scII, scSS, scBB, scNN, scNI, scNS, scNB, scIN, scSN, scBN, scIS, scSI, if_tt, if_ff, and_true, true_and, and_assoc, exists_and_left, exists_and_right, exists_const, cxK, decide_true, decide_false, Bool.not_true, Bool.not_false, eq_self_iff_true, Bool.true_eq_false, Bool.false_eq_true, if_true, if_false, reduceCtorEq, S_len, S_one, S_tl, decide_eq_true_eq, tUn, tAndV, tOrV, tNotV, tIf, tAnd, tOr, tNot, tB, tTest, tChain, tCall, tMeth, tMake, sFld, tSeq, tNext, tAsg, gName, tIfS, tRet, tRetN, tDrop, tM0, tM1, tBM, tBM0, rAppend, rPop, tSl, tPart, tNoPart, rIxL, rIxT, rIxS, rSlS, rSlL, rCat, iRng3, tRevL, tDisp, tPairs, tDGet, sDPut, gTup, gCons, gNil, gSub, gAttr, rSetL, tv, upd_same, upd_upd, List.length_cons, List.length_nil, Nat.reduceAdd, Nat.zero_add, lines, fk_History T, lk_History, inj_History, hp4]
        have n4 := ne_il hp4 hak4
        refine ⟨_, .inl (sq_of (by rw [upd_ne n4.symm]; exact hak4)), ?_⟩
        have n5 := ne_new (s3 _ _ hak2) h2
        have n6 := ne_new (s3 _ _ hp2) h2
        have f := (f2.trans (Fx.of (s3.trans s4))).trans (Fx.upd (F := [x, ak, as]) (o := .ins (He.ga K "History") dx2 (fs_History (.int M.m) (.ref ak2) (.ref q2) (.int ((tvs (addK M.m t M.kept)).length : Nat)))) List.mem_cons_self (nt_ins hp4))
        refine k ak2 q2 _ (n2.imp id s1.free) (.inr (s1.free (f2.free (s3.free h2)))) ((Fx.of s1).trans f) ⟨⟨dx2, ?_⟩, ?_, ?_, n5⟩
        · rw [upd_same]
          show some (HO.ins _ _ (fs_History _ _ _ (.int ((tvs (addK M.m t M.kept)).length : Nat)))) = _
          rw [List.length_map]
          rfl
        · rw [upd_ne n4.symm]
          exact hak4
        · rw [upd_ne n6.symm, upd_same]
          show _ = some (HO.lst (tvs (addK M.m t M.kept ++ [[]])))
          rw [tvs_add]
          rfl
    · rw [if_neg ok] at k ⊢
      exact k
theorem d_History_all_lines (T : TX K mg) : Mt P w K mg base 1 (He.ga K "History") "all_lines" p_History_all_lines (spHAll K) := by
  refine mt_of (fn_History_all_lines T) (cl_History T) (me_History_all_lines T) sc_History_all_lines bd_History_all_lines (fun vs H Q E h => ?_) (fun cdv A outer s H vs Q E hr h => ?_)
  · obtain ⟨x, ak, as, M, rfl, _⟩ := h
    rfl
  · obtain ⟨x, ak, as, M, rfl, R, k⟩ := h
    obtain ⟨⟨dx, hp⟩, hak, has, nks⟩ := id R
    refine ⟨_, (pss_one (ps_ret (pe_callTy call_list_of (by rfl) (b_list T) (by decide +kernel) (pa_cons (pe_fld (pv 0) rfl) pa_nil)))), ?_⟩
    walk_at "rd"
    simp only [List.getElem?_cons_zero, List.getElem?_cons_succ, List.set_cons_zero, List.set_cons_succ, List.cons_append, List.nil_append, List.append_nil, Option.some.injEq, V.int.injEq, V.str.injEq, V.bl.injEq, V.ref.injEq, List.cons.injEq, HO.ins.injEq, HO.lst.injEq, HO.tup.injEq, S_inj, ofS_inj, String.reduceEq, ex_eq, ex_eq', ex_eq0, tLc_eq, tFor_eq, iStr, iRng1, iRng2, iList, iTup, tVar, tC, tOp, tCons, tNil, tCB, tFld, tCallS, tMethW, tMakeS, WE, wKeep, tLits, tLst, tTup, wipe, rI, rI0, rU, rEq, rNe, scII, scSS, scBB, scNN, scNI, scNS, scNB, scIN, scSN, scBN, scIS, scSI, if_tt, if_ff, and_true, true_and, and_assoc, exists_and_left, exists_and_right, exists_const, cxK, decide_true, decide_false, Bool.not_true, Bool.not_false, eq_self_iff_true, Bool.true_eq_false, Bool.false_eq_true, if_true, if_false, reduceCtorEq, S_len, S_one, S_tl, decide_eq_true_eq, tUn, tAndV, tOrV, tNotV, tIf, tAnd, tOr, tNot, tB, tTest, tChain, tCall, tMeth, tMake, sFld, tSeq, tNext, tAsg, gName, tIfS, tRet, tRetN, tDrop, tM0, tM1, tBM, tBM0, rAppend, rPop, tSl, tPart, tNoPart, rIxL, rIxT, rIxS, rSlS, rSlL, rCat, iRng3, tRevL, tDisp, tPairs, tDGet, sDPut, gTup, gCons, gNil, gSub, gAttr, rSetL, tv, upd_same, upd_upd, List.length_cons, List.length_nil, Nat.reduceAdd, Nat.zero_add, lines, fk_History T, lk_History, inj_History, hp]
    exact ⟨_, .inl (sq_of hak), k⟩
theorem d_History_here (T : TX K mg) : Mt P w K mg base 1 (He.ga K "History") "here" p_History_here (spGet K "History" "spot") := by
  refine mt_of (fn_History_here T) (cl_History T) (me_History_here T) sc_History_here bd_History_here (fun vs H Q E h => ?_) (fun cdv A outer s H vs Q E hr h => ?_)
  · obtain ⟨x, dx, fs, v, rfl, _⟩ := h
    rfl
  · obtain ⟨x, dx, fs, v, rfl, hp, hv, q⟩ := h
    refine ⟨_, (pss_one (ps_ret (pe_fld (pv 0) rfl))), ?_⟩
    walk_at "rd"
    simp only [List.getElem?_cons_zero, List.getElem?_cons_succ, List.set_cons_zero, List.set_cons_succ, List.cons_append, List.nil_append, List.append_nil, Option.some.injEq, V.int.injEq, V.str.injEq, V.bl.injEq, V.ref.injEq, List.cons.injEq, HO.ins.injEq, HO.lst.injEq, HO.tup.injEq, S_inj, ofS_inj, String.reduceEq, ex_eq, ex_eq', ex_eq0, tLc_eq, tFor_eq, iStr, iRng1, iRng2, iList, iTup, tVar, tC, tOp, tCons, tNil, tCB, tFld, tCallS, tMethW, tMakeS, WE, wKeep, tLits, tLst, tTup, wipe, rI, rI0, rU, rEq, rNe, scII, scSS, scBB, scNN, scNI, scNS, scNB, scIN, scSN, scBN, scIS, scSI, if_tt, if_ff, and_true, true_and, and_assoc, exists_and_left, exists_and_right, exists_const, cxK, decide_true, decide_false, Bool.not_true, Bool.not_false, eq_self_iff_true, Bool.true_eq_false, Bool.false_eq_true, if_true, if_false, reduceCtorEq, S_len, S_one, S_tl, decide_eq_true_eq, tUn, tAndV, tOrV, tNotV, tIf, tAnd, tOr, tNot, tB, tTest, tChain, tCall, tMeth, tMake, sFld, tSeq, tNext, tAsg, gName, tIfS, tRet, tRetN, tDrop, tM0, tM1, tBM, tBM0, rAppend, rPop, tSl, tPart, tNoPart, rIxL, rIxT, rIxS, rSlS, rSlL, rCat, iRng3, tRevL, tDisp, tPairs, tDGet, sDPut, gTup, gCons, gNil, gSub, gAttr, rSetL, tv, upd_same, upd_upd, List.length_cons, List.length_nil, Nat.reduceAdd, Nat.zero_add, lines, fk_History T, lk_History, inj_History, hp, hv]
    exact q
theorem d_History_many (T : TX K mg) : Mt P w K mg base 1 (He.ga K "History") "many" p_History_many (spHMany K) := by
  refine mt_of (fn_History_many T) (cl_History T) (me_History_many T) sc_History_many bd_History_many (fun vs H Q E h => ?_) (fun cdv A outer s H vs Q E hr h => ?_)
  · obtain ⟨x, ak, as, M, rfl, _⟩ := h
    rfl
  · obtain ⟨x, ak, as, M, rfl, R, k⟩ := h
    obtain ⟨⟨dx, hp⟩, hak, has, nks⟩ := id R
    refine ⟨_, (pss_one (ps_ret (pe_callB call_len_seq (by rfl) (b_len T) boot_len (pa_cons (pe_fld (pv 0) rfl) pa_nil)))), ?_⟩
    walk_at "rd"
    simp only [List.getElem?_cons_zero, List.getElem?_cons_succ, List.set_cons_zero, List.set_cons_succ, List.cons_append, List.nil_append, List.append_nil, Option.some.injEq, V.int.injEq, V.str.injEq, V.bl.injEq, V.ref.injEq, List.cons.injEq, HO.ins.injEq, HO.lst.injEq, HO.tup.injEq, S_inj, ofS_inj, String.reduceEq, ex_eq, ex_eq', ex_eq0, tLc_eq, tFor_eq, iStr, iRng1, iRng2, iList, iTup, tVar, tC, tOp, tCons, tNil, tCB, tFld, tCallS, tMethW, tMakeS, WE, wKeep, tLits, tLst, tTup, wipe, rI, rI0, rU, rEq, rNe, scII, scSS, scBB, scNN, scNI, scNS, scNB, scIN, scSN, scBN, scIS, scSI, if_tt, if_ff, and_true, true_and, and_assoc, exists_and_left, exists_and_right, exists_const, cxK, decide_true, decide_false, Bool.not_true, Bool.not_false, eq_self_iff_true, Bool.true_eq_false, Bool.false_eq_true, if_true, if_false, reduceCtorEq, S_len, S_one, S_tl, decide_eq_true_eq, tUn, tAndV, tOrV, tNotV, tIf, tAnd, tOr, tNot, tB, tTest, tChain, tCall, tMeth, tMake, sFld, tSeq, tNext, tAsg, gName, tIfS, tRet, tRetN, tDrop, tM0, tM1, tBM, tBM0, rAppend, rPop, tSl, tPart, tNoPart, rIxL, rIxT, rIxS, rSlS, rSlL, rCat, iRng3, tRevL, tDisp, tPairs, tDGet, sDPut, gTup, gCons, gNil, gSub, gAttr, rSetL, tv, upd_same, upd_upd, List.length_cons, List.length_nil, Nat.reduceAdd, Nat.zero_add, lines, fk_History T, lk_History, inj_History, hp]
    refine ⟨_, .inl (sq_of hak), ?_⟩
    rw [List.length_map]
    exact k
theorem d_History_keep (T : TX K mg) : Mt P w K mg base 1 (He.ga K "History") "keep" p_History_keep (spHKeep K) := by
  refine mt_of (fn_History_keep T) (cl_History T) (me_History_keep T) sc_History_keep bd_History_keep (fun vs H Q E h => ?_) (fun cdv A outer s H vs Q E hr h => ?_)
  · obtain ⟨x, ak, as, M, t, rfl, _⟩ := h
    rfl
  · obtain ⟨x, ak, as, M, t, rfl, R, hs, k⟩ := h
    obtain ⟨⟨dx, hp⟩, hak, has, nks⟩ := id R
    refine ⟨_, (pss_one (ps_asg (pv 1) (pg_sub (pe_fld (pv 0) rfl) (pe_fld (pv 0) rfl) set_list))), ?_⟩
    walk_at "rd"
    simp only [List.getElem?_cons_zero, List.getElem?_cons_succ, List.set_cons_zero, List.set_cons_succ, List.cons_append, List.nil_append, List.append_nil, Option.some.injEq, V.int.injEq, V.str.injEq, V.bl.injEq, V.ref.injEq, List.cons.injEq, HO.ins.injEq, HO.lst.injEq, HO.tup.injEq, S_inj, ofS_inj, String.reduceEq, ex_eq, ex_eq', ex_eq0, tLc_eq, tFor_eq, iStr, iRng1, iRng2, iList, iTup, tVar, tC, tOp, tCons, tNil, tCB, tFld, tCallS, tMethW, tMakeS, WE, wKeep, tLits, tLst, tTup, wipe, rI, rI0, rU, rEq, rNe, scII, scSS, scBB, scNN, scNI, scNS, scNB, scIN, scSN, scBN, scIS, scSI, if_tt, if_ff, and_true, true_and, and_assoc, exists_and_left, exists_and_right, exists_const, cxK, decide_true, decide_false, Bool.not_true, Bool.not_false, eq_self_iff_true, Bool.true_eq_false, Bool.false_eq_true, if_true, if_false, reduceCtorEq, S_len, S_one, S_tl, decide_eq_true_eq, tUn, tAndV, tOrV, tNotV, tIf, tAnd, tOr, tNot, tB, tTest, tChain, tCall, tMeth, tMake, sFld, tSeq, tNext, tAsg, gName, tIfS, tRet, tRetN, tDrop, tM0, tM1, tBM, tBM0, rAppend, rPop, tSl, tPart, tNoPart, rIxL, rIxT, rIxS, rSlS, rSlL, rCat, iRng3, tRevL, tDisp, tPairs, tDGet, sDPut, gTup, gCons, gNil, gSub, gAttr, rSetL, tv, upd_same, upd_upd, List.length_cons, List.length_nil, Nat.reduceAdd, Nat.zero_add, lines, fk_History T, lk_History, inj_History, hp]
    refine ⟨_, has, M.spot, ?_, ?_⟩
    · unfold ixN
      rw [List.length_map, if_pos (by omega), if_pos (by omega), Int.toNat_natCast]
    · have e : (tvs M.shown).set M.spot (.str (S t)) = tvs (M.shown.set M.spot t) := (List.map_set).symm
      rw [e]
      refine k ak as _ (.inl rfl) (.inl rfl) (Fx.upd (by simp) (nt_lst has)) ⟨⟨dx, by rw [upd_ne (ne_il hp has)]; exact hp⟩, ?_, upd_same, nks⟩
      rw [upd_ne nks]
      exact hak
theorem d_History_go (T : TX K mg) : Mt P w K mg base 1 (He.ga K "History") "go" p_History_go (spHGo K) := by
  refine mt_of (fn_History_go T) (cl_History T) (me_History_go T) sc_History_go bd_History_go (fun vs H Q E h => ?_) (fun cdv A outer s H vs Q E hr h => ?_)
  · obtain ⟨x, ak, as, M, i, rfl, _⟩ := h
    rfl
  · obtain ⟨x, ak, as, M, i, rfl, R, k⟩ := h
    obtain ⟨⟨dx, hp⟩, hak, has, nks⟩ := id R
    refine ⟨_, (pss_cons (ps_if (pt_not (pt_chain op_le op_lt pe_int (pv 1) (pe_callB call_len_seq (by rfl) (b_len T) boot_len (pa_cons (pe_fld (pv 0) rfl) pa_nil)))) (pss_one (ps_raise rfl (takes_of rfl rfl rfl rfl) (pmk_own PySem.F.excBase_ValueError (xc_BadPlace T).1 (g_BadPlace T) (xc_BadPlace T).2.1 (raises_own (xc_BadPlace T).2.2.1 (xc_BadPlace T).2.2.2) rfl))) pss_nil) (pss_cons (ps_fld (pv 0) (pv 1) rfl) (pss_one (ps_ret (pe_ix ix_list (pe_fld (pv 0) rfl) (pv 1) (fun _ _ => rfl)))))), ?_⟩
    walk_at "rd"
    simp only [List.getElem?_cons_zero, List.getElem?_cons_succ, List.set_cons_zero, List.set_cons_succ, List.cons_append, List.nil_append, List.append_nil, Option.some.injEq, V.int.injEq, V.str.injEq, V.bl.injEq, V.ref.injEq, List.cons.injEq, HO.ins.injEq, HO.lst.injEq, HO.tup.injEq, S_inj, ofS_inj, String.reduceEq, ex_eq, ex_eq', ex_eq0, tLc_eq, tFor_eq, iStr, iRng1, iRng2, iList, iTup, tVar, tC, tOp, tCons, tNil, tCB, tFld, tCallS, tMethW, tMakeS, WE, wKeep, tLits, tLst, tTup, wipe, rI, rI0, rU, rEq, rNe, scII, scSS, scBB, scNN, scNI, scNS, scNB, scIN, scSN, scBN, scIS, scSI, if_tt, if_ff, and_true, true_and, and_assoc, exists_and_left, exists_and_right, exists_const, cxK, decide_true, decide_false, Bool.not_true, Bool.not_false, eq_self_iff_true, Bool.true_eq_false, Bool.false_eq_true, if_true, if_false, reduceCtorEq, S_len, S_one, S_tl, decide_eq_true_eq, tUn, tAndV, tOrV, tNotV, tIf, tAnd, tOr, tNot, tB, tTest, tChain, tCall, tMeth, tMake, sFld, tSeq, tNext, tAsg, gName, tIfS, tRet, tRetN, tDrop, tM0, tM1, tBM, tBM0, rAppend, rPop, tSl, tPart, tNoPart, rIxL, rIxT, rIxS, rSlS, rSlL, rCat, iRng3, tRevL, tDisp, tPairs, tDGet, sDPut, gTup, gCons, gNil, gSub, gAttr, rSetL, tv, upd_same, upd_upd, List.length_cons, List.length_nil, Nat.reduceAdd, Nat.zero_add, lines, fk_History T, lk_History, inj_History, hp]
    by_cases h0 : 0 ≤ i
    · rw [if_pos h0]
      refine ⟨_, .inl (sq_of has), ?_⟩
      rw [List.length_map]
      by_cases h1 : i < M.shown.length
      · rw [if_pos ⟨h0, h1⟩] at k
        rw [if_neg (by rw [decide_eq_true h1]; decide)]
        have n1 := ne_il hp has
        have n2 := ne_il hp hak
        refine ⟨_, sq_of (by rw [upd_ne n1.symm]; exact has), tv (M.shown.getD i.toNat []), ?_, ?_⟩
        · rw [atI_in h0 (by rw [List.length_map]; exact h1), List.getElem?_map, List.getD_eq_getElem?_getD, List.getElem?_eq_getElem (by omega)]
          rfl
        · refine k ak as _ (.inl rfl) (.inl rfl) (Fx.upd (by simp) (nt_ins hp)) ⟨⟨dx, ?_⟩, by rw [upd_ne n2.symm]; exact hak, by rw [upd_ne n1.symm]; exact has, nks⟩
          rw [upd_same]
          show _ = some (HO.ins _ _ (fs_History _ _ _ (.int ((i.toNat : Nat) : Int))))
          rw [Int.toNat_of_nonneg h0]
          rfl
      · rw [if_neg fun h => h1 h.2] at k
        rw [if_pos (by rw [decide_eq_false h1]; rfl)]
        exact k H (Same.refl H)
    · rw [if_neg fun h => h0 h.1] at k
      rw [if_neg h0]
      exact k H (Same.refl H)
theorem d_History_find (T : TX K mg) : Mt P w K mg base 1 (He.ga K "History") "find" p_History_find (spHFind K) := by
  refine mt_of (fn_History_find T) (cl_History T) (me_History_find T) sc_History_find bd_History_find (fun vs H Q E h => ?_) (fun cdv A outer s H vs Q E hr h => ?_)
  · obtain ⟨x, ak, as, M, part, i, rfl, _⟩ := h
    rfl
  · obtain ⟨x, ak, as, M, part, i, rfl, R, hk, i0, i1, k⟩ := h
    obtain ⟨⟨dx, hp⟩, hak, has, nks⟩ := id R
    refine ⟨_, (Evl.pss_cut (ps_for (passes_of rfl) rfl (pi_range3 rfl (b_range T) (pa_cons (pe_callB (call_min2 rfl) (by rfl) (b_min T) (by decide +kernel) (pa_cons (pv 2) (pa_cons (pe_op op_sub (pe_callB call_len_seq (by rfl) (b_len T) boot_len (pa_cons (pe_fld (pv 0) rfl) pa_nil)) pe_int) pa_nil))) (pa_cons (pe_un un_neg pe_int) (pa_cons (pe_un un_neg pe_int) pa_nil)))) (pg_name (i := 3) sc_History_find.nd rfl (Or.inl rfl)) (pss_one (ps_if (pt_cmpR op_in_str (pv 1) (pe_ix ix_list (pe_fld (pv 0) rfl) (pv 3) (fun _ _ => rfl)) (by rfl)) (pss_one (ps_ret (pv 3))) pss_nil))) (pss_one (ps_ret pe_non))), ?_⟩
    walk_at "rd"
    refine ⟨fun σ' H' => σ'.length = 4 ∧ H' = H ∧ findK part M.kept (min (i + 1).toNat M.kept.length) = none, ?_, ?_⟩
    · walk_at "rd"
      simp only [List.getElem?_cons_zero, List.getElem?_cons_succ, List.set_cons_zero, List.set_cons_succ, List.cons_append, List.nil_append, List.append_nil, Option.some.injEq, V.int.injEq, V.str.injEq, V.bl.injEq, V.ref.injEq, List.cons.injEq, HO.ins.injEq, HO.lst.injEq, HO.tup.injEq, S_inj, ofS_inj, String.reduceEq, ex_eq, ex_eq', ex_eq0, tLc_eq, tFor_eq, iStr, iRng1, iRng2, iList, iTup, tVar, tC, tOp, tCons, tNil, tCB, tFld, tCallS, tMethW, tMakeS, WE, wKeep, tLits, tLst, tTup, wipe, rI, rI0, rU, rEq, rNe, scII, scSS, scBB, scNN, scNI, scNS, scNB, scIN, scSN, scBN, scIS, scSI, if_tt, if_ff, and_true, true_and, and_assoc, exists_and_left, exists_and_right, exists_const, cxK, decide_true, decide_false, Bool.not_true, Bool.not_false, eq_self_iff_true, Bool.true_eq_false, Bool.false_eq_true, if_true, if_false, reduceCtorEq, S_len, S_one, S_tl, decide_eq_true_eq, tUn, tAndV, tOrV, tNotV, tIf, tAnd, tOr, tNot, tB, tTest, tChain, tCall, tMeth, tMake, sFld, tSeq, tNext, tAsg, gName, tIfS, tRet, tRetN, tDrop, tM0, tM1, tBM, tBM0, rAppend, rPop, tSl, tPart, tNoPart, rIxL, rIxT, rIxS, rSlS, rSlL, rCat, iRng3, tRevL, tDisp, tPairs, tDGet, sDPut, gTup, gCons, gNil, gSub, gAttr, rSetL, tv, upd_same, upd_upd, List.length_cons, List.length_nil, Nat.reduceAdd, Nat.zero_add, lines, fk_History T, lk_History, inj_History, hp]
      refine ⟨_, .inl (sq_of hak), ?_⟩
      rw [List.length_map]
      obtain ⟨tp, etp⟩ : ∃ tp : Int, (if (M.kept.length : Int) - 1 < i then (M.kept.length : Int) - 1 else i) = tp := ⟨_, rfl⟩
      obtain ⟨N, hN⟩ : ∃ N : Nat, min (i + 1).toNat M.kept.length = N := ⟨_, rfl⟩
      have eN : (tp - -1).toNat = N := by
        rw [← etp, ← hN]
        split <;> omega
      have tb : -100000 ≤ tp ∧ tp ≤ 100000 := by
        rw [← etp]
        split <;> omega
      rw [etp, hN]
      rw [hN] at k
      refine ⟨N, by rw [← eN]; exact RgC.neg (by omega) (by omega) (by omega) (by omega), ?_⟩
      refine forb_rngC (fun j σ' H' => ∃ v3, σ' = [some (.ref x), some (tv part), some (.int i), v3] ∧ H' = H ∧ findK part M.kept N = findK part M.kept (N - j)) ⟨_, rfl, rfl, rfl⟩ ?_ ?_
      · rintro j σ' H' hj ⟨v3, rfl, rfl, e⟩
        walk_at "rd"
        simp only [List.getElem?_cons_zero, List.getElem?_cons_succ, List.set_cons_zero, List.set_cons_succ, List.cons_append, List.nil_append, List.append_nil, Option.some.injEq, V.int.injEq, V.str.injEq, V.bl.injEq, V.ref.injEq, List.cons.injEq, HO.ins.injEq, HO.lst.injEq, HO.tup.injEq, S_inj, ofS_inj, String.reduceEq, ex_eq, ex_eq', ex_eq0, tLc_eq, tFor_eq, iStr, iRng1, iRng2, iList, iTup, tVar, tC, tOp, tCons, tNil, tCB, tFld, tCallS, tMethW, tMakeS, WE, wKeep, tLits, tLst, tTup, wipe, rI, rI0, rU, rEq, rNe, scII, scSS, scBB, scNN, scNI, scNS, scNB, scIN, scSN, scBN, scIS, scSI, if_tt, if_ff, and_true, true_and, and_assoc, exists_and_left, exists_and_right, exists_const, cxK, decide_true, decide_false, Bool.not_true, Bool.not_false, eq_self_iff_true, Bool.true_eq_false, Bool.false_eq_true, if_true, if_false, reduceCtorEq, S_len, S_one, S_tl, decide_eq_true_eq, tUn, tAndV, tOrV, tNotV, tIf, tAnd, tOr, tNot, tB, tTest, tChain, tCall, tMeth, tMake, sFld, tSeq, tNext, tAsg, gName, tIfS, tRet, tRetN, tDrop, tM0, tM1, tBM, tBM0, rAppend, rPop, tSl, tPart, tNoPart, rIxL, rIxT, rIxS, rSlS, rSlL, rCat, iRng3, tRevL, tDisp, tPairs, tDGet, sDPut, gTup, gCons, gNil, gSub, gAttr, rSetL, tv, upd_same, upd_upd, List.length_cons, List.length_nil, Nat.reduceAdd, Nat.zero_add, lines, fk_History T, lk_History, inj_History, hp]
        have ek : tp + (j : Int) * -1 = ((N - j - 1 : Nat) : Int) := by omega
        rw [ek]
        have lk : N - j - 1 < M.kept.length := by omega
        refine ⟨_, sq_of hak, tv (M.kept.getD (N - j - 1) []), ?_, _, rfl, ?_⟩
        · rw [atI_in (by omega) (by rw [List.length_map]; omega), Int.toNat_natCast, List.getElem?_map, List.getD_eq_getElem?_getD, List.getElem?_eq_getElem lk]
          rfl
        · have ef : findK part M.kept (N - j) = if hasT part (M.kept.getD (N - j - 1) []) = true then some (N - j - 1) else findK part M.kept (N - j - 1) := by
            rw [show N - j = (N - j - 1) + 1 by omega]
            rfl
          show if hasT part (M.kept.getD (N - j - 1) []) = true then _ else _
          by_cases hb : hasT part (M.kept.getD (N - j - 1) []) = true
          · rw [if_pos hb] at ef ⊢
            rw [e, ef] at k
            exact k
          · rw [if_neg hb] at ef ⊢
            rw [e, ef]
            rfl
      · rintro σ' H' ⟨v3, rfl, rfl, e⟩
        refine ⟨rfl, rfl, ?_⟩
        rw [e, Nat.sub_self]
        rfl
    · rintro σ' H' ⟨_, rfl, e⟩
      walk_at "rd"
      rw [e] at k
      exact k
end
end LH
/-! ## L30: the law of histories -/
namespace LH
open PySem PySem.Spec PyProof.Rows L2
def spTold (K : PySem.W.Frag) : Sp := fun vs H Q _ => ∃ (x : Addr) (word : Str) (one other : V), vs = [.ref x, .str word, one, other] ∧
  ((word = ("new" : Str) ∧ ∃ n : Int, one = .int n ∧ ¬ (1 ≤ n ∧ n ≤ 200) ∧ ∀ v H', Same H H' → IsRef H' "size" v → Q v H') ∨
   ∃ (ak as : Addr) (M : Hs), HistAt K H x ak as M ∧ M.kept.length ≤ 1000 ∧ 1 ≤ M.m ∧ AscL M.kept ∧
    ((word = ("add" : Str) ∧ ∃ t : List Nat, one = tv t ∧ t.length ≤ 1000 ∧ ((okText t = true ∧ HistTo K H x ak as (M.add t) (Q .non)) ∨ (okText t = false ∧ ∀ v H', Same H H' → IsRef H' "text" v → Q v H'))) ∨
     (word = ("go" : Str) ∧ ∃ i : Int, one = .int i ∧ (((0 ≤ i ∧ i < M.shown.length) ∧ HistTo K H x ak as (M.go i.toNat) (Q (tv (M.shown.getD i.toNat [])))) ∨ (¬ (0 ≤ i ∧ i < M.shown.length) ∧ ∀ v H', Same H H' → IsRef H' "place" v → Q v H'))) ∨
     (word = ("find" : Str) ∧ ∃ (part : List Nat) (i : Int), one = tv part ∧ other = .int i ∧ -1000 ≤ i ∧ i ≤ 1000 ∧ Q (optV (findK part M.kept (min (i + 1).toNat M.kept.length))) H)))
def spBad (K : PySem.W.Frag) : Sp := fun vs H Q _ => ∃ (x ak as : Addr) (M : Hs), vs = [.ref x] ∧ HistAt K H x ak as M ∧ M.kept.length ≤ 1000 ∧ 1 ≤ M.m ∧ AscL M.kept ∧ ∀ H', Q (.bl true) H'
def spLaw (K : PySem.W.Frag) : Sp := fun vs H Q _ => ∃ (a : Addr) (ns : List Int), vs = [.ref a] ∧ SqL K H a (ns.map V.int) ∧ ns.length ≤ 63 ∧ ∀ H', Q (.bl true) H'
section
variable {P : Program} {w : World} {K : PySem.W.Frag} {mg : Str → Option Value} {base : Heap}
theorem d_l_told (T : TX K mg) : Dn P w K mg base 4 "_law_told" p_l_told (spTold K) := by
  refine dn_of (fn_l_told T) (g__law_told T) sc_l_told bd_l_told (fun vs H Q E h => ?_) (fun cdv A outer s H vs Q E hr h => ?_)
  · obtain ⟨x, word, one, other, rfl, _⟩ := h
    rfl
  · obtain ⟨x, word, one, other, rfl, h⟩ := h
    refine ⟨_, (pss_cons (ps_set (i := 4) sc_l_told.nd rfl (Or.inl rfl) pe_non) (pss_cons (ps_set (i := 5) sc_l_told.nd rfl (Or.inl rfl) pe_non) (pss_cons (ps_try_keep (i := 6) rfl rfl rfl sc_l_told.nd rfl rfl ⟨rfl, by decide, .inl (g_HandError T)⟩ (fun W pn xe tk _ => (pss_one (ps_if (pt_cmpR op_eq (pv 1) pe_str (nomark _)) (pss_one (ps_set (i := 5) sc_l_told.nd rfl (Or.inl rfl) (pmS (d_History_add T) (hr.mono (by decide)) (fun σ => passAt tk σ) (pv 0) (pa_cons (pv 2) pa_nil)))) (pss_one (ps_if (pt_cmpR op_eq (pv 1) pe_str (nomark _)) (pss_one (ps_set (i := 5) sc_l_told.nd rfl (Or.inl rfl) (pe_cmpR op_isN (pnS (d_History_init T) (hr.mono (by decide)) (fun σ => passAt tk σ) (pa_cons (pv 2) pa_nil)) pe_non (nomark _)))) (pss_one (ps_set (i := 5) sc_l_told.nd rfl (Or.inl rfl) (pe_ifExp (pt_cmpR op_eq (pv 1) pe_str (nomark _)) (pmS (d_History_go T) (hr.mono (by decide)) (fun σ => passAt tk σ) (pv 0) (pa_cons (pv 2) pa_nil)) (pmS (d_History_find T) (hr.mono (by decide)) (fun σ => passAt tk σ) (pv 0) (pa_cons (pv 2) (pa_cons (pv 3) pa_nil))))))))))) (fun a oe cls d pn hz hf => (pss_one (ps_set (i := 4) sc_l_told.nd rfl (Or.inl rfl) (pv 6))))) (pss_one (ps_ret (pe_ifExp (pt_cmpR op_isN (pv 4) pe_non (nomark _)) (pv 5) (pc (d_l_refusal T) (hr.mono (by decide)) px (pa_cons (pv 4) pa_nil)))))))), ?_⟩
    walk_at "rd"
    have lt : 6 < 7 := by decide
    rcases h with ⟨rfl, n, rfl, hn, q⟩ | ⟨ak, as, M, R, hk, m1, asc, h⟩
    · walk_at "rd"
      intro y dy hy hdy nyd
      refine ⟨y, dy, n, rfl, upd_same, ?_⟩
      rw [if_neg hn]
      refine rf_keep (xm_BadSize T) lt fun a H' s na => ?_
      walk_at "rd"
      refine ref_end k_size ((same_new hdy).trans ((same_upd (Same.refl _) ?_).trans s)) na q
      rw [upd_ne (Ne.symm nyd)]
      exact hy
    · obtain ⟨⟨dx, hp⟩, _⟩ := id R
      simp only [List.getElem?_cons_zero, List.getElem?_cons_succ, List.set_cons_zero, List.set_cons_succ, List.cons_append, List.nil_append, List.append_nil, Option.some.injEq, V.int.injEq, V.str.injEq, V.bl.injEq, V.ref.injEq, List.cons.injEq, HO.ins.injEq, HO.lst.injEq, HO.tup.injEq, S_inj, ofS_inj, String.reduceEq, ex_eq, ex_eq', ex_eq0, tLc_eq, tFor_eq, iStr, iRng1, iRng2, iList, iTup, tVar, tC, tOp, tCons, tNil, tCB, tFld, tCallS, tMethW, tMakeS, WE, wKeep, tLits, tLst, tTup, wipe, rI, rI0, rU, rEq, rNe, scII, scSS, scBB, scNN, scNI, scNS, scNB, scIN, scSN, scBN, scIS, scSI, if_tt, if_ff, and_true, true_and, and_assoc, exists_and_left, exists_and_right, exists_const, cxK, decide_true, decide_false, Bool.not_true, Bool.not_false, eq_self_iff_true, Bool.true_eq_false, Bool.false_eq_true, if_true, if_false, reduceCtorEq, S_len, S_one, S_tl, decide_eq_true_eq, tUn, tAndV, tOrV, tNotV, tIf, tAnd, tOr, tNot, tB, tTest, tChain, tCall, tMeth, tMake, sFld, tSeq, tNext, tAsg, gName, tIfS, tRet, tRetN, tDrop, tM0, tM1, tBM, tBM0, rAppend, rPop, tSl, tPart, tNoPart, rIxL, rIxT, rIxS, rSlS, rSlL, rCat, iRng3, tRevL, tDisp, tPairs, tDGet, sDPut, gTup, gCons, gNil, gSub, gAttr, rSetL, tv, upd_same, upd_upd, List.length_cons, List.length_nil, Nat.reduceAdd, Nat.zero_add, lines, fk_History T, lk_History, inj_History, hp]
      rcases h with ⟨rfl, t, rfl, ht, h⟩ | ⟨rfl, i, rfl, h⟩ | ⟨rfl, part, i, rfl, rfl, i0, i1, q⟩
      · walk_at "rd"
        refine ⟨x, ak, as, M, t, rfl, R, by omega, hk, m1, asc, ?_⟩
        rcases h with ⟨ok, q⟩ | ⟨bad, q⟩
        · rw [if_pos ok]
          exact q
        · rw [if_neg (by rw [bad]; decide)]
          refine rf_keep (xm_BadText T) lt fun a H' s na => ?_
          walk_at "rd"
          exact ref_end k_text s na q
      · walk_at "rd"
        refine ⟨x, ak, as, M, i, rfl, R, ?_⟩
        rcases h with ⟨ok, q⟩ | ⟨bad, q⟩
        · rw [if_pos ok]
          exact q
        · rw [if_neg bad]
          refine rf_keep (xm_BadPlace T) lt fun a H' s na => ?_
          walk_at "rd"
          exact ref_end k_place s na q
      · walk_at "rd"
        exact ⟨x, ak, as, M, part, i, rfl, R, hk, by omega, by omega, q⟩
theorem d_l_bad (T : TX K mg) : Dn P w K mg base 5 "_law_bad" p_l_bad (spBad K) := by
  refine dn_of (fn_l_bad T) (g__law_bad T) sc_l_bad bd_l_bad (fun vs H Q E h => ?_) (fun cdv A outer s H vs Q E hr h => ?_)
  · obtain ⟨x, ak, as, M, rfl, _⟩ := h
    rfl
  · obtain ⟨x, ak, as, M, rfl, R, hk, m1, asc, K0⟩ := h
    refine ⟨_, (pss_cons (ps_set (i := 1) sc_l_bad.nd rfl (Or.inl rfl) (pe_lst (pa_cons (pc (d_l_told T) (hr.mono (by decide)) px (pa_cons (pv 0) (pa_cons pe_str (pa_cons pe_int (pa_cons pe_int pa_nil))))) (pa_cons (pc (d_l_told T) (hr.mono (by decide)) px (pa_cons (pv 0) (pa_cons pe_str (pa_cons pe_int (pa_cons pe_int pa_nil))))) pa_nil)))) (pss_cons (ps_set (i := 1) sc_l_bad.nd rfl (Or.inl rfl) (pe_op op_cat (pv 1) (pe_lst (pa_cons (pc (d_l_told T) (hr.mono (by decide)) px (pa_cons (pv 0) (pa_cons pe_str (pa_cons pe_str (pa_cons pe_int pa_nil))))) (pa_cons (pc (d_l_told T) (hr.mono (by decide)) px (pa_cons (pv 0) (pa_cons pe_str (pa_cons (pe_un un_neg pe_int) (pa_cons pe_int pa_nil))))) pa_nil))))) (pss_one (ps_ret (pe_cmpR (op_eqD hr.units) (pv 1) (pe_lst (pa_cons (pe_tup (pa_cons pe_str (pa_cons pe_str pa_nil))) (pa_cons (pe_tup (pa_cons pe_str (pa_cons pe_str pa_nil))) (pa_cons (pe_tup (pa_cons pe_str (pa_cons pe_str pa_nil))) (pa_cons (pe_tup (pa_cons pe_str (pa_cons pe_str pa_nil))) pa_nil))))) (nomark _)))))), ?_⟩
    walk_at "rd"
    refine ⟨x, "new", .int 0, .int 0, rfl, .inl ⟨rfl, 0, rfl, by omega, fun v1 H1 s1 r1 => ?_⟩⟩
    refine ⟨x, "new", .int 201, .int 0, rfl, .inl ⟨rfl, 201, rfl, by omega, fun v2 H2 s2 r2 => ?_⟩⟩
    refine ⟨by show 2 ≤ sizeLine; decide, fun q1 h1 => ?_⟩
    have s3 := same_new (o := .lst [v1, v2]) h1
    have R3 := R.same (s1.trans (s2.trans s3))
    have nl : okText ("\n" : Str).cps.toList = false := by decide +kernel
    refine ⟨x, "add", tv ("\n" : Str).cps.toList, .int 0, rfl, .inr ⟨ak, as, M, R3, hk, m1, asc, .inl ⟨rfl, ("\n" : Str).cps.toList, rfl, by decide +kernel, .inr ⟨nl, fun v3 H4 s4 r3 => ?_⟩⟩⟩⟩
    refine ⟨x, "go", .int (-1), .int 0, rfl, .inr ⟨ak, as, M, R3.same s4, hk, m1, asc, .inr (.inl ⟨rfl, -1, rfl, .inr ⟨by omega, fun v4 H5 s5 r4 => ?_⟩⟩)⟩⟩
    refine ⟨by show 2 ≤ sizeLine; decide, fun q2 h2 => ?_⟩
    have s6 := same_new (o := .lst [v3, v4]) h2
    refine ⟨_, s6 _ _ (s5 _ _ (s4 _ _ upd_same)), _, upd_same, by show 4 ≤ sizeLine; decide, fun q3 h3 => ?_⟩
    have s7 := same_new (o := .lst ([v1, v2] ++ [v3, v4])) h3
    refine ⟨by show 2 ≤ sizeLine; decide, fun p1 k1 => ⟨by show 2 ≤ sizeLine; decide, fun p2 k2 => ⟨by show 2 ≤ sizeLine; decide, fun p3 k3 => ⟨by show 2 ≤ sizeLine; decide, fun p4 k4 => ⟨by show 4 ≤ sizeLine; decide, fun q4 h4 => ?_⟩⟩⟩⟩⟩
    have t1 := same_new (o := .tup [.str "refused", .str "size"]) k1
    have t2 := same_new (o := .tup [.str "refused", .str "size"]) k2
    have t3 := same_new (o := .tup [.str "refused", .str "text"]) k3
    have t4 := same_new (o := .tup [.str "refused", .str "place"]) k4
    have t5 := same_new (o := .lst [.ref p1, .ref p2, .ref p3, .ref p4]) h4
    have tA := t1.trans (t2.trans (t3.trans (t4.trans t5)))
    refine eq_same (d := .list [refD "size", refD "size", refD "text", refD "place"]) ?_ ?_ (by decide +kernel) (K0 _)
    · refine .lst (sq_of (tA _ _ upd_same)) ?_
      have f1 := r1.same (s2.trans (s3.trans (s4.trans (s5.trans (s6.trans (s7.trans tA))))))
      have f2 := r2.same (s3.trans (s4.trans (s5.trans (s6.trans (s7.trans tA)))))
      have f3 := r3.same (s5.trans (s6.trans (s7.trans tA)))
      have f4 := r4.same (s6.trans (s7.trans tA))
      exact .cons f1.dp (.cons f2.dp (.cons f3.dp (.cons f4.dp .nil)))
    · refine .lst (sq_of upd_same) ?_
      have g1 : IsRef _ "size" (.ref p1) := ⟨p1, rfl, t5 _ _ (t4 _ _ (t3 _ _ (t2 _ _ upd_same)))⟩
      have g2 : IsRef _ "size" (.ref p2) := ⟨p2, rfl, t5 _ _ (t4 _ _ (t3 _ _ upd_same))⟩
      have g3 : IsRef _ "text" (.ref p3) := ⟨p3, rfl, t5 _ _ (t4 _ _ upd_same)⟩
      have g4 : IsRef _ "place" (.ref p4) := ⟨p4, rfl, t5 _ _ upd_same⟩
      exact .cons g1.dp (.cons g2.dp (.cons g3.dp (.cons g4.dp .nil)))
/-- the law's own history beside the history -/
structure J30 (K : PySem.W.Frag) (H : Hp) (a p x ak as tk ts : Addr) (ns : List Int) (z : Nat) (M L : Hs) : Prop where
  S : Sep K H a p ns z [x, ak, as] [tk, ts]
  R : HistAt K H x ak as M
  ek : H tk = some (.lst (tvs L.kept))
  es : H ts = some (.lst (tvs L.shown))
  n : tk ≠ ts
theorem J30.draw {H H' : Hp} {a p x ak as tk ts : Addr} {ns : List Int} {z z' : Nat} {M L : Hs} (J : J30 K H a p x ak as tk ts ns z M L) (f : Fx [p] H H') (D : Dr K H' a p ns z') : J30 K H' a p x ak as tk ts ns z' M L :=
  ⟨J.S.draw f D, J.R.fx f fun c h => J.S.npF h, f.at J.ek (J.S.npG (by simp)), f.at J.es (J.S.npG (by simp)), J.n⟩
theorem J30.same {H H' : Hp} {a p x ak as tk ts : Addr} {ns : List Int} {z : Nat} {M L : Hs} (J : J30 K H a p x ak as tk ts ns z M L) (s : Same H H') : J30 K H' a p x ak as tk ts ns z M L := J.draw (Fx.of s) (J.S.D.same s)
theorem J30.mono {H : Hp} {a p x ak as tk ts : Addr} {ns : List Int} {z z' : Nat} {M L : Hs} (J : J30 K H a p x ak as tk ts ns z M L) (h : z ≤ z') : J30 K H a p x ak as tk ts ns z' M L := ⟨J.S.mono h, J.R, J.ek, J.es, J.n⟩
/-- behind a method of the history -/
theorem J30.hist {H H' : Hp} {a p x ak as ak' as' tk ts : Addr} {ns : List Int} {z : Nat} {M M' L : Hs} (J : J30 K H a p x ak as tk ts ns z M L) (n1 : New H ak ak') (n2 : New H as as') (f : Fx [x, ak, as] H H') (R : HistAt K H' x ak' as' M') : J30 K H' a p x ak' as' tk ts ns z M' L := by
  refine ⟨J.S.left f (fun c hc => ?_) R.old, R, f.at J.ek (J.S.nG (by simp)), f.at J.es (J.S.nG (by simp)), J.n⟩
  simp only [List.mem_cons, List.not_mem_nil, or_false] at hc ⊢
  rcases hc with q | q | q
  · exact .inl (.inl q)
  · rcases n1 with n | n
    · exact .inl (.inr (.inl (by rw [q, n])))
    · exact .inr (by rw [q]; exact n)
  · rcases n2 with n | n
    · exact .inl (.inr (.inr (by rw [q, n])))
    · exact .inr (by rw [q]; exact n)
/-- the law's lists are others -/
theorem J30.lists {H H' : Hp} {a p x ak as tk ts tk' ts' : Addr} {ns : List Int} {z : Nat} {M L L' : Hs} (J : J30 K H a p x ak as tk ts ns z M L) (n1 : New H tk tk') (n2 : New H ts ts') (f : Fx [tk, ts] H H') (e1 : H' tk' = some (.lst (tvs L'.kept))) (e2 : H' ts' = some (.lst (tvs L'.shown))) (n : tk' ≠ ts') :
    J30 K H' a p x ak as tk' ts' ns z M L' := by
  refine ⟨J.S.right f (fun c hc => ?_) (fun c hc e => ?_), J.R.fx f fun c h => J.S.nF h, e1, e2, n⟩
  · simp only [List.mem_cons, List.not_mem_nil, or_false] at hc ⊢
    rcases hc with q | q
    · rcases n1 with n | n
      · exact .inl (.inl (by rw [q, n]))
      · exact .inr (by rw [q]; exact n)
    · rcases n2 with n | n
      · exact .inl (.inr (by rw [q, n]))
      · exact .inr (by rw [q]; exact n)
  · simp only [List.mem_cons, List.not_mem_nil, or_false] at hc
    rcases hc with rfl | rfl
    · rw [e1] at e
      cases e
    · rw [e2] at e
      cases e
/-- a history in order -/
structure HsOk (m : Nat) (M : Hs) : Prop where
  e : M.m = m
  k : M.kept.length ≤ m
  s : M.shown.length = M.kept.length + 1
  p : M.spot ≤ M.kept.length
  a : AscL M.kept
  b : AscL M.shown
theorem filter_upto (P : Nat → Bool) (g : Nat) : ∀ n, (List.range n).filter (fun j => decide (j < g) && P j) = (List.range (min g n)).filter P
  | 0 => by simp
  | n + 1 => by
    rw [List.range_succ, List.filter_append, filter_upto P g n]
    by_cases h : n < g
    · rw [show min g n = n by omega, show min g (n + 1) = n + 1 by omega, List.range_succ, List.filter_append]
      simp [List.filter_cons, h]
    · rw [show min g n = g by omega, show min g (n + 1) = g by omega]
      simp [List.filter_cons, h]
theorem last_found (part : List Nat) (kept : List (List Nat)) : ∀ n, ((List.range n).filter fun j => hasT part (kept.getD j [])).getLast? = findK part kept n
  | 0 => rfl
  | n + 1 => by
    rw [List.range_succ, List.filter_append]
    show _ = if hasT part (kept.getD n []) = true then some n else findK part kept n
    by_cases h : hasT part (kept.getD n []) = true
    · rw [if_pos h, List.filter_cons, if_pos h]
      simp
    · rw [if_neg h, List.filter_cons, if_neg h]
      simp only [List.filter_nil, List.append_nil]
      exact last_found part kept n
theorem atI_last (l : List V) (b : V) : atI (l ++ [b]) (-1) = some b := by
  unfold atI ixN
  rw [if_neg (by omega), if_pos (by rw [List.length_append]; simp; omega)]
  show (l ++ [b])[((-1 : Int) + ((l ++ [b]).length : Int)).toNat]? = some b
  rw [List.length_append, show ((-1 : Int) + ((l.length + [b].length : Nat) : Int)).toNat = l.length by simp; omega, List.getElem?_append_right (Nat.le_refl _), Nat.sub_self]
  rfl
theorem dp_ints {K : PySem.W.Frag} {H : Hp} : ∀ (gs : List Nat), DpAll K H (gs.map (V.int ∘ fun j : Nat => (0 : Int) + (j : Int))) (gs.map fun j : Nat => PyData.int (0 + (j : Int)))
  | [] => .nil
  | j :: gs => .cons (.int _) (dp_ints gs)
theorem can_ints : ∀ (gs : List Nat), PyData.canLayAll0 (gs.map fun j : Nat => PyData.int (0 + (j : Int))) = true
  | [] => by simp [PyData.canLayAll0]
  | j :: gs => by
    show PyData.canLayAll0 (PyData.int _ :: gs.map fun j : Nat => PyData.int (0 + (j : Int))) = true
    rw [PyData.canLayAll0, can_ints gs]
    simp [PyData.canLay0]
theorem depth_ints : ∀ (gs : List Nat), PyData.depthAll (gs.map fun j : Nat => PyData.int (0 + (j : Int))) = 0
  | [] => by simp [PyData.depthAll]
  | j :: gs => by
    show PyData.depthAll (PyData.int _ :: gs.map fun j : Nat => PyData.int (0 + (j : Int))) = 0
    rw [PyData.depthAll, depth_ints gs]
    simp [PyData.depth]
theorem ne_ints {K : PySem.W.Frag} {H : Hp} {t q : Addr} {gs : List Nat} {Q : VK} (e : H t = some (.lst (gs.map (V.int ∘ fun j : Nat => (0 : Int) + (j : Int))))) (f : H q = some (.lst [])) (k : Q (.bl (decide (gs ≠ []))) H) : rNeD K (.ref t) (.ref q) H Q := by
  refine ne_data (.lst (sq_of e) (dp_ints gs)) (.lst (sq_of f) .nil) ?_ (by decide +kernel) ?_
  · show (PyData.canLay0 _ && decide (PyData.depth _ ≤ 64)) = true
    simp only [PyData.canLay0, PyData.depth, can_ints, depth_ints]
    rfl
  · have e1 : PyData.eqv (.list (gs.map fun j : Nat => PyData.int (0 + (j : Int)))) (.list []) = decide (gs = []) := by
      cases gs with
      | nil => rfl
      | cons u us => rfl
    rw [e1]
    have e2 : (!decide (gs = [])) = decide (gs ≠ []) := by
      by_cases z : gs = [] <;> simp [z]
    rw [e2]
    exact k
theorem addK_le {m : Nat} {t : List Nat} {kept : List (List Nat)} (h : kept.length ≤ m) : (addK m t kept).length ≤ m := by
  unfold addK
  split
  · rw [List.length_drop, List.length_append, List.length_singleton]
    omega
  · exact h
theorem addK_asc {m : Nat} {t : List Nat} {kept : List (List Nat)} (h : AscL kept) (ht : Asc t) : AscL (addK m t kept) := by
  unfold addK
  split
  · intro u hu
    rcases List.mem_append.mp (List.mem_of_mem_drop hu) with q | q
    · exact h u q
    · rw [List.mem_singleton.mp q]
      exact ht
  · exact h
theorem HsOk.add {m : Nat} {M : Hs} {t : List Nat} (h : HsOk m M) (ht : Asc t) : HsOk m (M.add t) := by
  have e := h.e
  refine ⟨e, ?_, ?_, ?_, ?_, ?_⟩
  · show (addK M.m t M.kept).length ≤ m
    rw [e]
    exact addK_le h.k
  · show (addK M.m t M.kept ++ [[]]).length = (addK M.m t M.kept).length + 1
    rw [List.length_append]
    rfl
  · exact Nat.le_refl _
  · exact addK_asc h.a ht
  · intro u hu
    rcases List.mem_append.mp hu with q | q
    · exact addK_asc h.a ht u q
    · rw [List.mem_singleton.mp q]
      exact fun _ z => absurd z List.not_mem_nil
theorem len_law (vs : List V) (H : Hp) (Q : VK) (E : XK) (h : spLaw K vs H Q E) : vs.length = p_law.length := by
  obtain ⟨a, ns, rfl, _⟩ := h
  rfl
theorem d_law (T : TX K mg) : BodyOk P w K mg base n_law "law" s_law (He.fAd K ("law", none)) 5 (spLaw K) := by
  intro cdv A outer s H vs Q E hr h
  · obtain ⟨a, ns, rfl, hS, hl, K0⟩ := h
    refine ⟨_, (pss_cons (ps_set (i := 1) sc_law.nd rfl (Or.inl rfl) (pe_lst pa_nil)) (pss_cons (ps_set (i := 2) sc_law.nd rfl (Or.inl rfl) (pe_op op_add pe_int (pc (d_l_draw T) (hr.mono (by decide)) px (pa_cons (pv 0) (pa_cons (pv 1) (pa_cons pe_int pa_nil)))))) (pss_cons (ps_set (i := 3) sc_law.nd rfl (Or.inl rfl) (pn (d_History_init T) (hr.mono (by decide)) px (pa_cons (pv 2) pa_nil))) (pss_cons (ps_set (i := 4) sc_law.nd rfl (Or.inr rfl) (pe_lst pa_nil)) (pss_cons (ps_set (i := 5) sc_law.nd rfl (Or.inl rfl) (pe_lst (pa_cons pe_str pa_nil))) (pss_cons (ps_set (i := 6) sc_law.nd rfl (Or.inl rfl) pe_int) (Evl.pss_cut (ps_for (passes_of rfl) rfl (pi_range1 rfl (b_range T) (pa_cons (pc (d_l_draw T) (hr.mono (by decide)) px (pa_cons (pv 0) (pa_cons (pv 1) (pa_cons pe_int pa_nil)))) pa_nil)) (pg_name (i := 7) sc_law.nd rfl (Or.inl rfl)) (pss_cons (ps_set (i := 8) sc_law.nd rfl (Or.inl rfl) (pc (d_l_draw T) (hr.mono (by decide)) px (pa_cons (pv 0) (pa_cons (pv 1) (pa_cons pe_int pa_nil))))) (pss_cons (ps_set (i := 9) sc_law.nd rfl (Or.inl rfl) (pc (d_l_pick T) (hr.mono (by decide)) px (pa_cons (pv 0) (pa_cons (pv 1) (pa_cons (pe_lst (pa_cons pe_str (pa_cons pe_str (pa_cons pe_str (pa_cons pe_str (pa_cons (pe_op op_add_str pe_str (pe_callTy call_str_int (by rfl) (b_str T) (by decide +kernel) (pa_cons (pv 7) pa_nil))) pa_nil)))))) pa_nil))))) (Evl.pss_cut (ps_if (pt_cmpR op_lt (pv 8) pe_int (nomark _)) (Evl.pss_cut (ps_if (PW.pt (pw_and (pt_cmpR op_ne (pv 9) pe_str (nomark _)) (pw_and1 (pt_cmpR (op_neD hr.units) (pe_slice sl_list (pv 4) (po_some (pe_un un_neg pe_int)) po_none) (pe_lst (pa_cons (pv 9) pa_nil)) (nomark _))))) (pss_one (ps_set (i := 4) sc_law.nd rfl (Or.inr rfl) (pe_slice sl_list (pe_op op_cat (pv 4) (pe_lst (pa_cons (pv 9) pa_nil))) (po_some (pe_un un_neg (pv 2))) po_none))) pss_nil) (pss_cons (ps_set (i := 5) sc_law.nd rfl (Or.inl rfl) (pe_op op_cat (pv 4) (pe_lst (pa_cons pe_str pa_nil)))) (pss_cons (ps_set (i := 6) sc_law.nd rfl (Or.inl rfl) (pe_callB call_len_seq (by rfl) (b_len T) boot_len (pa_cons (pv 4) pa_nil))) (pss_one (ps_if (pt_cmpR op_notN (pc (d_l_told T) (hr.mono (by decide)) px (pa_cons (pv 3) (pa_cons pe_str (pa_cons (pv 9) (pa_cons pe_int pa_nil))))) pe_non (nomark _)) (pss_one (ps_ret pe_bl)) pss_nil))))) (pss_one (ps_if (pt_cmpR op_lt (pv 8) pe_int (nomark _)) (pss_cons (ps_set (i := 10) sc_law.nd rfl (Or.inl rfl) (pc (d_l_draw T) (hr.mono (by decide)) px (pa_cons (pv 0) (pa_cons (pv 1) (pa_cons (pe_op op_add (pe_callB call_len_seq (by rfl) (b_len T) boot_len (pa_cons (pv 4) pa_nil)) pe_int) pa_nil))))) (pss_cons (ps_set (i := 11) sc_law.nd rfl (Or.inl rfl) (pe_tup (pa_cons pe_str (pa_cons pe_str pa_nil)))) (pss_cons (ps_if (pt_cmpR op_le (pv 10) (pe_callB call_len_seq (by rfl) (b_len T) boot_len (pa_cons (pv 4) pa_nil)) (nomark _)) (pss_cons (ps_set (i := 6) sc_law.nd rfl (Or.inl rfl) (pv 10)) (pss_one (ps_set (i := 11) sc_law.nd rfl (Or.inl rfl) (pe_ix ix_list (pv 5) (pv 10) (fun _ _ => rfl))))) pss_nil) (pss_one (ps_if (pt_cmpR (op_neD hr.units) (pc (d_l_told T) (hr.mono (by decide)) px (pa_cons (pv 3) (pa_cons pe_str (pa_cons (pv 10) (pa_cons pe_int pa_nil))))) (pv 11) (nomark _)) (pss_one (ps_ret pe_bl)) pss_nil))))) (pss_one (ps_if (pt_cmpR op_eq (pv 8) pe_int (nomark _)) (pss_cons (ps_asg (pv 9) (pg_sub (pv 5) (pv 6) set_list)) (pss_one (ps_expr (pm (d_History_keep T) (hr.mono (by decide)) px (pv 3) (pa_cons (pv 9) pa_nil))))) (pss_cons (ps_set (i := 12) sc_law.nd rfl (Or.inr rfl) (pc (d_l_pick T) (hr.mono (by decide)) px (pa_cons (pv 0) (pa_cons (pv 1) (pa_cons (pe_lst (pa_lits rfl)) pa_nil))))) (pss_cons (ps_set (i := 13) sc_law.nd rfl (Or.inr rfl) (pe_op op_sub (pc (d_l_draw T) (hr.mono (by decide)) px (pa_cons (pv 0) (pa_cons (pv 1) (pa_cons (pe_op op_add (pe_callB call_len_seq (by rfl) (b_len T) boot_len (pa_cons (pv 4) pa_nil)) pe_int) pa_nil)))) pe_int)) (pss_cons (ps_setLc (i := 14) rfl sc_law.nd rfl rfl (sw_true rfl rfl rfl (by decide +kernel)) (own := [("_law_j", 15)]) (pi_range1 rfl (b_range T) (pa_cons (pe_callB call_len_seq (by rfl) (b_len T) boot_len (pa_cons (pv 4) pa_nil)) pa_nil)) (blkOk_by (own := [("_law_j", 15)]) (N := n_law) (sc := defScope s_law) (by decide +kernel)) (fun _ _ _ _ _ => (pg_name (i := 15) sc_law.nd rfl (Or.inl rfl))) (fun _ _ _ _ _ => (pts_one (PW.pt (pw_and (pt_cmpR op_le (pv 15) (pv 13) (nomark _)) (pw_and1 (pt_cmpR op_in_str (pv 12) (pe_ix (show IxR _ (rIxL K) from ix_list) (pv 4) (pv 15) (fun _ _ => rfl)) (by rfl))))))) (fun _ _ _ _ _ => (pv 15))) (pss_one (ps_if (pt_cmpR (op_neD hr.units) (pc (d_l_told T) (hr.mono (by decide)) px (pa_cons (pv 3) (pa_cons pe_str (pa_cons (pv 12) (pa_cons (pv 13) pa_nil))))) (pe_ifExp (pt_cmpR (op_neD hr.units) (pv 14) (pe_lst pa_nil) (nomark _)) (pe_ix ix_list (pv 14) (pe_un un_neg pe_int) (fun _ _ => rfl)) pe_non) (nomark _)) (pss_one (ps_ret pe_bl)) pss_nil)))))))))) (pss_one (ps_if (PW.pt (pw_or (pt_cmpR (op_neD hr.units) (pm0 (d_History_all_lines T) (hr.mono (by decide)) px (pv 3)) (pv 4) (nomark _)) (pw_or (pt_cmpR op_ne (pm0 (d_History_here T) (hr.mono (by decide)) px (pv 3)) (pv 6) (nomark _)) (pw_or1 (pt_cmpR op_ne (pm0 (d_History_many T) (hr.mono (by decide)) px (pv 3)) (pe_callB call_len_seq (by rfl) (b_len T) boot_len (pa_cons (pv 4) pa_nil)) (nomark _)))))) (pss_one (ps_ret pe_bl)) pss_nil)))))) (pss_one (ps_ret (pc (d_l_bad T) (hr.mono (by decide)) px (pa_cons (pv 3) pa_nil))))))))))), ?_⟩
    walk_at "rd"
    refine ⟨by decide, fun p hp => ?_⟩
    have D0 : Dr K (upd H p (.lst [])) a p ns 0 := Dr.start hS hl hp
    refine ⟨a, p, 6, ns, 0, rfl, D0, by omega, by omega, by omega, fun d H1 d0 d1 F1 D1 => ⟨_, rfl, fun x xd hx hxd nxd => ⟨x, xd, _, rfl, upd_same, ?_⟩⟩⟩
    rw [if_pos (by omega)]
    obtain ⟨m, em, m1, m2⟩ : ∃ m : Nat, 1 + d = m ∧ 1 ≤ m ∧ m ≤ 6 := ⟨(1 + d).toNat, by omega, by omega, by omega⟩
    rw [em, Int.toNat_natCast]
    intro ak as H2 hak has F2 R2
    refine ⟨rfl, by decide, fun tk htk => ⟨by decide, fun ts hts => ?_⟩⟩
    have sm : Same H1 (upd (upd H1 xd (.own x)) x (.ins (He.ga K "History") xd [])) := (same_new hxd).trans (same_new (by rw [upd_ne nxd.symm]; exact hx))
    have hak1 := sm.free hak
    have has1 := sm.free has
    have s1 := same_new (o := .lst []) htk
    have s2 := same_new (o := .lst [.str ""]) hts
    have hts2 := s1.free hts
    have D2 : Dr K H2 a p ns 1 := (D1.same sm).fy F2 (D1.new hx) (by simp [D1.ne hx])
    have oR := R2.old
    have J0 : J30 K (upd (upd H2 tk (.lst [])) ts (.lst [.str ""])) a p x ak as tk ts ns 1 ⟨m, [], [[]], 0⟩ ⟨m, [], [[]], 0⟩ := by
      refine ⟨⟨D2.same (s1.trans s2), (D1.new hx).cons ((D1.new hak1).cons (D1.new has1)), (D2.new htk).cons (D2.new hts2), by simp [D1.ne hx, D1.ne hak1, D1.ne has1], by simp [D2.ne htk, D2.ne hts2], fun c hc g => ?_, fun c hc => (Fx.of (F := []) (s1.trans s2)).old (oR c hc), fun c hc e => ?_⟩, R2.same (s1.trans s2), s2 _ _ upd_same, upd_same, ne_of_none upd_same hts⟩
      · simp only [List.mem_cons, List.not_mem_nil, or_false] at g
        rcases g with rfl | rfl
        · exact oR _ hc htk
        · exact oR _ hc hts2
      · simp only [List.mem_cons, List.not_mem_nil, or_false] at hc
        rcases hc with rfl | rfl
        · rw [s2 _ _ upd_same] at e
          cases e
        · rw [upd_same] at e
          cases e
    let Inv : Nat → L2.St → Hp → Prop := fun i σ' H' => ∃ (ak as tk ts : Addr) (M : Hs) (v7 v8 v9 v10 v11 v12 v13 v14 : Option V), σ' = [some (.ref a), some (.ref p), some (.int m), some (.ref x), some (.ref tk), some (.ref ts), some (.int M.spot), v7, v8, v9, v10, v11, v12, v13, v14, none] ∧
      J30 K H' a p x ak as tk ts ns (2 + 4 * i) M M ∧ HsOk m M
    refine ⟨Inv 31, ?_, ?_⟩
    · walk_at "rd"
      refine ⟨a, p, 31, ns, 1, rfl, J0.S.D, by omega, by omega, by omega, fun n H3 n0 n1 F3 D3 => ?_⟩
      have J1 := J0.draw F3 D3
      obtain ⟨n, rfl⟩ : ∃ j : Nat, n = (j : Int) := ⟨n.toNat, by omega⟩
      refine ⟨_, rfl, by omega, by omega, ?_⟩
      rw [Int.toNat_natCast]
      refine forb_rng Inv ⟨ak, as, tk, ts, _, _, _, _, _, _, _, _, _, rfl, J1, ⟨rfl, Nat.zero_le _, rfl, Nat.le_refl _, fun _ h => absurd h List.not_mem_nil, fun u h => by rw [List.mem_singleton.mp h]; exact fun _ h => absurd h List.not_mem_nil⟩⟩ ?_ ?_
      · rintro i σ' H' hi ⟨ak, as, tk, ts, M, v7, v8, v9, v10, v11, v12, v13, v14, rfl, J, ok⟩
        rw [Int.zero_add]
        walk_at "rd"
        refine ⟨a, p, 8, ns, _, rfl, J.S.D, by omega, by omega, by omega, fun wy H4 w0 w1 F4 D4 => ?_⟩
        have J4 := J.draw F4 D4
        refine ⟨?_, sline (Nat.le_trans (small_len (by omega)) (by omega)), by show 5 ≤ sizeLine; decide, fun p1 hp1 => ?_⟩
        · rw [Int.natAbs_natCast]
          exact Nat.lt_of_le_of_lt (Nat.log2_le_self i) (by omega)
        refine (pick_new (xs := [.str "", .str "one", .str "two", .str "one two", .str (("t" : Str) ++ Str.ofString (toString (i : Int)))]) D4 (by omega) (by simp) (by simp) fun j2 v2 H5 hj2 F5 D5 => ?_).2 p1 hp1
        obtain ⟨tx, rfl, htx⟩ : ∃ tx : List Nat, v2 = tv tx ∧ smallT tx = true := by
          match j2, hj2 with
          | 0, hj => exact ⟨[], (Option.some.inj hj).symm, by decide +kernel⟩
          | 1, hj => exact ⟨("one" : Str).cps.toList, (Option.some.inj hj).symm, by decide +kernel⟩
          | 2, hj => exact ⟨("two" : Str).cps.toList, (Option.some.inj hj).symm, by decide +kernel⟩
          | 3, hj => exact ⟨("one two" : Str).cps.toList, (Option.some.inj hj).symm, by decide +kernel⟩
          | 4, hj => exact ⟨_, (Option.some.inj hj).symm, small_num (by omega)⟩
          | j + 5, hj => simp at hj
        have okx : okText tx = true ∧ tx.length ≤ 10 := by
          unfold smallT at htx
          rw [Bool.and_eq_true, decide_eq_true_iff] at htx
          exact htx
        have ascx := okText_lt okx.1
        have J5 := J4.draw F5 D5
        let Aft : L2.St → Hp → Prop := fun σ' H' => ∃ (ak as tk ts : Addr) (M : Hs) (v10 v11 v12 v13 v14 : Option V), σ' = [some (.ref a), some (.ref p), some (.int m), some (.ref x), some (.ref tk), some (.ref ts), some (.int M.spot), some (.int (i : Nat)), some (.int wy), some (tv tx), v10, v11, v12, v13, v14, none] ∧
          J30 K H' a p x ak as tk ts ns (2 + 4 * i + 4) M M ∧ HsOk m M
        refine ⟨Aft, ?_, ?_⟩
        · walk_at "rd"
          by_cases w3 : wy < 3
          · rw [if_pos w3]
            let Mid : L2.St → Hp → Prop := fun σ' H' => ∃ tk', σ' = [some (.ref a), some (.ref p), some (.int m), some (.ref x), some (.ref tk'), some (.ref ts), some (.int M.spot), some (.int (i : Nat)), some (.int wy), some (tv tx), v10, v11, v12, v13, v14, none] ∧
              J30 K H' a p x ak as tk' ts ns (2 + 4 * i + 1 + 1) M ⟨M.m, addK M.m tx M.kept, M.shown, M.spot⟩
            refine ⟨Mid, ?_, ?_⟩
            · walk_at "rd"
              have same : addK M.m tx M.kept = M.kept → ∀ H', Same H5 H' → Mid [some (.ref a), some (.ref p), some (.int m), some (.ref x), some (.ref tk), some (.ref ts), some (.int M.spot), some (.int (i : Nat)), some (.int wy), some (tv tx), v10, v11, v12, v13, v14, none] H' := fun e H' s => by
                refine ⟨tk, rfl, ?_⟩
                rw [e]
                exact J5.same s
              by_cases e0 : tx = []
              · rw [if_neg (by rw [decide_eq_true (show S tx = ("" : Str) by rw [e0]; rfl)]; decide)]
                exact same (if_neg fun h => h.1 e0) H5 (Same.refl _)
              · have es : ¬ S tx = ("" : Str) := fun h => e0 (by rw [show ("" : Str) = S [] from rfl, S_inj] at h; exact h)
                rw [if_pos (by rw [decide_eq_false es]; rfl)]
                have ec : cutV (tvs M.kept) (some (-1)) none = tvs (M.kept.drop (M.kept.length - 1)) := by
                  rw [cutV_neg _ _ (by omega), List.length_map, ← List.map_drop, show ((M.kept.length : Int) + -1).toNat = M.kept.length - 1 by omega]
                refine ⟨_, sq_of J5.ek, ?_⟩
                rw [ec]
                refine fun q1 h1 => ⟨by show 1 ≤ sizeLine; decide, fun q2 h2 => ?_⟩
                have s2 := (same_new (o := .lst (tvs (M.kept.drop (M.kept.length - 1)))) h1).trans (same_new (o := .lst [.str (S tx)]) h2)
                refine ne_data (d := .list (tds (M.kept.drop (M.kept.length - 1)))) (e := .list (tds [tx])) (dp_texts (same_new h2 _ _ upd_same)) (dp_texts upd_same) (shaped_texts fun u hu => ok.a u (List.mem_of_mem_drop hu)) (shaped_texts fun u hu => by rw [List.mem_singleton.mp hu]; exact ascx) ⟨_, rfl, ?_⟩
                rw [eqv_tds]
                by_cases el : M.kept.getLast? = some tx
                · rw [if_neg (by rw [decide_eq_true ((drop_last _ _).mpr el)]; decide)]
                  exact same (if_neg fun h => h.2 el) _ s2
                · rw [if_pos (by rw [decide_eq_false fun h => el ((drop_last _ _).mp h)]; rfl)]
                  have ea : addK M.m tx M.kept = (M.kept ++ [tx]).drop (M.kept.length + 1 - M.m) := if_pos ⟨e0, el⟩
                  refine ⟨by show 1 ≤ sizeLine; decide, fun q3 h3 => ?_⟩
                  have s3 := same_new (o := .lst [.str (S tx)]) h3
                  refine ⟨_, s3 _ _ (s2 _ _ J5.ek), _, upd_same, sline (by rw [List.length_map]; have := ok.k; show M.kept.length + 1 ≤ 100000; omega), fun q4 h4 => ?_⟩
                  have s4 := same_new (o := .lst (tvs M.kept ++ [.str (S tx)])) h4
                  refine ⟨_, sq_of upd_same, fun q5 h5 => ?_⟩
                  have ex : cutV (tvs M.kept ++ [.str (S tx)]) (some (-(m : Int))) none = tvs (addK M.m tx M.kept) := by
                    have e1 : tvs M.kept ++ [.str (S tx)] = tvs (M.kept ++ [tx]) := (tvs_add _ _).symm
                    rw [ea, e1, cutV_neg _ _ (by omega), List.length_map, ← List.map_drop, List.length_append, List.length_singleton, ok.e, show (((M.kept.length + 1 : Nat) : Int) + -(m : Int)).toNat = M.kept.length + 1 - m by omega]
                  rw [ex]
                  have s5 := same_new (o := .lst (tvs (addK M.m tx M.kept))) h5
                  have sAll := s2.trans (s3.trans (s4.trans s5))
                  have h5' := s2.free (s3.free (s4.free h5))
                  exact ⟨q5, rfl, J5.lists (.inr h5') (.inl rfl) (Fx.of sAll) upd_same (sAll _ _ J5.es) (ne_new J5.es h5').symm⟩
            · rintro σ' H6 ⟨tk', rfl, J6⟩
              walk_at "rd"
              refine ⟨by show 1 ≤ sizeLine; decide, fun q1 h1 => ?_⟩
              have s1 := same_new (o := .lst [.str ""]) h1
              have lk : (tvs (addK M.m tx M.kept)).length ≤ 6 := by
                rw [List.length_map, ok.e]
                have := addK_le (t := tx) ok.k
                omega
              refine ⟨_, s1 _ _ J6.ek, _, upd_same, sline (by show (tvs (addK M.m tx M.kept)).length + 1 ≤ 100000; omega), fun q2 h2 => ?_⟩
              have s2 := same_new (o := .lst (tvs (addK M.m tx M.kept) ++ [.str ""])) h2
              refine ⟨_, .inl (sq_of (s2 _ _ (s1 _ _ J6.ek))), ?_⟩
              have e7 : upd (upd H6 q1 (.lst [.str ""])) q2 (.lst (tvs (addK M.m tx M.kept) ++ [.str ""])) q2 = some (.lst (tvs (M.add tx).shown)) := by
                rw [upd_same]
                show _ = some (HO.lst (tvs (addK M.m tx M.kept ++ [[]])))
                rw [tvs_add]
                rfl
              have J7 : J30 K (upd (upd H6 q1 (.lst [.str ""])) q2 (.lst (tvs (addK M.m tx M.kept) ++ [.str ""]))) a p x ak as tk' q2 ns (2 + 4 * i + 1 + 1) M (M.add tx) :=
                J6.lists (.inl rfl) (.inr (s1.free h2)) (Fx.of (s1.trans s2)) (s2 _ _ (s1 _ _ J6.ek)) e7 (ne_new (s1 _ _ J6.ek) h2)
              refine ⟨x, "add", tv tx, .int 0, rfl, .inr ⟨ak, as, M, J7.R, by have := ok.k; omega, by rw [ok.e]; exact m1, ok.a, .inl ⟨rfl, tx, rfl, by omega, .inl ⟨okx.1, fun ak' as' H8 n1 n2 f8 R8 => ?_⟩⟩⟩⟩
              have J8 := J7.hist n1 n2 f8 R8
              have e8 : ((tvs (addK M.m tx M.kept)).length : Int) = ((M.add tx).spot : Nat) := by
                rw [List.length_map]
                rfl
              show if (!decide (V.non = V.non)) = true then _ else _
              rw [if_neg (by decide)]
              refine ⟨ak', as', tk', q2, M.add tx, v10, v11, v12, v13, v14, ?_, J8.mono (by omega), ok.add ascx⟩
              show [some (V.ref a), _, _, _, _, _, some (V.int ((tvs (addK M.m tx M.kept)).length : Int)), _, _, _, _, _, _, _, _, _] = _
              rw [e8]
          · rw [if_neg w3]
            by_cases w5 : wy < 5
            · rw [if_pos w5]
              refine ⟨_, .inl (sq_of J5.ek), ?_⟩
              rw [List.length_map]
              have hkm := ok.k
              refine ⟨a, p, _, ns, _, rfl, J5.S.D, by omega, by omega, by omega, fun g H6 g0 g1 F6 D6 => ?_⟩
              have J6 := J5.draw F6 D6
              refine ⟨by show 2 ≤ sizeLine; decide, fun q hq => ?_⟩
              have s7 := same_new (o := .tup [.str "refused", .str "place"]) hq
              have J7 := J6.same s7
              refine ⟨_, .inl (sq_of J7.ek), g, rfl, ?_⟩
              rw [List.length_map]
              by_cases gl : g ≤ (M.kept.length : Int)
              · rw [if_pos gl]
                have gs : g.toNat < M.shown.length := by
                  have := ok.s
                  omega
                refine ⟨_, g, rfl, sq_of J7.es, tv (M.shown.getD g.toNat []), ?_, ?_⟩
                · rw [atI_in g0 (by rw [List.length_map]; omega), List.getElem?_map, List.getD_eq_getElem?_getD, List.getElem?_eq_getElem gs]
                  rfl
                · refine ⟨x, "go", .int g, .int 0, rfl, .inr ⟨ak, as, M, J7.R, by omega, by rw [ok.e]; exact m1, ok.a, .inr (.inl ⟨rfl, g, rfl, .inl ⟨⟨g0, by omega⟩, fun ak' as' H8 n1 n2 f8 R8 => ?_⟩⟩)⟩⟩
                  have J8 := J7.hist n1 n2 f8 R8
                  have asg : Asc (M.shown.getD g.toNat []) := by
                    refine ok.b _ ?_
                    rw [List.getD_eq_getElem?_getD, List.getElem?_eq_getElem gs]
                    exact List.getElem_mem _
                  refine ne_same (.str _) (.str _) (shaped_str asg) ⟨_, rfl, ?_⟩
                  rw [if_neg (by decide)]
                  have eg : g = ((M.go g.toNat).spot : Nat) := (Int.toNat_of_nonneg g0).symm
                  have J9 : J30 K H8 a p x ak' as' tk ts ns (2 + 4 * i + 1 + 1 + 1) (M.go g.toNat) (M.go g.toNat) := ⟨J8.S, J8.R, J8.ek, J8.es, J8.n⟩
                  refine ⟨ak', as', tk, ts, M.go g.toNat, some (.int g), some (tv (M.shown.getD g.toNat [])), v12, v13, v14, ?_, J9.mono (by omega), ⟨ok.e, ok.k, ok.s, by show g.toNat ≤ M.kept.length; omega, ok.a, ok.b⟩⟩
                  rw [← eg]
              · rw [if_neg gl]
                refine ⟨x, "go", .int g, .int 0, rfl, .inr ⟨ak, as, M, J7.R, by omega, by rw [ok.e]; exact m1, ok.a, .inr (.inl ⟨rfl, g, rfl, .inr ⟨fun h => by have := ok.s; omega, fun v H8 s8 r8 => ?_⟩⟩)⟩⟩
                have J8 := J7.same s8
                have rq : IsRef H8 "place" (.ref q) := ⟨q, rfl, s8 _ _ upd_same⟩
                refine ne_same r8.dp rq.dp (by decide +kernel) ⟨_, rfl, ?_⟩
                rw [if_neg (by decide)]
                exact ⟨ak, as, tk, ts, M, _, _, v12, v13, v14, rfl, J8.mono (by omega), ok⟩
            · rw [if_neg w5]
              by_cases w6 : wy = 5
              · rw [if_pos w6]
                have hs : M.spot < M.shown.length := by
                  have := ok.s
                  have := ok.p
                  omega
                refine ⟨_, J5.es, M.spot, ?_, ?_⟩
                · unfold ixN
                  rw [List.length_map, if_pos (by omega), if_pos (by omega), Int.toNat_natCast]
                have e6 : (tvs M.shown).set M.spot (.str (S tx)) = tvs (M.shown.set M.spot tx) := (List.map_set).symm
                rw [e6]
                have J6 : J30 K (upd H5 ts (.lst (tvs (M.shown.set M.spot tx)))) a p x ak as tk ts ns (2 + 4 * i + 1 + 1) M (M.keep tx) :=
                  J5.lists (.inl rfl) (.inl rfl) (Fx.upd (by simp) (nt_lst J5.es)) (by rw [upd_ne J5.n]; exact J5.ek) upd_same J5.n
                obtain ⟨⟨dx6, hp6⟩, _⟩ := id J6.R
                simp only [List.getElem?_cons_zero, List.getElem?_cons_succ, List.set_cons_zero, List.set_cons_succ, List.cons_append, List.nil_append, List.append_nil, Option.some.injEq, V.int.injEq, V.str.injEq, V.bl.injEq, V.ref.injEq, List.cons.injEq, HO.ins.injEq, HO.lst.injEq, HO.tup.injEq, S_inj, ofS_inj, String.reduceEq, ex_eq, ex_eq', ex_eq0, tLc_eq, tFor_eq, iStr, iRng1, iRng2, iList, iTup, tVar, tC, tOp, tCons, tNil, tCB, tFld, tCallS, tMethW, tMakeS, WE, wKeep, tLits, tLst, tTup, wipe, rI, rI0, rU, rEq, rNe, scII, scSS, scBB, scNN, scNI, scNS, scNB, scIN, scSN, scBN, scIS, scSI, if_tt, if_ff, and_true, true_and, and_assoc, exists_and_left, exists_and_right, exists_const, cxK, decide_true, decide_false, Bool.not_true, Bool.not_false, eq_self_iff_true, Bool.true_eq_false, Bool.false_eq_true, if_true, if_false, reduceCtorEq, S_len, S_one, S_tl, decide_eq_true_eq, tUn, tAndV, tOrV, tNotV, tIf, tAnd, tOr, tNot, tB, tTest, tChain, tCall, tMeth, tMake, sFld, tSeq, tNext, tAsg, gName, tIfS, tRet, tRetN, tDrop, tM0, tM1, tBM, tBM0, rAppend, rPop, tSl, tPart, tNoPart, rIxL, rIxT, rIxS, rSlS, rSlL, rCat, iRng3, tRevL, tDisp, tPairs, tDGet, sDPut, gTup, gCons, gNil, gSub, gAttr, rSetL, tv, upd_same, upd_upd, List.length_cons, List.length_nil, Nat.reduceAdd, Nat.zero_add, lines, fk_History T, lk_History, inj_History, hp6]
                refine ⟨x, ak, as, M, tx, rfl, J6.R, hs, fun ak' as' H7 n1 n2 f7 R7 => ?_⟩
                have J7 := J6.hist n1 n2 f7 R7
                refine ⟨ak', as', tk, ts, M.keep tx, v10, v11, v12, v13, v14, rfl, J7.mono (by omega), ⟨ok.e, ok.k, ?_, ok.p, ok.a, ?_⟩⟩
                · show (M.shown.set M.spot tx).length = _
                  rw [List.length_set]
                  exact ok.s
                · intro u hu
                  rcases List.mem_or_eq_of_mem_set hu with q | q
                  · exact ok.b u q
                  · rw [q]
                    exact ascx
              · rw [if_neg w6]
                refine pick_new J5.S.D (by omega) (by simp) (by simp) fun j3 v3 H6 hj3 F6 D6 => ?_
                obtain ⟨pz, hpz, rfl⟩ := pick_str hj3
                have J6 := J5.draw F6 D6
                have hkm := ok.k
                refine ⟨_, .inl (sq_of J6.ek), ?_⟩
                rw [List.length_map]
                refine ⟨a, p, _, ns, _, rfl, J6.S.D, by omega, by omega, by omega, fun g H7 g0 g1 F7 D7 => ⟨g, rfl, _, .inl (sq_of (J6.draw F7 D7).ek), ?_⟩⟩
                have J7 := J6.draw F7 D7
                rw [List.length_map]
                refine ⟨by omega, by omega, ?_⟩
                rw [Int.toNat_natCast]
                refine lcb_rng 0 M.kept.length (fun j => decide (j ≤ g - 1) && hasT pz.cps.toList (M.kept.getD j.toNat [])) V.int (by omega) (fun j H8 hj s8 Y N hY hN => ?_) (fun D H8 hD s8 eD => ?_)
                · walk_at "rd"
                  have e1 : (0 + (j : Int)).toNat = j := by omega
                  rw [e1] at hY hN
                  by_cases h1 : 0 + (j : Int) ≤ g - 1
                  · rw [if_pos h1]
                    refine ⟨_, sq_of (s8 _ _ J7.ek), tv (M.kept.getD j []), ?_, _, rfl, ?_⟩
                    · rw [atI_in (by omega) (by rw [List.length_map]; omega), e1, List.getElem?_map, List.getD_eq_getElem?_getD, List.getElem?_eq_getElem hj]
                      rfl
                    · show if hasT pz.cps.toList (M.kept.getD j []) = true then _ else _
                      by_cases h2 : hasT pz.cps.toList (M.kept.getD j []) = true
                      · rw [if_pos h2]
                        exact hY (by rw [decide_eq_true h1, h2]; rfl) _ (Same.refl _)
                      · rw [if_neg h2]
                        exact hN (by rw [Bool.eq_false_iff.mpr h2, Bool.and_false]) _ (Same.refl _)
                  · rw [if_neg h1]
                    exact hN (by rw [decide_eq_false h1]; rfl) _ (Same.refl _)
                · have J8 := J7.same s8
                  refine ⟨x, "find", .str pz, .int (g - 1), rfl, .inr ⟨ak, as, M, J8.R, by omega, by rw [ok.e]; exact m1, ok.a, .inr (.inr ⟨rfl, pz.cps.toList, g - 1, rfl, rfl, by omega, by omega, ?_⟩)⟩⟩
                  have lf := last_found pz.cps.toList M.kept (min g.toNat M.kept.length)
                  obtain ⟨gs, hgs⟩ : ∃ gs : List Nat, (List.range (min g.toNat M.kept.length)).filter (fun j => hasT pz.cps.toList (M.kept.getD j [])) = gs := ⟨_, rfl⟩
                  have eL : (List.filter (fun j : Int => decide (j ≤ g - 1) && hasT pz.cps.toList (M.kept.getD j.toNat [])) (List.map (fun k : Nat => (0 : Int) + (k : Int)) (List.range M.kept.length))) = gs.map fun j : Nat => (0 : Int) + (j : Int) := by
                    rw [List.filter_map, ← hgs, ← filter_upto]
                    congr 1
                    refine List.filter_congr fun j _ => ?_
                    show (decide (0 + (j : Int) ≤ g - 1) && hasT _ (M.kept.getD (0 + (j : Int)).toNat [])) = _
                    have e1 : (0 + (j : Int)).toNat = j := by omega
                    rw [e1]
                    have e2 : decide (0 + (j : Int) ≤ g - 1) = decide (j < g.toNat) := by
                      by_cases h : j < g.toNat
                      · rw [decide_eq_true h, decide_eq_true (by omega)]
                      · rw [decide_eq_false h, decide_eq_false (by omega)]
                    rw [e2]
                  rw [eL, List.map_map] at eD
                  rw [hgs] at lf
                  have eN : (g - 1 + 1).toNat = g.toNat := by omega
                  rw [eN, ← lf]
                  refine ⟨by decide, fun q hq => ?_⟩
                  have s9 := same_new (o := .lst []) hq
                  have J9 := J8.same s9
                  have fin : ∀ H9, J30 K H9 a p x ak as tk ts ns (2 + 4 * i + 1 + 1 + 1 + 1) M M → Aft [some (.ref a), some (.ref p), some (.int m), some (.ref x), some (.ref tk), some (.ref ts), some (.int (M.spot : Nat)), some (.int (i : Nat)), some (.int wy), some (.str (S tx)), v10, v11, some (.str pz), some (.int (g - 1)), some (.ref D), none] H9 := fun H9 J =>
                    ⟨ak, as, tk, ts, M, v10, v11, _, _, _, rfl, J.mono (by omega), ok⟩
                  refine ne_ints (s9 _ _ eD) upd_same ⟨_, rfl, ?_⟩
                  rcases List.eq_nil_or_concat gs with h | ⟨l', b, h⟩
                  · subst h
                    rw [if_neg (by decide)]
                    refine ne_same .non .non rfl ⟨_, rfl, ?_⟩
                    rw [if_neg (by decide)]
                    exact fin _ J9
                  · rw [List.concat_eq_append] at h
                    subst h
                    rw [if_pos (by simp), List.getLast?_concat]
                    refine ⟨D, rfl, _, sq_of (s9 _ _ eD), .int (0 + (b : Int)), ?_, ?_⟩
                    · rw [List.map_append]
                      exact atI_last _ _
                    · rw [Int.zero_add]
                      refine ne_same (.int _) (.int _) rfl ⟨_, rfl, ?_⟩
                      rw [if_neg (by decide)]
                      exact fin _ J9
        · rintro σ' H6 ⟨ak, as, tk, ts, M, v10, v11, v12, v13, v14, rfl, J6, ok6⟩
          walk_at "rd"
          obtain ⟨⟨dx6, hp6⟩, _⟩ := id J6.R
          simp only [List.getElem?_cons_zero, List.getElem?_cons_succ, List.set_cons_zero, List.set_cons_succ, List.cons_append, List.nil_append, List.append_nil, Option.some.injEq, V.int.injEq, V.str.injEq, V.bl.injEq, V.ref.injEq, List.cons.injEq, HO.ins.injEq, HO.lst.injEq, HO.tup.injEq, S_inj, ofS_inj, String.reduceEq, ex_eq, ex_eq', ex_eq0, tLc_eq, tFor_eq, iStr, iRng1, iRng2, iList, iTup, tVar, tC, tOp, tCons, tNil, tCB, tFld, tCallS, tMethW, tMakeS, WE, wKeep, tLits, tLst, tTup, wipe, rI, rI0, rU, rEq, rNe, scII, scSS, scBB, scNN, scNI, scNS, scNB, scIN, scSN, scBN, scIS, scSI, if_tt, if_ff, and_true, true_and, and_assoc, exists_and_left, exists_and_right, exists_const, cxK, decide_true, decide_false, Bool.not_true, Bool.not_false, eq_self_iff_true, Bool.true_eq_false, Bool.false_eq_true, if_true, if_false, reduceCtorEq, S_len, S_one, S_tl, decide_eq_true_eq, tUn, tAndV, tOrV, tNotV, tIf, tAnd, tOr, tNot, tB, tTest, tChain, tCall, tMeth, tMake, sFld, tSeq, tNext, tAsg, gName, tIfS, tRet, tRetN, tDrop, tM0, tM1, tBM, tBM0, rAppend, rPop, tSl, tPart, tNoPart, rIxL, rIxT, rIxS, rSlS, rSlL, rCat, iRng3, tRevL, tDisp, tPairs, tDGet, sDPut, gTup, gCons, gNil, gSub, gAttr, rSetL, tv, upd_same, upd_upd, List.length_cons, List.length_nil, Nat.reduceAdd, Nat.zero_add, lines, fk_History T, lk_History, inj_History, hp6]
          refine ⟨x, ak, as, M, rfl, J6.R, fun q hq => ne_texts upd_same (same_new hq _ _ J6.ek) ok6.a ⟨_, rfl, ?_⟩⟩
          rw [if_neg (by decide)]
          have J7 := J6.same (same_new (o := .lst (tvs M.kept)) hq)
          obtain ⟨⟨dx7, hp7⟩, _⟩ := id J7.R
          simp only [List.getElem?_cons_zero, List.getElem?_cons_succ, List.set_cons_zero, List.set_cons_succ, List.cons_append, List.nil_append, List.append_nil, Option.some.injEq, V.int.injEq, V.str.injEq, V.bl.injEq, V.ref.injEq, List.cons.injEq, HO.ins.injEq, HO.lst.injEq, HO.tup.injEq, S_inj, ofS_inj, String.reduceEq, ex_eq, ex_eq', ex_eq0, tLc_eq, tFor_eq, iStr, iRng1, iRng2, iList, iTup, tVar, tC, tOp, tCons, tNil, tCB, tFld, tCallS, tMethW, tMakeS, WE, wKeep, tLits, tLst, tTup, wipe, rI, rI0, rU, rEq, rNe, scII, scSS, scBB, scNN, scNI, scNS, scNB, scIN, scSN, scBN, scIS, scSI, if_tt, if_ff, and_true, true_and, and_assoc, exists_and_left, exists_and_right, exists_const, cxK, decide_true, decide_false, Bool.not_true, Bool.not_false, eq_self_iff_true, Bool.true_eq_false, Bool.false_eq_true, if_true, if_false, reduceCtorEq, S_len, S_one, S_tl, decide_eq_true_eq, tUn, tAndV, tOrV, tNotV, tIf, tAnd, tOr, tNot, tB, tTest, tChain, tCall, tMeth, tMake, sFld, tSeq, tNext, tAsg, gName, tIfS, tRet, tRetN, tDrop, tM0, tM1, tBM, tBM0, rAppend, rPop, tSl, tPart, tNoPart, rIxL, rIxT, rIxS, rSlS, rSlL, rCat, iRng3, tRevL, tDisp, tPairs, tDGet, sDPut, gTup, gCons, gNil, gSub, gAttr, rSetL, tv, upd_same, upd_upd, List.length_cons, List.length_nil, Nat.reduceAdd, Nat.zero_add, lines, fk_History T, lk_History, inj_History, hp7, spGet]
          refine ⟨x, ak, as, M, rfl, J7.R, _, .inl (sq_of J7.ek), rfl, ?_⟩
          rw [List.length_map, if_neg (by rw [decide_eq_true rfl]; decide)]
          exact ⟨ak, as, tk, ts, M, _, _, _, _, _, _, _, _, rfl, J7.mono (by omega), ok6⟩
      · rintro σ' H' ⟨ak, as, tk, ts, M, v7, v8, v9, v10, v11, v12, v13, v14, rfl, J, ok⟩
        exact ⟨ak, as, tk, ts, M, v7, v8, v9, v10, v11, v12, v13, v14, rfl, J.mono (by omega), ok⟩
    · rintro σ' H' ⟨ak, as, tk, ts, M, v7, v8, v9, v10, v11, v12, v13, v14, rfl, J, ok⟩
      walk_at "rd"
      exact ⟨x, ak, as, M, rfl, J.R, by have := ok.k; omega, by rw [ok.e]; exact m1, ok.a, fun H' => K0 H'⟩
end
end LH
/-! ## End: the head, the theorem -/
namespace LH
open PySem PySem.Spec PyProof.Rows L2
/-- what a law lets out, whatever the world -/
def CXw (P : Program) (outer : List Env) (H : Hp) (s : Shared) (E : XK) (u : Value) (s' : Shared) : Prop := ∃ w : World, L2.CX P w outer H s E u s'
theorem fn_cx {P : Program} {w : World} {K : PySem.W.Frag} {mg : Str → Option Value} {base : Heap} {k : Nat} {f : Addr} {fd : FuncData} {ps : List Str} {sp : Sp} (F : FnOk P w K mg base (L2.CX P w) k f fd ps sp) :
    FnOk P w K mg base (CXw P) k f fd ps sp :=
  ⟨F.len, fun A outer s H args us vs Q E hr he hb hv hs => codeAny_mono (F.run A outer s H args us vs Q E hr he hb hv hs) fun r s' h => by
    match r, h with
    | .ok (.ret u), h => exact h
    | .error e, h => exact ⟨w, h⟩⟩
abbrev R : PySem.W.OpenRow := PySem.W.OpenLaw.row PySem.Challenge.rw_linehand_k30_whole_histories
abbrev hk : PySem.W.Hook := hookM 4 fa fn exs
def ob (s : PySem.W.SharedT) : He.AlD × Bool := obsM fa fn exs (He.frG (HandSHeadRun.getT s) (He.asD (HandSHeadRun.getT s) 4))
theorem ob_eq (s : PySem.W.SharedT) : ob s = hk.obs s.abs := by
  have e : HandSHeadRun.getT s = s.abs.heap.get? := funext (HandSHeadRun.getT_eq s)
  show obsM fa fn exs _ = obsM fa fn exs _
  rw [e]
theorem run (w : World) : HandSHeadRun.RunEq R (PySem.W.view R.prog [21]) hk ob 6000 loose w := by
  intro os
  kernel_rfl
theorem fin {P : Program} {w : World} {K : PySem.W.Frag} {h : Heap} {mg : Str → Option Value} {f : Addr} (X : K.In h) (G : h.Ns mainGlobals mg) (hfa : mg ("law" : Str) = some (.ref f)) (c : He.SaysD fa fn K) (x : (exs.all fun f => f K) = true) :
    ∃ fd : FuncData, (∀ (s : Shared) (v : Value), BindsTo s fd ⟨[v], []⟩ [("_law_script", v)]) ∧ ∀ base : Heap, FnOk P w K mg base (CXw P) 6 f fd ["_law_script"] (spLaw K) := by
  have T : TX K mg := ⟨⟨h, X, G⟩, c, x⟩
  obtain ⟨fd, F⟩ := fn_law T
  have e := hfa.symm.trans (g_law T)
  cases e
  exact ⟨fd, fun s v => FunD.bindsA F bd_law s [v] rfl, fun base => fn_cx (F.ok sc_law len_law fun cdv A outer s H vs Q E hr h => d_law T cdv A outer s H vs Q E hr h)⟩
end LH
open PySem PySem.W PySem.Calls PyProof.Rows
theorem PySem.Challenge.cw_linehand_k30_whole_histories_holds : PySem.Challenge.rw_linehand_k30_whole_histories.Holds := by
  w_on; o_law
  refine HandSHeadRun.head_any (r := OpenLaw.row PySem.Challenge.rw_linehand_k30_whole_histories) (q := view (OpenLaw.row PySem.Challenge.rw_linehand_k30_whole_histories).prog [21]) (H := LH.hk) (ob := LH.ob) (M := 6000) (loose := LH.loose) (d := HandSHeadRun.topDef (OpenLaw.row PySem.Challenge.rw_linehand_k30_whole_histories).prog 21) (kwd := []) LH.ob_eq
    (by kernel_rfl) (fun s => by kernel_rfl) LH.run (by kernel_rfl) (by kernel_rfl) (by kernel_rfl) (by rfl) (by first | assumption | decide +kernel) (by decide +kernel) ⟨rfl, rfl, rfl, rfl, rfl, by decide +kernel⟩ ?hw ?hc
  case hw => w_witness2
  case hc =>
    refine L2.walk_ofE (l := PySem.Challenge.rw_linehand_k30_whole_histories) (n := 63) (k := 6) (x := "_law_script") (CX := LH.CXw PySem.Challenge.rw_linehand_k30_whole_histories.prog) rfl (by decide) (by kernel_rfl) ⟨rfl, by decide, by decide⟩ ?F ?X
    case X =>
      intro H s e s' ⟨_, _, _, _, _, _, _, _, _, _, _, _, _, z⟩
      exact z
    intro w mg fa h Y G hmg0
    obtain ⟨K, KX, c, x⟩ := Y
    have hmg : mg ("law" : PySem.Str) = some (.ref fa) := by
      have e : (HandSHeadRun.topDef (OpenLaw.row PySem.Challenge.rw_linehand_k30_whole_histories).prog 21).name = ("law" : PySem.Str) := by kernel_rfl
      rw [← e]
      exact hmg0
    obtain ⟨fd, hb, hF⟩ := LH.fin (P := (PySem.Challenge.rw_linehand_k30_whole_histories).prog) (w := w) KX G hmg c x
    exact ⟨K, fd, LH.spLaw K, KX, hb, fun H a ns hl _ hS => ⟨a, ns, rfl, hS, hl, fun _ => rfl⟩, fun base _ _ => hF base⟩
