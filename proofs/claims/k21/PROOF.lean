import PyProof.Rows.All
import Wide.All
import OpenK.AllK
import Wide.FinOn
import KE.KStateDown
import Lean
import HandS.Base
import HandS.Call
import HandS.List
import HandS.Comp
import HandS.Ends
import HandS.Dict
import HandS.Iter
import HandS.Text
import HandS.Walk
import HandS.Exc
import HandS.TryOnly
import HandS.ExcOwn
import HandS.ExcIs
import HandS.ExcValue
import HandS.More
import HandS.Words
import HandS.WordsList
import HandS.WordsDict
import HandS.WordsExc
import HandS.Defaults
import HandS.Flow
import HandS.Style
import HandS.StrMore
import HandS.Deep
import HandS.Small
import HandS.Head0
import HandS.Head1
import HandS.Head2
import HandS.HeadEnd
import HandS.HeadHook1
import HandS.HeadHook2
import HandS.Evl
import PySem.Challenge.RW_linehand_k21_whole_runs
set_option Elab.async false
set_option linter.all false
set_option maxRecDepth 100000
set_option maxHeartbeats 4000000
/-! ## Base: texts as lists of signs, how defs are kept and called -/
namespace LH
open PySem PySem.Spec PyProof.Rows L2

/-- a text of these signs -/
def S (l : List Nat) : Str := ⟨l.toArray⟩
theorem S_len (l : List Nat) : (S l).length = l.length := by
  unfold S Str.length
  exact List.size_toArray
theorem S_tl (l : List Nat) : (S l).cps.toList = l := by
  unfold S
  rfl
/-- an item within -/
theorem atI_in {α : Type} {l : List α} {i : Int} (h0 : 0 ≤ i) (h1 : i < l.length) : atI l i = l[i.toNat]? := by
  unfold atI ixN
  rw [if_pos h0, if_pos h1]
  rfl
theorem S_of (z : Str) : S z.cps.toList = z := rfl
theorem S_app (a b : List Nat) : S a ++ S b = S (a ++ b) := TL.ext_tl (by rw [TL.tl_append]; rfl)
theorem S_inj {a b : List Nat} : (S a = S b) = (a = b) := by
  refine propext ⟨fun h => ?_, fun h => by rw [h]⟩
  have e : (S a).cps.toList = (S b).cps.toList := by rw [h]
  exact e
theorem ofS_inj {a b : String} : (Str.ofString a = Str.ofString b) = (a = b) := by
  refine propext ⟨fun h => ?_, fun h => by rw [h]⟩
  rw [Str.ofString_eq_toList, Str.ofString_eq_toList] at h
  have h1 : (a.toList.map Char.toNat).toArray = (b.toList.map Char.toNat).toArray := by
    injection h
  have h2 : a.toList.map Char.toNat = b.toList.map Char.toNat := by
    have := congrArg Array.toList h1
    simpa using this
  have h3 : a.toList = b.toList := List.map_inj_right (fun x y e => Char.toNat_inj.mp e) |>.mp h2
  exact String.toList_inj.mp h3
theorem S_one (c : Nat) : (⟨#[c]⟩ : Str) = S [c] := rfl
theorem sline {n : Nat} (h : n ≤ 100000) : n ≤ sizeLine := Nat.le_trans h (by decide)
theorem slt {n : Nat} (h : n < 100000) : n < sizeLine := Nat.lt_of_lt_of_le h (by decide)

theorem lines : ((0 ≤ sizeLine) = True) ∧ ((1 ≤ sizeLine) = True) ∧ ((2 ≤ sizeLine) = True) ∧ ((3 ≤ sizeLine) = True) ∧ ((4 ≤ sizeLine) = True) ∧ ((5 ≤ sizeLine) = True) ∧ ((6 ≤ sizeLine) = True) ∧ ((8 ≤ sizeLine) = True) := by
  refine ⟨?_, ?_, ?_, ?_, ?_, ?_, ?_, ?_⟩ <;> exact eq_true (by decide)
/-- a slice, its ends within the text -/
theorem cut_S (l : List Nat) (i j : Int) (h0 : 0 ≤ i) (h1 : i ≤ l.length) (h2 : 0 ≤ j) (h3 : j ≤ l.length) : cutS (S l) (some i) (some j) = S ((l.drop i.toNat).take (j.toNat - i.toNat)) := by
  have e1 : HT.sIx l.length 0 (some i) = i.toNat := by
    show (if i < 0 then _ else min i.toNat l.length) = _
    rw [if_neg (by omega)]
    omega
  have e2 : HT.sIx l.length l.length (some j) = j.toNat := by
    show (if j < 0 then _ else min j.toNat l.length) = _
    rw [if_neg (by omega)]
    omega
  unfold cutS
  show (⟨((l.drop (HT.sIx l.length 0 (some i))).take (HT.sIx l.length l.length (some j) - HT.sIx l.length 0 (some i))).toArray⟩ : Str) = _
  rw [e1, e2]
  rfl

theorem cut_to (l : List Nat) (j : Int) (h : 0 ≤ j) : cutS (S l) none (some j) = S (l.take j.toNat) := by
  have e2 : HT.sIx l.length l.length (some j) = min j.toNat l.length := by
    show (if j < 0 then _ else min j.toNat l.length) = _
    rw [if_neg (by omega)]
  unfold cutS
  show (⟨((l.drop 0).take (HT.sIx l.length l.length (some j) - 0)).toArray⟩ : Str) = _
  rw [e2, List.drop_zero, Nat.sub_zero, ← List.take_eq_take_min]
  rfl
theorem cut_from (l : List Nat) (i : Int) (h : 0 ≤ i) : cutS (S l) (some i) none = S (l.drop i.toNat) := by
  have e1 : HT.sIx l.length 0 (some i) = min i.toNat l.length := by
    show (if i < 0 then _ else min i.toNat l.length) = _
    rw [if_neg (by omega)]
  unfold cutS
  show (⟨((l.drop (HT.sIx l.length 0 (some i))).take (l.length - HT.sIx l.length 0 (some i))).toArray⟩ : Str) = _
  rw [e1, List.take_of_length_le (by rw [List.length_drop]; exact Nat.le_refl _)]
  by_cases q : i.toNat ≤ l.length
  · rw [Nat.min_eq_left q]
    rfl
  · rw [Nat.min_eq_right (by omega), List.drop_eq_nil_of_le (Nat.le_refl _), List.drop_eq_nil_of_le (by omega)]
    rfl
theorem cutV_to (xs : List V) (j : Int) (h : 0 ≤ j) : cutV xs none (some j) = xs.take j.toNat := by
  have e2 : HT.sIx xs.length xs.length (some j) = min j.toNat xs.length := by
    show (if j < 0 then _ else min j.toNat xs.length) = _
    rw [if_neg (by omega)]
  unfold cutV
  show (xs.drop 0).take (HT.sIx xs.length xs.length (some j) - 0) = _
  rw [e2, List.drop_zero, Nat.sub_zero, ← List.take_eq_take_min]
theorem cutV_from (xs : List V) (i : Int) (h : 0 ≤ i) : cutV xs (some i) none = xs.drop i.toNat := by
  have e1 : HT.sIx xs.length 0 (some i) = min i.toNat xs.length := by
    show (if i < 0 then _ else min i.toNat xs.length) = _
    rw [if_neg (by omega)]
  unfold cutV
  show (xs.drop (HT.sIx xs.length 0 (some i))).take (xs.length - HT.sIx xs.length 0 (some i)) = _
  rw [e1, List.take_of_length_le (by rw [List.length_drop]; exact Nat.le_refl _)]
  by_cases q : i.toNat ≤ xs.length
  · rw [Nat.min_eq_left q]
  · rw [Nat.min_eq_right (by omega), List.drop_eq_nil_of_le (Nat.le_refl _), List.drop_eq_nil_of_le (by omega)]
/-- all but the last sign -/
theorem cut_last (l : List Nat) : cutS (S l) none (some (-1)) = S l.dropLast := by
  have e2 : HT.sIx l.length l.length (some (-1)) = l.length - 1 := by
    show (if (-1 : Int) < 0 then ((-1 : Int) + (l.length : Int)).toNat else min (-1 : Int).toNat l.length) = _
    rw [if_pos (by omega)]
    omega
  unfold cutS
  show (⟨((l.drop 0).take (HT.sIx l.length l.length (some (-1)) - 0)).toArray⟩ : Str) = _
  rw [e2, List.drop_zero, Nat.sub_zero, List.dropLast_eq_take]
  rfl
section
variable (P : Program) (w : World) (K : PySem.W.Frag) (mg : Str → Option Value) (base : Heap)
/-- the def x keeps its promise, and is called by its name -/
structure Dn (k : Nat) (x : Str) (ps : List Str) (sp : Sp) : Prop where
  ex : ∃ f fd, FnOk P w K mg base (L2.CX P w) k f fd ps sp ∧ Binds K fd ps [] ∧ mg x = some (.ref f) ∧ PySem.W.keepIn K (.ref f) = true
/-- the method m of the class at C -/
structure Mt (k : Nat) (C : Addr) (m : Str) (ps : List Str) (sp : Sp) : Prop where
  ex : ∃ f fd, FnOk P w K mg base (L2.CX P w) k f fd ps sp ∧ Binds K fd ps [] ∧ Meth K C m f
  cl : Cls K C
/-- a new one of the class x at C -/
structure Mn (k : Nat) (x : Str) (C : Addr) (ps : List Str) (sp : Sp) : Prop where
  ex : ∃ f fd, FnOk P w K mg base (L2.CX P w) k f fd ps sp ∧ Binds K fd ps [] ∧ Mk K C f
  gl : mg x = some (.ref C)
end
section
variable {X : Cx} {k : Nat} {C : Addr} {x m : Str} {ps : List Str} {sp : Sp} {E : XK} {p pos apos : Pos} {e o : Expr} {es : List Expr} {ta : TE} {t : TA}
theorem pc (D : Dn X.prog X.w X.K X.mg X.base k x ps sp) (hr : Room k X.A) (hx : Passes (L2.CX X.prog X.w) X E) (ha : PA X (e :: es) t) (hg : Gl X x := by rfl) (hdb : (x == ("__debug__" : Str)) = false := by decide)
    (he : starEach (e :: es) X.env = (false, eval e X.env) :: starEach es X.env := by rfl) (hpl : (backTo pos (starEach es X.env)).any (·.1) = false := by rfl) : PE X (.Call (.Name x p) (e :: es) [] pos) (tCall sp [] E t) := by
  obtain ⟨f, fd, F, b, hm, kp⟩ := D.ex
  exact pe_call F hr hg hm kp b .nil hx ha hdb he hpl
theorem pc0 (D : Dn X.prog X.w X.K X.mg X.base k x ps sp) (hr : Room k X.A) (hx : Passes (L2.CX X.prog X.w) X E) (hg : Gl X x := by rfl) (hdb : (x == ("__debug__" : Str)) = false := by decide) : PE X (.Call (.Name x p) [] [] pos) (tCall sp [] E tNil) := by
  obtain ⟨f, fd, F, b, hm, kp⟩ := D.ex
  exact pe_call0 F hr hg hm kp b .nil hx hdb
theorem pm {pl : Sem Bool} (M : Mt X.prog X.w X.K X.mg X.base k C m ps sp) (hr : Room k X.A) (hx : Passes (L2.CX X.prog X.w) X E) (ho : PE X o ta) (ha : PA X (e :: es) t)
    (hst : starEach (e :: es) X.env = (false, eval e X.env) :: starEach es X.env := by rfl) (hpl : (backTo pos (starEach es X.env)).any (·.1) = false := by rfl)
    (ht : eval (.Call (.Attribute o m apos) (e :: es) [] pos) X.env = (do
      let ov ← eval o X.env
      standAt apos.atName
      let (f, first) ← holding [ov] (getMethod ov m pl)
      callWith pos f first (backTo pos (starEach (e :: es) X.env)) (backToKw pos (keywordEach [] X.env))) := by rfl) : PE X (.Call (.Attribute o m apos) (e :: es) [] pos) (tMeth C m sp [] E ta t) := by
  obtain ⟨f, fd, F, b, hm⟩ := M.ex
  exact pe_meth ho M.cl hm F hr b .nil hx ha hst hpl ht
theorem pm0 {pl : Sem Bool} (M : Mt X.prog X.w X.K X.mg X.base k C m ps sp) (hr : Room k X.A) (hx : Passes (L2.CX X.prog X.w) X E) (ho : PE X o ta)
    (ht : eval (.Call (.Attribute o m apos) [] [] pos) X.env = (do
      let ov ← eval o X.env
      standAt apos.atName
      let (f, first) ← holding [ov] (getMethod ov m pl)
      callWith pos f first (backTo pos (starEach [] X.env)) (backToKw pos (keywordEach [] X.env))) := by rfl) : PE X (.Call (.Attribute o m apos) [] [] pos) (tMeth C m sp [] E ta tNil) := by
  obtain ⟨f, fd, F, b, hm⟩ := M.ex
  exact pe_meth0 ho M.cl hm F hr b .nil hx ht
theorem pn (D : Mn X.prog X.w X.K X.mg X.base k x C ps sp) (hr : Room (k + 1) X.A) (hx : Passes (L2.CX X.prog X.w) X E) (ha : PA X (e :: es) t) (hg : Gl X x := by rfl) (hdb : (x == ("__debug__" : Str)) = false := by decide)
    (he : starEach (e :: es) X.env = (false, eval e X.env) :: starEach es X.env := by rfl) (hpl : (backTo pos (starEach es X.env)).any (·.1) = false := by rfl) : PE X (.Call (.Name x p) (e :: es) [] pos) (tMake C sp [] E t) := by
  obtain ⟨f, fd, F, b, M⟩ := D.ex
  exact pe_make M F hr hg D.gl b .nil hx ha hdb he hpl
end
/-- in a def's own body: what a callee lets out is let out -/
theorem px {P : Program} {w : World} {K : PySem.W.Frag} {mg : Str → Option Value} {base : Heap} {N : List Str} {qual : Str} {scope : Scope} {f : Addr} {cd : Value} {A : Around} {outer : List Env} {s : Shared} {H : Hp} {E : XK} :
    Passes (L2.CX P w) (cxOf (L2.CX P w) P w K mg base N qual scope f cd A outer s H E) E :=
  passes_call (takes_of rfl rfl rfl rfl) fun _ _ _ _ h => h
end LH
namespace LH
open PySem PySem.Spec PyProof.Rows L2
section
variable {P : Program} {w : World} {K : PySem.W.Frag} {mg : Str → Option Value} {base : Heap} {x : Str} {st : Stmt} {N ps : List Str} {k : Nat} {sp : Sp}
/-- how the arguments bind, whatever the def's other fields are -/
def Bnd (x qual : Str) (st : Stmt) (ps : List Str) : Prop :=
  ∀ (kV doc pm : Value) (an : Option Addr) (cdv ct : Value) (us : List Value), us.length = ps.length → bindArgs (PySem.W.fnOf x qual (defArgs st) (defBody st) (defScope st) .none kV doc pm an cdv ct) ⟨us, []⟩ = pure (ps.zip us)
/-- what a def's body is to show -/
abbrev BodyOk (P : Program) (w : World) (K : PySem.W.Frag) (mg : Str → Option Value) (base : Heap) (N : List Str) (qual : Str) (st : Stmt) (f : Addr) (k : Nat) (sp : Sp) : Prop :=
  ∀ (cdv : Value) (A : Around) (outer : List Env) (s : Shared) (H : Hp) (vs : List V) (Q : VK) (E : XK), Room k (A.deeper (envOfC qual (defScope st) s.heap.objs.size f cdv)) → sp vs H Q E →
      ∃ t, PSs (cxOf (L2.CX P w) P w K mg base N qual (defScope st) f cdv A outer s H E) (defBody st) t ∧ t { nx := fun _ H' => Q .non H', rt := Q } (start N vs) H
theorem dn_of (F : ∃ fd, FunD K x x (defArgs st) (defBody st) (defScope st) [] [] (He.fAd K (x, none)) fd) (g : mg x = some (.ref (He.ga K x))) (S : FnScope N ps (defScope st)) (b : Bnd x x st ps) (len : ∀ vs H Q E, sp vs H Q E → vs.length = ps.length)
    (h : BodyOk P w K mg base N x st (He.fAd K (x, none)) k sp) : Dn P w K mg base (k + 1) x ps sp := by
  obtain ⟨fd, F⟩ := F
  exact ⟨_, fd, F.ok S len h, F.bindsN b, g, F.kp⟩
theorem mt_of {c m q : Str} (F : ∃ fd, FunD K m q (defArgs st) (defBody st) (defScope st) [] [] (He.fAd K (c, some m)) fd) (cl : Cls K (He.ga K c)) (me : Meth K (He.ga K c) m (He.ma K (He.ga K c) m)) (S : FnScope N ps (defScope st)) (b : Bnd m q st ps) (len : ∀ vs H Q E, sp vs H Q E → vs.length = ps.length)
    (h : BodyOk P w K mg base N q st (He.fAd K (c, some m)) k sp) : Mt P w K mg base (k + 1) (He.ga K c) m ps sp := by
  obtain ⟨fd, F⟩ := F
  exact ⟨⟨_, fd, F.ok S len h, F.bindsN b, me⟩, cl⟩
theorem mn_of {c q : Str} (F : ∃ fd, FunD K "__init__" q (defArgs st) (defBody st) (defScope st) [] [] (He.fAd K (c, some "__init__")) fd) (M : Mk K (He.ga K c) (He.ma K (He.ga K c) "__init__")) (g : mg c = some (.ref (He.ga K c))) (S : FnScope N ps (defScope st)) (b : Bnd "__init__" q st ps) (len : ∀ vs H Q E, sp vs H Q E → vs.length = ps.length)
    (h : BodyOk P w K mg base N q st (He.fAd K (c, some "__init__")) k sp) : Mn P w K mg base (k + 1) c (He.ga K c) ps sp := by
  obtain ⟨fd, F⟩ := F
  exact ⟨⟨_, fd, F.ok S len h, F.bindsN b, M⟩, g⟩
end
end LH
namespace LH
open PySem PySem.Spec PyProof.Rows L2
section
variable {X : Cx} {x : Str} {pos : Pos}
/-- a module's constant: a number, a text, an object -/
theorem pgi {i : Int} (hm : ∃ t, X.mg x = some (.int i t)) (hg : Gl X x := by rfl) (hd : (x == ("__debug__" : Str)) = false := by decide) : PE X (.Name x pos) (tC (.int i)) := by
  obtain ⟨t, hm⟩ := hm
  exact pe_glob hg hm ⟨t, rfl⟩ hd
theorem pgs {z : Str} (hm : ∃ t, X.mg x = some (.str z t)) (hg : Gl X x := by rfl) (hd : (x == ("__debug__" : Str)) = false := by decide) : PE X (.Name x pos) (tC (.str z)) := by
  obtain ⟨t, hm⟩ := hm
  exact pe_glob hg hm ⟨t, rfl⟩ hd
theorem pgr {a : Addr} (hm : X.mg x = some (.ref a)) (hg : Gl X x := by rfl) (hd : (x == ("__debug__" : Str)) = false := by decide) : PE X (.Name x pos) (tC (.ref a)) := pe_glob hg hm rfl hd
/-- in a comprehension's block nothing is let out -/
theorem px0 : Passes (L2.CX X.prog X.w) X E0 := passL
/-- written texts, one behind the other -/
def lits : List Expr → Option (List Str)
  | [] => some []
  | .Constant (.str x) _ _ :: r => (lits r).map (x :: ·)
  | _ => none
def tLits (xs : List Str) : TA := fun _ H Q => Q (xs.map V.str) H
theorem pa_lits : ∀ {es : List Expr} {xs : List Str}, lits es = some xs → PA X es (tLits xs)
  | [], xs, h => by
    have e : ([] : List Str) = xs := Option.some.inj h
    subst e
    exact ⟨fun pos pins s σ H Q I q => (pa_nil (X := X)).run pos pins s σ H Q I q⟩
  | e :: r, xs, h => by
    match e, h with
    | .Constant (.str x) j p, h =>
      have h1 : (lits r).map (x :: ·) = some xs := h
      cases e : lits r with
      | none =>
        rw [e] at h1
        cases h1
      | some ys =>
        rw [e] at h1
        have e2 : x :: ys = xs := Option.some.inj h1
        subst e2
        have p1 := pa_cons (X := X) (pe_str (x := x) (j := j) (pos := p)) (pa_lits e) rfl
        exact ⟨fun pos pins s σ H Q I q => p1.run pos pins s σ H Q I q⟩
end
end LH
namespace LH
open PySem PySem.Spec PyProof.Rows L2
/-! ### the Hook: He's facts, and more by Bools of one's own -/
def excB (K : PySem.W.Frag) (C : Addr) : Bool :=
  decide (PySem.W.findIn K (.ref C) "__getattribute__" = some (some (.builtin "BaseException.__getattribute__"))) && (decide (PySem.W.findIn K (.ref C) "__getattr__" = some none) &&
  (decide (PySem.W.subIn K (.ref C) (.type "BaseException") = some true) && (PySem.W.hasDictIn K C && (decide (PySem.W.findIn K (.ref C) "__class__" = some (some (.builtin "object.__class__"))) &&
  (decide (PySem.W.specialIn K (.builtin "object.__class__") "__get__" = some (some (.builtin "getset_descriptor.__get__"))) && (decide (PySem.W.takesIn K (.builtin "object.__class__") = some true) && decide (PySem.W.mroIn K C (.type "object") = some true)))))))
theorem excB_ok {K : PySem.W.Frag} {C : Addr} (h : excB K C = true) : ExcC K C := by
  unfold excB at h
  simp only [Bool.and_eq_true, decide_eq_true_eq] at h
  obtain ⟨h1, h2, h3, h4, h5, h6, h7, h8⟩ := h
  exact ⟨h1, h2, h3, h4, h5, h6, h7, h8⟩
def kitB (K : PySem.W.Frag) (C : Addr) (v : Value) (b : Bool) : Bool := decide (PySem.W.kitOne K (.ref C) v = some b)
theorem kitB_ok {K : PySem.W.Frag} {C : Addr} {v : Value} {b : Bool} (h : kitB K C v b = true) : PySem.W.kitOne K (.ref C) v = some b := of_decide_eq_true h
def obsM (fa : List He.Fa) (fn : List He.DefD) (ex : List (PySem.W.Frag → Bool)) (K : PySem.W.Frag) : He.AlD × Bool := (He.obsD fa fn K, ex.all fun f => f K)
def hookM (n : Nat) (fa : List He.Fa) (fn : List He.DefD) (ex : List (PySem.W.Frag → Bool)) : PySem.W.Hook where
  α := He.AlD × Bool
  obs := fun s => obsM fa fn ex (He.frG s.heap.get? (He.asD s.heap.get? n))
  val := fun _ => (He.valD fn, true)
  says := fun _ h => ∃ K : PySem.W.Frag, K.In h ∧ He.SaysD fa fn K ∧ (ex.all fun f => f K) = true
  of := fun _ _ e => ⟨_, He.frG_in, congrArg Prod.fst e, congrArg Prod.snd e⟩
  keeps := fun _ _ _ ⟨K, hK, c⟩ k => ⟨K, PySem.W.Frag.In.keeps hK k, c⟩
theorem ex_at {ex : List (PySem.W.Frag → Bool)} {K : PySem.W.Frag} (h : (ex.all fun f => f K) = true) (i : Nat) {f : PySem.W.Frag → Bool} (e : ex[i]? = some f := by rfl) : f K = true := List.all_eq_true.mp h f (List.mem_of_getElem? e)
end LH
/-! ## Top: the text by places, what the top leaves -/
namespace LH
open PySem PySem.Spec PyProof.Rows L2
abbrev pw : Program := PySem.Challenge.pw_linehand_k21_whole_runs
def top (i : Nat) : Stmt := pw.main.body.getD i (.Pass ⟨0, 0, 0, 0⟩)
abbrev s_is_sign : Stmt := top 7
abbrev s_look_text : Stmt := top 8
abbrev s_look_place : Stmt := top 9
abbrev s_Line_init : Stmt := inClass (top 12) 0
abbrev s_Line_text : Stmt := inClass (top 12) 1
abbrev s_Line_at : Stmt := inClass (top 12) 2
abbrev s_Line_go : Stmt := inClass (top 12) 4
abbrev s_Line_put_mark : Stmt := inClass (top 12) 6
abbrev s_Line_picture : Stmt := inClass (top 12) 7
abbrev s_Line_show : Stmt := inClass (top 12) 8
abbrev s_Line_change : Stmt := inClass (top 12) 9
abbrev s_Line_check : Stmt := inClass (top 12) 10
abbrev s_Line_replace : Stmt := inClass (top 12) 11
abbrev s_Line_write : Stmt := inClass (top 12) 12
abbrev s_Line_undo : Stmt := inClass (top 12) 13
abbrev s_Line_redo : Stmt := inClass (top 12) 14
abbrev s_Line_groups : Stmt := inClass (top 12) 16
abbrev s_l_cell : Stmt := top 14
abbrev s_l_mix : Stmt := top 15
abbrev s_l_draw : Stmt := top 16
abbrev s_l_pick : Stmt := top 17
abbrev s_law : Stmt := top 18
def fn0 : List He.DefD := [
  ⟨("is_sign", none), "is_sign", "is_sign", defArgs s_is_sign, defBody s_is_sign, defScope s_is_sign, [], []⟩,
  ⟨("look_text", none), "look_text", "look_text", defArgs s_look_text, defBody s_look_text, defScope s_look_text, [], []⟩,
  ⟨("look_place", none), "look_place", "look_place", defArgs s_look_place, defBody s_look_place, defScope s_look_place, [], []⟩,
  ⟨("Line", some "__init__"), "__init__", "Line.__init__", defArgs s_Line_init, defBody s_Line_init, defScope s_Line_init, [], []⟩,
  ⟨("Line", some "text"), "text", "Line.text", defArgs s_Line_text, defBody s_Line_text, defScope s_Line_text, [], []⟩,
  ⟨("Line", some "at"), "at", "Line.at", defArgs s_Line_at, defBody s_Line_at, defScope s_Line_at, [], []⟩,
  ⟨("Line", some "go"), "go", "Line.go", defArgs s_Line_go, defBody s_Line_go, defScope s_Line_go, [], []⟩,
  ⟨("Line", some "put_mark"), "put_mark", "Line.put_mark", defArgs s_Line_put_mark, defBody s_Line_put_mark, defScope s_Line_put_mark, [], []⟩,
  ⟨("Line", some "picture"), "picture", "Line.picture", defArgs s_Line_picture, defBody s_Line_picture, defScope s_Line_picture, [], []⟩,
  ⟨("Line", some "show"), "show", "Line.show", defArgs s_Line_show, defBody s_Line_show, defScope s_Line_show, [], []⟩,
  ⟨("Line", some "change"), "change", "Line.change", defArgs s_Line_change, defBody s_Line_change, defScope s_Line_change, [], []⟩,
  ⟨("Line", some "check"), "check", "Line.check", defArgs s_Line_check, defBody s_Line_check, defScope s_Line_check, [], []⟩,
  ⟨("Line", some "replace"), "replace", "Line.replace", defArgs s_Line_replace, defBody s_Line_replace, defScope s_Line_replace, [], []⟩,
  ⟨("Line", some "write"), "write", "Line.write", defArgs s_Line_write, defBody s_Line_write, defScope s_Line_write, [], []⟩,
  ⟨("Line", some "undo"), "undo", "Line.undo", defArgs s_Line_undo, defBody s_Line_undo, defScope s_Line_undo, [], []⟩,
  ⟨("Line", some "redo"), "redo", "Line.redo", defArgs s_Line_redo, defBody s_Line_redo, defScope s_Line_redo, [], []⟩,
  ⟨("Line", some "groups"), "groups", "Line.groups", defArgs s_Line_groups, defBody s_Line_groups, defScope s_Line_groups, [], []⟩,
  ⟨("_law_cell", none), "_law_cell", "_law_cell", defArgs s_l_cell, defBody s_l_cell, defScope s_l_cell, [], []⟩,
  ⟨("_law_mix", none), "_law_mix", "_law_mix", defArgs s_l_mix, defBody s_l_mix, defScope s_l_mix, [], []⟩,
  ⟨("_law_draw", none), "_law_draw", "_law_draw", defArgs s_l_draw, defBody s_l_draw, defScope s_l_draw, [], []⟩,
  ⟨("_law_pick", none), "_law_pick", "_law_pick", defArgs s_l_pick, defBody s_l_pick, defScope s_l_pick, [], []⟩,
  ⟨("law", none), "law", "law", defArgs s_law, defBody s_law, defScope s_law, [], []⟩]
def fn : List He.DefD := fn0
def fa0 : List He.Fa := [
  .glo "_wall",
  .glo "HandError",
  .glo "BadText",
  .glo "BadPlace",
  .int "MOST_TEXT" 400,
  .glo "is_sign",
  .glo "look_text",
  .glo "look_place",
  .int "MOST_RUN" 20,
  .glo "Line",
  .glo "_law_cell",
  .glo "_law_mix",
  .glo "_law_draw",
  .glo "_law_pick",
  .glo "law",
  .free "ValueError",
  .free "all",
  .free "len",
  .free "ord",
  .free "range",
  .cls "Line",
  .noat "Line" "now",
  .noat "Line" "caret",
  .noat "Line" "mark",
  .noat "Line" "before",
  .noat "Line" "later",
  .noat "Line" "run",
  .meth "Line" "text",
  .meth "Line" "at",
  .meth "Line" "go"]
def fa1 : List He.Fa := [
  .meth "Line" "put_mark",
  .meth "Line" "picture",
  .meth "Line" "show",
  .meth "Line" "change",
  .meth "Line" "check",
  .meth "Line" "replace",
  .meth "Line" "write",
  .meth "Line" "undo",
  .meth "Line" "redo",
  .meth "Line" "groups",
  .mkr "Line",
  .exc "BadText",
  .exc "BadPlace",
  .keep "HandError",
  .keep "BadText",
  .keep "BadPlace",
  .exm "BadText" "HandError" true,
  .exm "BadPlace" "HandError" true]
def fa : List He.Fa := fa0 ++ fa1
def loose0 : List Str := [
  "_wall",
  "HandError",
  "BadText",
  "BadPlace",
  "MOST_TEXT",
  "is_sign",
  "look_text",
  "look_place",
  "MOST_RUN",
  "Line",
  "_law_cell",
  "_law_mix",
  "_law_draw",
  "_law_pick"]
def loose : List Str := loose0
def exs : List (PySem.W.Frag → Bool) := []
/-- what the top has left -/
structure TX (K : PySem.W.Frag) (mg : Str → Option Value) : Prop where
  ex : ∃ h : Heap, K.In h ∧ h.Ns mainGlobals mg
  c : He.SaysD fa fn K
  x : (exs.all fun f => f K) = true
section
variable {K : PySem.W.Frag} {mg : Str → Option Value}
theorem g__wall (T : TX K mg) : mg "_wall" = some (.ref (He.ga K "_wall")) := by obtain ⟨h, X, G⟩ := T.ex; exact He.glo_ok X G (T.c.fact 0)
theorem g_HandError (T : TX K mg) : mg "HandError" = some (.ref (He.ga K "HandError")) := by obtain ⟨h, X, G⟩ := T.ex; exact He.glo_ok X G (T.c.fact 1)
theorem g_BadText (T : TX K mg) : mg "BadText" = some (.ref (He.ga K "BadText")) := by obtain ⟨h, X, G⟩ := T.ex; exact He.glo_ok X G (T.c.fact 2)
theorem g_BadPlace (T : TX K mg) : mg "BadPlace" = some (.ref (He.ga K "BadPlace")) := by obtain ⟨h, X, G⟩ := T.ex; exact He.glo_ok X G (T.c.fact 3)
theorem i_MOST_TEXT (T : TX K mg) : ∃ t, mg "MOST_TEXT" = some (.int 400 t) := by obtain ⟨h, X, G⟩ := T.ex; exact He.int_ok X G (T.c.fact 4)
theorem g_is_sign (T : TX K mg) : mg "is_sign" = some (.ref (He.ga K "is_sign")) := by obtain ⟨h, X, G⟩ := T.ex; exact He.glo_ok X G (T.c.fact 5)
theorem g_look_text (T : TX K mg) : mg "look_text" = some (.ref (He.ga K "look_text")) := by obtain ⟨h, X, G⟩ := T.ex; exact He.glo_ok X G (T.c.fact 6)
theorem g_look_place (T : TX K mg) : mg "look_place" = some (.ref (He.ga K "look_place")) := by obtain ⟨h, X, G⟩ := T.ex; exact He.glo_ok X G (T.c.fact 7)
theorem i_MOST_RUN (T : TX K mg) : ∃ t, mg "MOST_RUN" = some (.int 20 t) := by obtain ⟨h, X, G⟩ := T.ex; exact He.int_ok X G (T.c.fact 8)
theorem g_Line (T : TX K mg) : mg "Line" = some (.ref (He.ga K "Line")) := by obtain ⟨h, X, G⟩ := T.ex; exact He.glo_ok X G (T.c.fact 9)
theorem g__law_cell (T : TX K mg) : mg "_law_cell" = some (.ref (He.ga K "_law_cell")) := by obtain ⟨h, X, G⟩ := T.ex; exact He.glo_ok X G (T.c.fact 10)
theorem g__law_mix (T : TX K mg) : mg "_law_mix" = some (.ref (He.ga K "_law_mix")) := by obtain ⟨h, X, G⟩ := T.ex; exact He.glo_ok X G (T.c.fact 11)
theorem g__law_draw (T : TX K mg) : mg "_law_draw" = some (.ref (He.ga K "_law_draw")) := by obtain ⟨h, X, G⟩ := T.ex; exact He.glo_ok X G (T.c.fact 12)
theorem g__law_pick (T : TX K mg) : mg "_law_pick" = some (.ref (He.ga K "_law_pick")) := by obtain ⟨h, X, G⟩ := T.ex; exact He.glo_ok X G (T.c.fact 13)
theorem g_law (T : TX K mg) : mg "law" = some (.ref (He.ga K "law")) := by obtain ⟨h, X, G⟩ := T.ex; exact He.glo_ok X G (T.c.fact 14)
theorem b_ValueError (T : TX K mg) : mg "ValueError" = none := by obtain ⟨h, X, G⟩ := T.ex; exact He.free_ok X G (T.c.fact 15)
theorem b_all (T : TX K mg) : mg "all" = none := by obtain ⟨h, X, G⟩ := T.ex; exact He.free_ok X G (T.c.fact 16)
theorem b_len (T : TX K mg) : mg "len" = none := by obtain ⟨h, X, G⟩ := T.ex; exact He.free_ok X G (T.c.fact 17)
theorem b_ord (T : TX K mg) : mg "ord" = none := by obtain ⟨h, X, G⟩ := T.ex; exact He.free_ok X G (T.c.fact 18)
theorem b_range (T : TX K mg) : mg "range" = none := by obtain ⟨h, X, G⟩ := T.ex; exact He.free_ok X G (T.c.fact 19)
theorem cl_Line (T : TX K mg) : Cls K (He.ga K "Line") := He.cls_ok (T.c.fact 20)
theorem na_Line_now (T : TX K mg) : NoAttr K (He.ga K "Line") "now" := He.noat_ok (T.c.fact 21)
theorem na_Line_caret (T : TX K mg) : NoAttr K (He.ga K "Line") "caret" := He.noat_ok (T.c.fact 22)
theorem na_Line_mark (T : TX K mg) : NoAttr K (He.ga K "Line") "mark" := He.noat_ok (T.c.fact 23)
theorem na_Line_before (T : TX K mg) : NoAttr K (He.ga K "Line") "before" := He.noat_ok (T.c.fact 24)
theorem na_Line_later (T : TX K mg) : NoAttr K (He.ga K "Line") "later" := He.noat_ok (T.c.fact 25)
theorem na_Line_run (T : TX K mg) : NoAttr K (He.ga K "Line") "run" := He.noat_ok (T.c.fact 26)
theorem me_Line_text (T : TX K mg) : Meth K (He.ga K "Line") "text" (He.ma K (He.ga K "Line") "text") := He.meth_ok (T.c.fact 27)
theorem me_Line_at (T : TX K mg) : Meth K (He.ga K "Line") "at" (He.ma K (He.ga K "Line") "at") := He.meth_ok (T.c.fact 28)
theorem me_Line_go (T : TX K mg) : Meth K (He.ga K "Line") "go" (He.ma K (He.ga K "Line") "go") := He.meth_ok (T.c.fact 29)
theorem me_Line_put_mark (T : TX K mg) : Meth K (He.ga K "Line") "put_mark" (He.ma K (He.ga K "Line") "put_mark") := He.meth_ok (T.c.fact 30)
theorem me_Line_picture (T : TX K mg) : Meth K (He.ga K "Line") "picture" (He.ma K (He.ga K "Line") "picture") := He.meth_ok (T.c.fact 31)
theorem me_Line_show (T : TX K mg) : Meth K (He.ga K "Line") "show" (He.ma K (He.ga K "Line") "show") := He.meth_ok (T.c.fact 32)
theorem me_Line_change (T : TX K mg) : Meth K (He.ga K "Line") "change" (He.ma K (He.ga K "Line") "change") := He.meth_ok (T.c.fact 33)
theorem me_Line_check (T : TX K mg) : Meth K (He.ga K "Line") "check" (He.ma K (He.ga K "Line") "check") := He.meth_ok (T.c.fact 34)
theorem me_Line_replace (T : TX K mg) : Meth K (He.ga K "Line") "replace" (He.ma K (He.ga K "Line") "replace") := He.meth_ok (T.c.fact 35)
theorem me_Line_write (T : TX K mg) : Meth K (He.ga K "Line") "write" (He.ma K (He.ga K "Line") "write") := He.meth_ok (T.c.fact 36)
theorem me_Line_undo (T : TX K mg) : Meth K (He.ga K "Line") "undo" (He.ma K (He.ga K "Line") "undo") := He.meth_ok (T.c.fact 37)
theorem me_Line_redo (T : TX K mg) : Meth K (He.ga K "Line") "redo" (He.ma K (He.ga K "Line") "redo") := He.meth_ok (T.c.fact 38)
theorem me_Line_groups (T : TX K mg) : Meth K (He.ga K "Line") "groups" (He.ma K (He.ga K "Line") "groups") := He.meth_ok (T.c.fact 39)
theorem mk_Line (T : TX K mg) : Mk K (He.ga K "Line") (He.ma K (He.ga K "Line") "__init__") := He.mkr_ok (T.c.fact 40)
theorem xc_BadText (T : TX K mg) : PySem.W.excIn K (He.ga K "BadText") He.veBase "ValueError.__new__" = true ∧ PySem.W.keepIn K (.ref (He.ga K "BadText")) = true ∧ PySem.W.subIn K (.ref (He.ga K "BadText")) (.type "BaseException") = some true ∧ PySem.W.typeIn K (.ref (He.ga K "BadText")) = some (.type "type") := He.exc_ok (T.c.fact 41)
theorem xc_BadPlace (T : TX K mg) : PySem.W.excIn K (He.ga K "BadPlace") He.veBase "ValueError.__new__" = true ∧ PySem.W.keepIn K (.ref (He.ga K "BadPlace")) = true ∧ PySem.W.subIn K (.ref (He.ga K "BadPlace")) (.type "BaseException") = some true ∧ PySem.W.typeIn K (.ref (He.ga K "BadPlace")) = some (.type "type") := He.exc_ok (T.c.fact 42)
theorem xm_BadText (T : TX K mg) : PySem.W.exmOne K (.ref (He.ga K "BadText")) (.ref (He.ga K "HandError")) = some true := He.exm_ok (T.c.fact 46)
theorem xm_BadPlace (T : TX K mg) : PySem.W.exmOne K (.ref (He.ga K "BadPlace")) (.ref (He.ga K "HandError")) = some true := He.exm_ok (T.c.fact 47)
theorem fn_is_sign (T : TX K mg) : ∃ fd, FunD K "is_sign" "is_sign" (defArgs s_is_sign) (defBody s_is_sign) (defScope s_is_sign) [] [] (He.fAd K ("is_sign", none)) fd := T.c.def_ 0 (d := ⟨("is_sign", none), "is_sign", "is_sign", defArgs s_is_sign, defBody s_is_sign, defScope s_is_sign, [], []⟩)
theorem fn_look_text (T : TX K mg) : ∃ fd, FunD K "look_text" "look_text" (defArgs s_look_text) (defBody s_look_text) (defScope s_look_text) [] [] (He.fAd K ("look_text", none)) fd := T.c.def_ 1 (d := ⟨("look_text", none), "look_text", "look_text", defArgs s_look_text, defBody s_look_text, defScope s_look_text, [], []⟩)
theorem fn_look_place (T : TX K mg) : ∃ fd, FunD K "look_place" "look_place" (defArgs s_look_place) (defBody s_look_place) (defScope s_look_place) [] [] (He.fAd K ("look_place", none)) fd := T.c.def_ 2 (d := ⟨("look_place", none), "look_place", "look_place", defArgs s_look_place, defBody s_look_place, defScope s_look_place, [], []⟩)
theorem fn_Line_init (T : TX K mg) : ∃ fd, FunD K "__init__" "Line.__init__" (defArgs s_Line_init) (defBody s_Line_init) (defScope s_Line_init) [] [] (He.fAd K ("Line", some "__init__")) fd := T.c.def_ 3 (d := ⟨("Line", some "__init__"), "__init__", "Line.__init__", defArgs s_Line_init, defBody s_Line_init, defScope s_Line_init, [], []⟩)
theorem fn_Line_text (T : TX K mg) : ∃ fd, FunD K "text" "Line.text" (defArgs s_Line_text) (defBody s_Line_text) (defScope s_Line_text) [] [] (He.fAd K ("Line", some "text")) fd := T.c.def_ 4 (d := ⟨("Line", some "text"), "text", "Line.text", defArgs s_Line_text, defBody s_Line_text, defScope s_Line_text, [], []⟩)
theorem fn_Line_at (T : TX K mg) : ∃ fd, FunD K "at" "Line.at" (defArgs s_Line_at) (defBody s_Line_at) (defScope s_Line_at) [] [] (He.fAd K ("Line", some "at")) fd := T.c.def_ 5 (d := ⟨("Line", some "at"), "at", "Line.at", defArgs s_Line_at, defBody s_Line_at, defScope s_Line_at, [], []⟩)
theorem fn_Line_go (T : TX K mg) : ∃ fd, FunD K "go" "Line.go" (defArgs s_Line_go) (defBody s_Line_go) (defScope s_Line_go) [] [] (He.fAd K ("Line", some "go")) fd := T.c.def_ 6 (d := ⟨("Line", some "go"), "go", "Line.go", defArgs s_Line_go, defBody s_Line_go, defScope s_Line_go, [], []⟩)
theorem fn_Line_put_mark (T : TX K mg) : ∃ fd, FunD K "put_mark" "Line.put_mark" (defArgs s_Line_put_mark) (defBody s_Line_put_mark) (defScope s_Line_put_mark) [] [] (He.fAd K ("Line", some "put_mark")) fd := T.c.def_ 7 (d := ⟨("Line", some "put_mark"), "put_mark", "Line.put_mark", defArgs s_Line_put_mark, defBody s_Line_put_mark, defScope s_Line_put_mark, [], []⟩)
theorem fn_Line_picture (T : TX K mg) : ∃ fd, FunD K "picture" "Line.picture" (defArgs s_Line_picture) (defBody s_Line_picture) (defScope s_Line_picture) [] [] (He.fAd K ("Line", some "picture")) fd := T.c.def_ 8 (d := ⟨("Line", some "picture"), "picture", "Line.picture", defArgs s_Line_picture, defBody s_Line_picture, defScope s_Line_picture, [], []⟩)
theorem fn_Line_show (T : TX K mg) : ∃ fd, FunD K "show" "Line.show" (defArgs s_Line_show) (defBody s_Line_show) (defScope s_Line_show) [] [] (He.fAd K ("Line", some "show")) fd := T.c.def_ 9 (d := ⟨("Line", some "show"), "show", "Line.show", defArgs s_Line_show, defBody s_Line_show, defScope s_Line_show, [], []⟩)
theorem fn_Line_change (T : TX K mg) : ∃ fd, FunD K "change" "Line.change" (defArgs s_Line_change) (defBody s_Line_change) (defScope s_Line_change) [] [] (He.fAd K ("Line", some "change")) fd := T.c.def_ 10 (d := ⟨("Line", some "change"), "change", "Line.change", defArgs s_Line_change, defBody s_Line_change, defScope s_Line_change, [], []⟩)
theorem fn_Line_check (T : TX K mg) : ∃ fd, FunD K "check" "Line.check" (defArgs s_Line_check) (defBody s_Line_check) (defScope s_Line_check) [] [] (He.fAd K ("Line", some "check")) fd := T.c.def_ 11 (d := ⟨("Line", some "check"), "check", "Line.check", defArgs s_Line_check, defBody s_Line_check, defScope s_Line_check, [], []⟩)
theorem fn_Line_replace (T : TX K mg) : ∃ fd, FunD K "replace" "Line.replace" (defArgs s_Line_replace) (defBody s_Line_replace) (defScope s_Line_replace) [] [] (He.fAd K ("Line", some "replace")) fd := T.c.def_ 12 (d := ⟨("Line", some "replace"), "replace", "Line.replace", defArgs s_Line_replace, defBody s_Line_replace, defScope s_Line_replace, [], []⟩)
theorem fn_Line_write (T : TX K mg) : ∃ fd, FunD K "write" "Line.write" (defArgs s_Line_write) (defBody s_Line_write) (defScope s_Line_write) [] [] (He.fAd K ("Line", some "write")) fd := T.c.def_ 13 (d := ⟨("Line", some "write"), "write", "Line.write", defArgs s_Line_write, defBody s_Line_write, defScope s_Line_write, [], []⟩)
theorem fn_Line_undo (T : TX K mg) : ∃ fd, FunD K "undo" "Line.undo" (defArgs s_Line_undo) (defBody s_Line_undo) (defScope s_Line_undo) [] [] (He.fAd K ("Line", some "undo")) fd := T.c.def_ 14 (d := ⟨("Line", some "undo"), "undo", "Line.undo", defArgs s_Line_undo, defBody s_Line_undo, defScope s_Line_undo, [], []⟩)
theorem fn_Line_redo (T : TX K mg) : ∃ fd, FunD K "redo" "Line.redo" (defArgs s_Line_redo) (defBody s_Line_redo) (defScope s_Line_redo) [] [] (He.fAd K ("Line", some "redo")) fd := T.c.def_ 15 (d := ⟨("Line", some "redo"), "redo", "Line.redo", defArgs s_Line_redo, defBody s_Line_redo, defScope s_Line_redo, [], []⟩)
theorem fn_Line_groups (T : TX K mg) : ∃ fd, FunD K "groups" "Line.groups" (defArgs s_Line_groups) (defBody s_Line_groups) (defScope s_Line_groups) [] [] (He.fAd K ("Line", some "groups")) fd := T.c.def_ 16 (d := ⟨("Line", some "groups"), "groups", "Line.groups", defArgs s_Line_groups, defBody s_Line_groups, defScope s_Line_groups, [], []⟩)
theorem fn_l_cell (T : TX K mg) : ∃ fd, FunD K "_law_cell" "_law_cell" (defArgs s_l_cell) (defBody s_l_cell) (defScope s_l_cell) [] [] (He.fAd K ("_law_cell", none)) fd := T.c.def_ 17 (d := ⟨("_law_cell", none), "_law_cell", "_law_cell", defArgs s_l_cell, defBody s_l_cell, defScope s_l_cell, [], []⟩)
theorem fn_l_mix (T : TX K mg) : ∃ fd, FunD K "_law_mix" "_law_mix" (defArgs s_l_mix) (defBody s_l_mix) (defScope s_l_mix) [] [] (He.fAd K ("_law_mix", none)) fd := T.c.def_ 18 (d := ⟨("_law_mix", none), "_law_mix", "_law_mix", defArgs s_l_mix, defBody s_l_mix, defScope s_l_mix, [], []⟩)
theorem fn_l_draw (T : TX K mg) : ∃ fd, FunD K "_law_draw" "_law_draw" (defArgs s_l_draw) (defBody s_l_draw) (defScope s_l_draw) [] [] (He.fAd K ("_law_draw", none)) fd := T.c.def_ 19 (d := ⟨("_law_draw", none), "_law_draw", "_law_draw", defArgs s_l_draw, defBody s_l_draw, defScope s_l_draw, [], []⟩)
theorem fn_l_pick (T : TX K mg) : ∃ fd, FunD K "_law_pick" "_law_pick" (defArgs s_l_pick) (defBody s_l_pick) (defScope s_l_pick) [] [] (He.fAd K ("_law_pick", none)) fd := T.c.def_ 20 (d := ⟨("_law_pick", none), "_law_pick", "_law_pick", defArgs s_l_pick, defBody s_l_pick, defScope s_l_pick, [], []⟩)
theorem fn_law (T : TX K mg) : ∃ fd, FunD K "law" "law" (defArgs s_law) (defBody s_law) (defScope s_law) [] [] (He.fAd K ("law", none)) fd := T.c.def_ 21 (d := ⟨("law", none), "law", "law", defArgs s_law, defBody s_law, defScope s_law, [], []⟩)
end
abbrev n_is_sign : List Str := ["sign"]
abbrev p_is_sign : List Str := ["sign"]
theorem sc_is_sign : FnScope n_is_sign p_is_sign (defScope s_is_sign) := ⟨rfl, rfl, rfl, by decide +kernel, rfl, by decide +kernel, by decide +kernel⟩
theorem bd_is_sign : Bnd "is_sign" "is_sign" s_is_sign p_is_sign := fun _ _ _ _ _ _ us hl => match us, hl with | [_], _ => rfl
abbrev n_look_text : List Str := ["text", "sign"]
abbrev p_look_text : List Str := ["text"]
theorem sc_look_text : FnScope n_look_text p_look_text (defScope s_look_text) := ⟨rfl, rfl, rfl, by decide +kernel, rfl, by decide +kernel, by decide +kernel⟩
theorem bd_look_text : Bnd "look_text" "look_text" s_look_text p_look_text := fun _ _ _ _ _ _ us hl => match us, hl with | [_], _ => rfl
abbrev n_look_place : List Str := ["text", "at"]
abbrev p_look_place : List Str := ["text", "at"]
theorem sc_look_place : FnScope n_look_place p_look_place (defScope s_look_place) := ⟨rfl, rfl, rfl, by decide +kernel, rfl, by decide +kernel, by decide +kernel⟩
theorem bd_look_place : Bnd "look_place" "look_place" s_look_place p_look_place := fun _ _ _ _ _ _ us hl => match us, hl with | [_, _], _ => rfl
abbrev n_Line_init : List Str := ["self", "text"]
abbrev p_Line_init : List Str := ["self", "text"]
theorem sc_Line_init : FnScope n_Line_init p_Line_init (defScope s_Line_init) := ⟨rfl, rfl, rfl, by decide +kernel, rfl, by decide +kernel, by decide +kernel⟩
theorem bd_Line_init : Bnd "__init__" "Line.__init__" s_Line_init p_Line_init := fun _ _ _ _ _ _ us hl => match us, hl with | [_, _], _ => rfl
abbrev n_Line_text : List Str := ["self"]
abbrev p_Line_text : List Str := ["self"]
theorem sc_Line_text : FnScope n_Line_text p_Line_text (defScope s_Line_text) := ⟨rfl, rfl, rfl, by decide +kernel, rfl, by decide +kernel, by decide +kernel⟩
theorem bd_Line_text : Bnd "text" "Line.text" s_Line_text p_Line_text := fun _ _ _ _ _ _ us hl => match us, hl with | [_], _ => rfl
abbrev n_Line_at : List Str := ["self"]
abbrev p_Line_at : List Str := ["self"]
theorem sc_Line_at : FnScope n_Line_at p_Line_at (defScope s_Line_at) := ⟨rfl, rfl, rfl, by decide +kernel, rfl, by decide +kernel, by decide +kernel⟩
theorem bd_Line_at : Bnd "at" "Line.at" s_Line_at p_Line_at := fun _ _ _ _ _ _ us hl => match us, hl with | [_], _ => rfl
abbrev n_Line_go : List Str := ["self", "at"]
abbrev p_Line_go : List Str := ["self", "at"]
theorem sc_Line_go : FnScope n_Line_go p_Line_go (defScope s_Line_go) := ⟨rfl, rfl, rfl, by decide +kernel, rfl, by decide +kernel, by decide +kernel⟩
theorem bd_Line_go : Bnd "go" "Line.go" s_Line_go p_Line_go := fun _ _ _ _ _ _ us hl => match us, hl with | [_, _], _ => rfl
abbrev n_Line_put_mark : List Str := ["self", "at"]
abbrev p_Line_put_mark : List Str := ["self", "at"]
theorem sc_Line_put_mark : FnScope n_Line_put_mark p_Line_put_mark (defScope s_Line_put_mark) := ⟨rfl, rfl, rfl, by decide +kernel, rfl, by decide +kernel, by decide +kernel⟩
theorem bd_Line_put_mark : Bnd "put_mark" "Line.put_mark" s_Line_put_mark p_Line_put_mark := fun _ _ _ _ _ _ us hl => match us, hl with | [_, _], _ => rfl
abbrev n_Line_picture : List Str := ["self"]
abbrev p_Line_picture : List Str := ["self"]
theorem sc_Line_picture : FnScope n_Line_picture p_Line_picture (defScope s_Line_picture) := ⟨rfl, rfl, rfl, by decide +kernel, rfl, by decide +kernel, by decide +kernel⟩
theorem bd_Line_picture : Bnd "picture" "Line.picture" s_Line_picture p_Line_picture := fun _ _ _ _ _ _ us hl => match us, hl with | [_], _ => rfl
abbrev n_Line_show : List Str := ["self", "picture"]
abbrev p_Line_show : List Str := ["self", "picture"]
theorem sc_Line_show : FnScope n_Line_show p_Line_show (defScope s_Line_show) := ⟨rfl, rfl, rfl, by decide +kernel, rfl, by decide +kernel, by decide +kernel⟩
theorem bd_Line_show : Bnd "show" "Line.show" s_Line_show p_Line_show := fun _ _ _ _ _ _ us hl => match us, hl with | [_, _], _ => rfl
abbrev n_Line_change : List Str := ["self", "first", "last", "new", "caret"]
abbrev p_Line_change : List Str := ["self", "first", "last", "new", "caret"]
theorem sc_Line_change : FnScope n_Line_change p_Line_change (defScope s_Line_change) := ⟨rfl, rfl, rfl, by decide +kernel, rfl, by decide +kernel, by decide +kernel⟩
theorem bd_Line_change : Bnd "change" "Line.change" s_Line_change p_Line_change := fun _ _ _ _ _ _ us hl => match us, hl with | [_, _, _, _, _], _ => rfl
abbrev n_Line_check : List Str := ["self", "first", "last", "new"]
abbrev p_Line_check : List Str := ["self", "first", "last", "new"]
theorem sc_Line_check : FnScope n_Line_check p_Line_check (defScope s_Line_check) := ⟨rfl, rfl, rfl, by decide +kernel, rfl, by decide +kernel, by decide +kernel⟩
theorem bd_Line_check : Bnd "check" "Line.check" s_Line_check p_Line_check := fun _ _ _ _ _ _ us hl => match us, hl with | [_, _, _, _], _ => rfl
abbrev n_Line_replace : List Str := ["self", "first", "last", "new", "caret"]
abbrev p_Line_replace : List Str := ["self", "first", "last", "new", "caret"]
theorem sc_Line_replace : FnScope n_Line_replace p_Line_replace (defScope s_Line_replace) := ⟨rfl, rfl, rfl, by decide +kernel, rfl, by decide +kernel, by decide +kernel⟩
theorem bd_Line_replace : Bnd "replace" "Line.replace" s_Line_replace p_Line_replace := fun _ _ _ _ _ _ us hl => match us, hl with | [_, _, _, _, _], _ => rfl
abbrev n_Line_write : List Str := ["self", "sign"]
abbrev p_Line_write : List Str := ["self", "sign"]
theorem sc_Line_write : FnScope n_Line_write p_Line_write (defScope s_Line_write) := ⟨rfl, rfl, rfl, by decide +kernel, rfl, by decide +kernel, by decide +kernel⟩
theorem bd_Line_write : Bnd "write" "Line.write" s_Line_write p_Line_write := fun _ _ _ _ _ _ us hl => match us, hl with | [_, _], _ => rfl
abbrev n_Line_undo : List Str := ["self"]
abbrev p_Line_undo : List Str := ["self"]
theorem sc_Line_undo : FnScope n_Line_undo p_Line_undo (defScope s_Line_undo) := ⟨rfl, rfl, rfl, by decide +kernel, rfl, by decide +kernel, by decide +kernel⟩
theorem bd_Line_undo : Bnd "undo" "Line.undo" s_Line_undo p_Line_undo := fun _ _ _ _ _ _ us hl => match us, hl with | [_], _ => rfl
abbrev n_Line_redo : List Str := ["self"]
abbrev p_Line_redo : List Str := ["self"]
theorem sc_Line_redo : FnScope n_Line_redo p_Line_redo (defScope s_Line_redo) := ⟨rfl, rfl, rfl, by decide +kernel, rfl, by decide +kernel, by decide +kernel⟩
theorem bd_Line_redo : Bnd "redo" "Line.redo" s_Line_redo p_Line_redo := fun _ _ _ _ _ _ us hl => match us, hl with | [_], _ => rfl
abbrev n_Line_groups : List Str := ["self"]
abbrev p_Line_groups : List Str := ["self"]
theorem sc_Line_groups : FnScope n_Line_groups p_Line_groups (defScope s_Line_groups) := ⟨rfl, rfl, rfl, by decide +kernel, rfl, by decide +kernel, by decide +kernel⟩
theorem bd_Line_groups : Bnd "groups" "Line.groups" s_Line_groups p_Line_groups := fun _ _ _ _ _ _ us hl => match us, hl with | [_], _ => rfl
abbrev n_l_cell : List Str := ["_law_script", "_law_k"]
abbrev p_l_cell : List Str := ["_law_script", "_law_k"]
theorem sc_l_cell : FnScope n_l_cell p_l_cell (defScope s_l_cell) := ⟨rfl, rfl, rfl, by decide +kernel, rfl, by decide +kernel, by decide +kernel⟩
theorem bd_l_cell : Bnd "_law_cell" "_law_cell" s_l_cell p_l_cell := fun _ _ _ _ _ _ us hl => match us, hl with | [_, _], _ => rfl
abbrev n_l_mix : List Str := ["_law_script", "_law_k", "_law_number"]
abbrev p_l_mix : List Str := ["_law_script", "_law_k"]
theorem sc_l_mix : FnScope n_l_mix p_l_mix (defScope s_l_mix) := ⟨rfl, rfl, rfl, by decide +kernel, rfl, by decide +kernel, by decide +kernel⟩
theorem bd_l_mix : Bnd "_law_mix" "_law_mix" s_l_mix p_l_mix := fun _ _ _ _ _ _ us hl => match us, hl with | [_, _], _ => rfl
abbrev n_l_draw : List Str := ["_law_script", "_law_town", "_law_many"]
abbrev p_l_draw : List Str := ["_law_script", "_law_town", "_law_many"]
theorem sc_l_draw : FnScope n_l_draw p_l_draw (defScope s_l_draw) := ⟨rfl, rfl, rfl, by decide +kernel, rfl, by decide +kernel, by decide +kernel⟩
theorem bd_l_draw : Bnd "_law_draw" "_law_draw" s_l_draw p_l_draw := fun _ _ _ _ _ _ us hl => match us, hl with | [_, _, _], _ => rfl
abbrev n_l_pick : List Str := ["_law_script", "_law_town", "_law_some"]
abbrev p_l_pick : List Str := ["_law_script", "_law_town", "_law_some"]
theorem sc_l_pick : FnScope n_l_pick p_l_pick (defScope s_l_pick) := ⟨rfl, rfl, rfl, by decide +kernel, rfl, by decide +kernel, by decide +kernel⟩
theorem bd_l_pick : Bnd "_law_pick" "_law_pick" s_l_pick p_l_pick := fun _ _ _ _ _ _ us hl => match us, hl with | [_, _, _], _ => rfl
abbrev n_law : List Str := ["_law_script", "_law_town", "_law_line", "_law_texts", "_law_k", "_law_many", "_law_j", "_law_way", "_law_text"]
abbrev p_law : List Str := ["_law_script"]
theorem sc_law : FnScope n_law p_law (defScope s_law) := ⟨rfl, rfl, rfl, by decide +kernel, rfl, by decide +kernel, by decide +kernel⟩
theorem bd_law : Bnd "law" "law" s_law p_law := fun _ _ _ _ _ _ us hl => match us, hl with | [_], _ => rfl
def fs_Line (a0 a1 a2 a3 a4 a5 : V) : List (Str × V) := [("now", a0), ("caret", a1), ("mark", a2), ("before", a3), ("later", a4), ("run", a5)]
theorem lk_Line : (∀ a0 a1 a2 a3 a4 a5 : V, (fs_Line a0 a1 a2 a3 a4 a5).lookup ("now" : Str) = some a0) ∧ (∀ a0 a1 a2 a3 a4 a5 : V, (fs_Line a0 a1 a2 a3 a4 a5).lookup ("caret" : Str) = some a1) ∧ (∀ a0 a1 a2 a3 a4 a5 : V, (fs_Line a0 a1 a2 a3 a4 a5).lookup ("mark" : Str) = some a2) ∧ (∀ a0 a1 a2 a3 a4 a5 : V, (fs_Line a0 a1 a2 a3 a4 a5).lookup ("before" : Str) = some a3) ∧ (∀ a0 a1 a2 a3 a4 a5 : V, (fs_Line a0 a1 a2 a3 a4 a5).lookup ("later" : Str) = some a4) ∧ (∀ a0 a1 a2 a3 a4 a5 : V, (fs_Line a0 a1 a2 a3 a4 a5).lookup ("run" : Str) = some a5) ∧ (∀ a0 a1 a2 a3 a4 a5 : V, (fs_Line a0 a1 a2 a3 a4 a5).lookup ("text" : Str) = none) ∧ (∀ a0 a1 a2 a3 a4 a5 : V, (fs_Line a0 a1 a2 a3 a4 a5).lookup ("at" : Str) = none) ∧ (∀ a0 a1 a2 a3 a4 a5 : V, (fs_Line a0 a1 a2 a3 a4 a5).lookup ("marked" : Str) = none) ∧ (∀ a0 a1 a2 a3 a4 a5 : V, (fs_Line a0 a1 a2 a3 a4 a5).lookup ("go" : Str) = none) ∧ (∀ a0 a1 a2 a3 a4 a5 : V, (fs_Line a0 a1 a2 a3 a4 a5).lookup ("rest" : Str) = none) ∧ (∀ a0 a1 a2 a3 a4 a5 : V, (fs_Line a0 a1 a2 a3 a4 a5).lookup ("put_mark" : Str) = none) ∧ (∀ a0 a1 a2 a3 a4 a5 : V, (fs_Line a0 a1 a2 a3 a4 a5).lookup ("picture" : Str) = none) ∧ (∀ a0 a1 a2 a3 a4 a5 : V, (fs_Line a0 a1 a2 a3 a4 a5).lookup ("show" : Str) = none) ∧ (∀ a0 a1 a2 a3 a4 a5 : V, (fs_Line a0 a1 a2 a3 a4 a5).lookup ("change" : Str) = none) ∧ (∀ a0 a1 a2 a3 a4 a5 : V, (fs_Line a0 a1 a2 a3 a4 a5).lookup ("check" : Str) = none) ∧ (∀ a0 a1 a2 a3 a4 a5 : V, (fs_Line a0 a1 a2 a3 a4 a5).lookup ("replace" : Str) = none) ∧ (∀ a0 a1 a2 a3 a4 a5 : V, (fs_Line a0 a1 a2 a3 a4 a5).lookup ("write" : Str) = none) ∧ (∀ a0 a1 a2 a3 a4 a5 : V, (fs_Line a0 a1 a2 a3 a4 a5).lookup ("undo" : Str) = none) ∧ (∀ a0 a1 a2 a3 a4 a5 : V, (fs_Line a0 a1 a2 a3 a4 a5).lookup ("redo" : Str) = none) ∧ (∀ a0 a1 a2 a3 a4 a5 : V, (fs_Line a0 a1 a2 a3 a4 a5).lookup ("clear" : Str) = none) ∧ (∀ a0 a1 a2 a3 a4 a5 : V, (fs_Line a0 a1 a2 a3 a4 a5).lookup ("groups" : Str) = none) ∧ (∀ a0 a1 a2 a3 a4 a5 x : V, putF "now" x (fs_Line a0 a1 a2 a3 a4 a5) = fs_Line x a1 a2 a3 a4 a5) ∧ (∀ a0 a1 a2 a3 a4 a5 x : V, putF "caret" x (fs_Line a0 a1 a2 a3 a4 a5) = fs_Line a0 x a2 a3 a4 a5) ∧ (∀ a0 a1 a2 a3 a4 a5 x : V, putF "mark" x (fs_Line a0 a1 a2 a3 a4 a5) = fs_Line a0 a1 x a3 a4 a5) ∧ (∀ a0 a1 a2 a3 a4 a5 x : V, putF "before" x (fs_Line a0 a1 a2 a3 a4 a5) = fs_Line a0 a1 a2 x a4 a5) ∧ (∀ a0 a1 a2 a3 a4 a5 x : V, putF "later" x (fs_Line a0 a1 a2 a3 a4 a5) = fs_Line a0 a1 a2 a3 x a5) ∧ (∀ a0 a1 a2 a3 a4 a5 x : V, putF "run" x (fs_Line a0 a1 a2 a3 a4 a5) = fs_Line a0 a1 a2 a3 a4 x) ∧ (∀ a0 a1 a2 a3 a4 a5 : V, ((fs_Line a0 a1 a2 a3 a4 a5).length < 1000) = True) := by
  refine ⟨?_, ?_, ?_, ?_, ?_, ?_, ?_, ?_, ?_, ?_, ?_, ?_, ?_, ?_, ?_, ?_, ?_, ?_, ?_, ?_, ?_, ?_, ?_, ?_, ?_, ?_, ?_, ?_, ?_⟩ <;> intros <;> first | rfl | exact eq_true (by show _ < _; simp [fs_Line])
theorem mk_fs_Line : (∀ a0 : V, putF "now" a0 [] = [(("now" : Str), a0)]) ∧ (∀ a0 a1 : V, putF "caret" a1 [(("now" : Str), a0)] = [(("now" : Str), a0), (("caret" : Str), a1)]) ∧ (∀ a0 a1 a2 : V, putF "mark" a2 [(("now" : Str), a0), (("caret" : Str), a1)] = [(("now" : Str), a0), (("caret" : Str), a1), (("mark" : Str), a2)]) ∧ (∀ a0 a1 a2 a3 : V, putF "before" a3 [(("now" : Str), a0), (("caret" : Str), a1), (("mark" : Str), a2)] = [(("now" : Str), a0), (("caret" : Str), a1), (("mark" : Str), a2), (("before" : Str), a3)]) ∧ (∀ a0 a1 a2 a3 a4 : V, putF "later" a4 [(("now" : Str), a0), (("caret" : Str), a1), (("mark" : Str), a2), (("before" : Str), a3)] = [(("now" : Str), a0), (("caret" : Str), a1), (("mark" : Str), a2), (("before" : Str), a3), (("later" : Str), a4)]) ∧ (∀ a0 a1 a2 a3 a4 a5 : V, putF "run" a5 [(("now" : Str), a0), (("caret" : Str), a1), (("mark" : Str), a2), (("before" : Str), a3), (("later" : Str), a4)] = fs_Line a0 a1 a2 a3 a4 a5) ∧ ((([] : List (Str × V)).length < 1000) = True) ∧ (∀ a0 : V, (([(("now" : Str), a0)] : List (Str × V)).length < 1000) = True) ∧ (∀ a0 a1 : V, (([(("now" : Str), a0), (("caret" : Str), a1)] : List (Str × V)).length < 1000) = True) ∧ (∀ a0 a1 a2 : V, (([(("now" : Str), a0), (("caret" : Str), a1), (("mark" : Str), a2)] : List (Str × V)).length < 1000) = True) ∧ (∀ a0 a1 a2 a3 : V, (([(("now" : Str), a0), (("caret" : Str), a1), (("mark" : Str), a2), (("before" : Str), a3)] : List (Str × V)).length < 1000) = True) ∧ (∀ a0 a1 a2 a3 a4 : V, (([(("now" : Str), a0), (("caret" : Str), a1), (("mark" : Str), a2), (("before" : Str), a3), (("later" : Str), a4)] : List (Str × V)).length < 1000) = True) := by
  refine ⟨?_, ?_, ?_, ?_, ?_, ?_, ?_, ?_, ?_, ?_, ?_, ?_⟩ <;> intros <;> first | rfl | exact eq_true (by show _ < _; simp)
theorem inj_Line {a0 a1 a2 a3 a4 a5 b0 b1 b2 b3 b4 b5 : V} : (fs_Line a0 a1 a2 a3 a4 a5 = fs_Line b0 b1 b2 b3 b4 b5) = (a0 = b0 ∧ a1 = b1 ∧ a2 = b2 ∧ a3 = b3 ∧ a4 = b4 ∧ a5 = b5) := by
  unfold fs_Line
  simp only [List.cons.injEq, Prod.mk.injEq, true_and, and_true]
theorem fk_Line {K : PySem.W.Frag} {mg : Str → Option Value} (T : TX K mg) : (Cls K (He.ga K "Line") = True) ∧ (NoAttr K (He.ga K "Line") "now" = True) ∧ (NoAttr K (He.ga K "Line") "caret" = True) ∧ (NoAttr K (He.ga K "Line") "mark" = True) ∧ (NoAttr K (He.ga K "Line") "before" = True) ∧ (NoAttr K (He.ga K "Line") "later" = True) ∧ (NoAttr K (He.ga K "Line") "run" = True) := ⟨eq_true (cl_Line T), eq_true (na_Line_now T), eq_true (na_Line_caret T), eq_true (na_Line_mark T), eq_true (na_Line_before T), eq_true (na_Line_later T), eq_true (na_Line_run T)⟩
end LH
/-! ## Rd: readings by simp; loops, comprehensions -/
namespace LH
open PySem PySem.Spec PyProof.Rows L2
/-- texts as values -/
abbrev tv (t : List Nat) : V := .str (S t)
abbrev tvs (ts : List (List Nat)) : List V := ts.map tv
theorem tvs_add (us : List (List Nat)) (u : List Nat) : tvs (us ++ [u]) = tvs us ++ [tv u] := List.map_append
theorem ex_eq {α : Sort u} {a : α} {p : α → Prop} : (∃ x, a = x ∧ p x) = p a := propext ⟨fun ⟨_, e, h⟩ => e ▸ h, fun h => ⟨a, rfl, h⟩⟩
theorem ex_eq' {α : Sort u} {a : α} {p : α → Prop} : (∃ x, x = a ∧ p x) = p a := propext ⟨fun ⟨_, e, h⟩ => e ▸ h, fun h => ⟨a, rfl, h⟩⟩
theorem ex_eq0 {α : Sort u} {a : α} : (∃ x, a = x) = True := propext ⟨fun _ => trivial, fun _ => ⟨a, rfl⟩⟩
theorem cxK {CX : CXT} {P : Program} {w : World} {K : PySem.W.Frag} {mg : Str → Option Value} {base : Heap} {N : List Str} {qual : Str} {scope : Scope} {f : Addr} {cd : Value} {A : Around} {outer : List Env} {s : Shared} {H : Hp} {E : XK} :
    (cxOf CX P w K mg base N qual scope f cd A outer s H E).K = K := rfl
theorem if_tt {A B : Prop} : (if true = true then A else B) = A := if_pos rfl
theorem if_ff {A B : Prop} : (if false = true then A else B) = B := if_neg Bool.false_ne_true
theorem scII {i j : Int} : scal (.int i) (.int j) = true := rfl
theorem scSS {i j : Str} : scal (.str i) (.str j) = true := rfl
theorem scBB {i j : Bool} : scal (.bl i) (.bl j) = true := rfl
theorem scNN : scal .non .non = true := rfl
theorem scNI {j : Int} : scal .non (.int j) = true := rfl
theorem scNS {j : Str} : scal .non (.str j) = true := rfl
theorem scNB {j : Bool} : scal .non (.bl j) = true := rfl
theorem scIN {j : Int} : scal (.int j) .non = true := rfl
theorem scSN {j : Str} : scal (.str j) .non = true := rfl
theorem scBN {j : Bool} : scal (.bl j) .non = true := rfl
theorem scIS {i : Int} {j : Str} : scal (.int i) (.str j) = true := rfl
theorem scSI {i : Str} {j : Int} : scal (.str i) (.int j) = true := rfl
/-- the list comprehension behind its walk's making -/
def LcB (J : It) (g : TG) (tt : TT) (te : TE) (vs : List Nat) (σ : L2.St) (H1 : Hp) (Q : VK) : Prop := ∀ D, H1 D = none → ∃ W : Nat → Nat → Hp → Prop, (∃ m, W 0 m (upd H1 D (.lst []))) ∧ ∀ i m H, W i m H →
  (J.stop i H ∧ Q (.ref D) H) ∨ (J.go i H ∧ ∃ Nx : Hp → Prop, (∀ H', Nx H' → ∃ m', m' < m ∧ W (i + 1) m' H') ∧ ∀ x H', J.yld i H x H' → g x (wipe σ vs) H' fun σ2 H2 => wipe σ2 vs = wipe σ vs ∧ tt σ2 H2 fun b H3 =>
    if b = true then te σ2 H3 fun y H4 => ∃ acc, H4 D = some (.lst acc) ∧ acc.length < sizeLine ∧ Nx (upd H4 D (.lst (acc ++ [y]))) else Nx H3)
theorem tLc_eq {wi : TI} {g : TG} {tt : TT} {te : TE} {vs : List Nat} {σ : L2.St} {H : Hp} {Q : VK} : tLc wi g tt te vs σ H Q = wi σ H fun J H1 => LcB J g tt te vs σ H1 Q := rfl
/-- the for behind its walk's making -/
def ForB (J : It) (g : TG) (tb : TS) (D : Ends) (σ : L2.St) (H1 : Hp) : Prop := ∃ W : Nat → Nat → L2.St → Hp → Prop, (∃ m, W 0 m σ H1) ∧ ∀ i m σ H, W i m σ H →
  (J.stop i H ∧ D.nx σ H) ∨ (J.go i H ∧ ∃ N : L2.St → Hp → Prop, (∀ σ' H', N σ' H' → ∃ m', m' < m ∧ W (i + 1) m' σ' H') ∧ ∀ x H', J.yld i H x H' → g x σ H' fun σ2 H2 => tb { D with nx := N, ct := N, bk := D.nx } σ2 H2)
theorem tFor_eq {wi : TI} {g : TG} {tb : TS} {D : Ends} {σ : L2.St} {H : Hp} : tFor wi g tb D σ H = wi σ H fun J H1 => ForB J g tb D σ H1 := rfl

theorem same_upd {H H' : Hp} {p : Addr} {o : HO} (s : Same H H') (h : H p = none) : Same H (upd H' p o) := fun b u e => by
  rw [upd_ne (ne_of_none e h)]
  exact s b u e
theorem same_new {H : Hp} {p : Addr} {o : HO} (h : H p = none) : Same H (upd H p o) := same_upd (Same.refl H) h
theorem sq_of {K : PySem.W.Frag} {H : Hp} {a : Addr} {xs : List V} (h : H a = some (.lst xs)) : SqL K H a xs := .inl (.inl h)
theorem st_of {K : PySem.W.Frag} {H : Hp} {a : Addr} {xs : List V} (h : H a = some (.tup xs)) : SqT K H a xs := .inl (.inl h)
theorem rd_same {H H' : Hp} {a : Addr} {u : HO} (s : Same H H') (h : Rd H a u) : Rd H' a u := by
  rcases h with h | ⟨o, h⟩
  · exact .inl (s _ _ h)
  · exact .inr ⟨o, s _ _ h⟩
theorem seqT {K : PySem.W.Frag} {H H' : Hp} {a : Addr} {xs : List V} (s : Same H H') (h : SqT K H a xs) : SqT K H' a xs := by
  rcases h with h | h
  · exact .inl (rd_same s h)
  · exact .inr h

section
variable {g : TG} {tt : TT} {te : TE} {vs : List Nat} {σ : L2.St} {H : Hp} {Q : VK}
/-- a comprehension whose elements make nothing that matters: ys the items, f which are kept, v what is made of them -/
theorem lcb_gen {α : Type} {J : It} {n : Nat} {G : Hp → Prop} (ys : List α) (inj : α → V) (f : α → Bool) (v : α → V) (w : Walk J n G (YAt (ys.map inj))) (hn : n = ys.length) (hG : ∀ H', Same H H' → G H') (hz : ys.length ≤ 100000)
    (hs : ∀ y H', y ∈ ys → Same H H' → ∀ (Y : V → Hp → Prop) (N : Hp → Prop), (f y = true → ∀ H4, Same H' H4 → Y (v y) H4) → (f y = false → ∀ H3, Same H' H3 → N H3) →
      g (inj y) (wipe σ vs) H' fun σ2 H2 => wipe σ2 vs = wipe σ vs ∧ tt σ2 H2 fun b H3 => if b = true then te σ2 H3 Y else N H3)
    (hd : ∀ D H', H D = none → Same H H' → H' D = some (.lst ((ys.filter f).map v)) → Q (.ref D) H') : LcB J g tt te vs σ H Q := by
  intro D hD
  refine lc_it w (fun i H' => Same H H' ∧ H' D = some (.lst (((ys.take i).filter f).map v))) ⟨same_new hD, upd_same⟩ (fun i H' _ p => hG H' p.1) ?_ ?_
  · rintro i x H1 H2 hi ⟨s, e⟩ ⟨rfl, hx⟩
    rw [List.getElem?_map] at hx
    cases hy : ys[i]? with
    | none =>
      rw [hy] at hx
      cases hx
    | some y =>
      rw [hy] at hx
      have ex : inj y = x := Option.some.inj hx
      subst ex
      have et : ys.take (i + 1) = ys.take i ++ [y] := by rw [List.take_add_one, hy]; rfl
      refine hs y _ (List.mem_of_getElem? hy) s _ _ (fun hf H4 s4 => ?_) (fun hf H3 s3 => ?_)
      · refine ⟨_, s4 _ _ e, ?_, same_upd (s.trans s4) hD, ?_⟩
        · refine slt ?_
          have h1 := List.length_filter_le f (ys.take i)
          have h2 := List.length_take_le i ys
          have h3 : i < ys.length := by omega
          rw [List.length_map]
          have h4 : (ys.take i).length = i := by rw [List.length_take]; omega
          omega
        · rw [upd_same, et, List.filter_append, List.map_append, List.filter_cons, if_pos hf]
          rfl
      · refine ⟨s.trans s3, ?_⟩
        rw [s3 _ _ e, et, List.filter_append, List.map_append, List.filter_cons, if_neg (by rw [hf]; decide)]
        simp
  · rintro H' ⟨s, e⟩
    rw [hn, List.take_length] at e
    exact hd D H' hD s e
theorem walk_strS {t : List Nat} : Walk (Its (S t)) t.length (fun _ => True) (YAt (t.map fun c => V.str (S [c]))) := by
  have w := walk_str (z := S t)
  have e : (S t).cps.size = t.length := S_len t
  rw [e] at w
  refine w.mono (fun _ _ => trivial) fun i H x H' _ _ ⟨h1, c, h2, h3⟩ => ⟨h1, ?_⟩
  have h4 : t[i]? = some c := by
    rw [← h2]
    show t[i]? = (t.toArray)[i]?
    rw [List.getElem?_toArray]
  rw [List.getElem?_map, h4, h3]
  rfl
theorem walk_rng {lo : Int} {n : Nat} : Walk (Itr lo n) n (fun _ => True) (YAt ((List.range n).map fun i : Nat => V.int (lo + (i : Int)))) :=
  walk_range.mono (fun _ _ => trivial) fun i H x H' hi _ ⟨h1, h2⟩ => ⟨h1, by rw [List.getElem?_map, List.getElem?_range hi, h2]; rfl⟩
theorem lcb_str (t : List Nat) (f : Nat → Bool) (v : Nat → V) (hz : t.length ≤ 100000)
    (hs : ∀ c H', c ∈ t → Same H H' → ∀ (Y : V → Hp → Prop) (N : Hp → Prop), (f c = true → ∀ H4, Same H' H4 → Y (v c) H4) → (f c = false → ∀ H3, Same H' H3 → N H3) →
      g (.str (S [c])) (wipe σ vs) H' fun σ2 H2 => wipe σ2 vs = wipe σ vs ∧ tt σ2 H2 fun b H3 => if b = true then te σ2 H3 Y else N H3)
    (hd : ∀ D H', H D = none → Same H H' → H' D = some (.lst ((t.filter f).map v)) → Q (.ref D) H') : LcB (Its (S t)) g tt te vs σ H Q :=
  lcb_gen t (fun c => V.str (S [c])) f v walk_strS rfl (fun _ _ => trivial) hz hs hd
theorem lcb_rng (lo : Int) (n : Nat) (f : Int → Bool) (v : Int → V) (hz : n ≤ 100000)
    (hs : ∀ (k : Nat) H', k < n → Same H H' → ∀ (Y : V → Hp → Prop) (N : Hp → Prop), (f (lo + k) = true → ∀ H4, Same H' H4 → Y (v (lo + k)) H4) → (f (lo + k) = false → ∀ H3, Same H' H3 → N H3) →
      g (.int (lo + k)) (wipe σ vs) H' fun σ2 H2 => wipe σ2 vs = wipe σ vs ∧ tt σ2 H2 fun b H3 => if b = true then te σ2 H3 Y else N H3)
    (hd : ∀ D H', H D = none → Same H H' → H' D = some (.lst ((((List.range n).map fun k : Nat => lo + (k : Int)).filter f).map v)) → Q (.ref D) H') : LcB (Itr lo n) g tt te vs σ H Q := by
  refine lcb_gen ((List.range n).map fun k : Nat => lo + (k : Int)) V.int f v (by rw [List.map_map]; exact walk_rng) (by rw [List.length_map, List.length_range]) (fun _ _ => trivial) (by rw [List.length_map, List.length_range]; exact hz) (fun y H' hy => ?_) hd
  obtain ⟨k, hk, rfl⟩ := List.mem_map.mp hy
  exact hs k H' (List.mem_range.mp hk)
theorem lcb_list {α : Type} {K : PySem.W.Frag} {a : Addr} (ys : List α) (inj : α → V) (f : α → Bool) (v : α → V) (hl : SqL K H a (ys.map inj)) (hz : ys.length ≤ 100000)
    (hs : ∀ y H', y ∈ ys → Same H H' → ∀ (Y : V → Hp → Prop) (N : Hp → Prop), (f y = true → ∀ H4, Same H' H4 → Y (v y) H4) → (f y = false → ∀ H3, Same H' H3 → N H3) →
      g (inj y) (wipe σ vs) H' fun σ2 H2 => wipe σ2 vs = wipe σ vs ∧ tt σ2 H2 fun b H3 => if b = true then te σ2 H3 Y else N H3)
    (hd : ∀ D H', H D = none → Same H H' → H' D = some (.lst ((ys.filter f).map v)) → Q (.ref D) H') : LcB (Itl K a) g tt te vs σ H Q :=
  lcb_gen ys inj f v walk_list (by rw [List.length_map]) (fun _ s => s.seq hl) hz hs hd
theorem filter_tt {α : Type} : ∀ l : List α, l.filter (fun _ => true) = l
  | [] => rfl
  | a :: l => by rw [List.filter_cons, if_pos rfl, filter_tt l]
/-- the same where all are kept -/
theorem lcb_strM (t : List Nat) (v : Nat → V) (hz : t.length ≤ 100000)
    (hs : ∀ c H', c ∈ t → Same H H' → ∀ (Y : V → Hp → Prop), (∀ H4, Same H' H4 → Y (v c) H4) → g (.str (S [c])) (wipe σ vs) H' fun σ2 H2 => wipe σ2 vs = wipe σ vs ∧ te σ2 H2 Y)
    (hd : ∀ D H', H D = none → Same H H' → H' D = some (.lst (t.map v)) → Q (.ref D) H') : LcB (Its (S t)) g tYes te vs σ H Q := by
  refine lcb_str t (fun _ => true) v hz (fun c H' hc s Y N h1 _ => ?_) (by rw [filter_tt]; exact hd)
  have h := hs c H' hc s Y (h1 rfl)
  exact h
end
end LH
/-! ### loops, frames -/
namespace LH
open PySem PySem.Spec PyProof.Rows L2
section
variable {g : TG} {tb : TS} {D : Ends} {σ : L2.St} {H : Hp} {K : PySem.W.Frag}
theorem forb_rng {lo : Int} {n : Nat} (Pv : Nat → L2.St → Hp → Prop) (h0 : Pv 0 σ H) (hs : ∀ (i : Nat) σ' H', i < n → Pv i σ' H' → g (.int (lo + i)) σ' H' fun σ2 H2 => tb { D with nx := Pv (i + 1), ct := Pv (i + 1), bk := D.nx } σ2 H2)
    (hd : ∀ σ' H', Pv n σ' H' → D.nx σ' H') : ForB (Itr lo n) g tb D σ H := for_range Pv h0 hs hd
theorem forb_list {a : Addr} {xs : List V} (Pv : Nat → L2.St → Hp → Prop) (h0 : Pv 0 σ H) (hl : ∀ i σ' H', i ≤ xs.length → Pv i σ' H' → SqL K H' a xs)
    (hs : ∀ i x σ' H', xs[i]? = some x → Pv i σ' H' → g x σ' H' fun σ2 H2 => tb { D with nx := Pv (i + 1), ct := Pv (i + 1), bk := D.nx } σ2 H2) (hd : ∀ σ' H', Pv xs.length σ' H' → D.nx σ' H') : ForB (Itl K a) g tb D σ H := for_list Pv h0 hl hs hd
end
/-- what was tracked is as it was, but at F (tuples are at no time another); nothing goes -/
def Fx (F : List Addr) (H H' : Hp) : Prop := ∀ c o, H c = some o → (∃ o', H' c = some o') ∧ ((c ∉ F ∨ ∃ xs, o = .tup xs) → H' c = some o)
/-- no tuple is there -/
def NT (H : Hp) (p : Addr) : Prop := ∀ xs, H p ≠ some (.tup xs)
section
variable {F G : List Addr} {H H1 H2 H' : Hp} {a b c p : Addr} {o : HO} {xs : List V} {K : PySem.W.Frag}
theorem nt_lst {H : Hp} {p : Addr} {ys : List V} (e : H p = some (.lst ys)) : NT H p := fun xs h => by
  rw [e] at h
  cases h
theorem nt_ins {H : Hp} {p C dx : Addr} {fs : List (Str × V)} (e : H p = some (.ins C dx fs)) : NT H p := fun xs h => by
  rw [e] at h
  cases h
theorem nt_dK {H : Hp} {p : Addr} {kvs : List (Key × V)} (e : H p = some (.dK kvs)) : NT H p := fun xs h => by
  rw [e] at h
  cases h
theorem Fx.refl (F : List Addr) (H : Hp) : Fx F H H := fun _ _ e => ⟨⟨_, e⟩, fun _ => e⟩
theorem Fx.trans (x : Fx F H H1) (y : Fx F H1 H2) : Fx F H H2 := fun c o e => by
  obtain ⟨⟨o1, e1⟩, k⟩ := x c o e
  exact ⟨(y c o1 e1).1, fun n => (y c o (k n)).2 n⟩
theorem Fx.of (s : Same H H') : Fx F H H' := fun c o e => ⟨⟨_, s c o e⟩, fun _ => s c o e⟩
theorem Fx.mono (x : Fx F H H') (h : ∀ c ∈ F, c ∈ G) : Fx G H H' := fun c o e => ⟨(x c o e).1, fun n => (x c o e).2 (n.imp (fun q m => q (h c m)) id)⟩
theorem Fx.comp (x : Fx F H H1) (y : Fx G H1 H2) (h : ∀ c ∈ G, c ∈ F ∨ H c = none) : Fx F H H2 := fun c o e => by
  obtain ⟨⟨o1, e1⟩, k⟩ := x c o e
  refine ⟨(y c o1 e1).1, fun n => (y c o (k n)).2 (n.imp (fun n m => ?_) id)⟩
  rcases h c m with q | q
  · exact n q
  · rw [e] at q
    cases q
theorem Fx.upd (h : p ∈ F) (hp : NT H p) : Fx F H (L2.upd H p o) := fun c u e => by
  refine ⟨?_, fun n => ?_⟩
  · by_cases q : c = p
    · exact ⟨o, by rw [q, upd_same]⟩
    · exact ⟨u, by rw [upd_ne q]; exact e⟩
  · have ne : c ≠ p := fun z => by
      rcases n with n | ⟨xs, n⟩
      · exact n (by rw [z]; exact h)
      · rw [z, n] at e
        exact hp xs e
    rw [upd_ne ne]
    exact e
theorem Fx.new (h : H p = none) : Fx F H (L2.upd H p o) := Fx.of (same_new h)
theorem Fx.up (x : Fx F H H1) (h : p ∈ F) (hp : NT H1 p) : Fx F H (L2.upd H1 p o) := x.trans (Fx.upd h hp)
theorem Fx.nw (x : Fx F H H1) (h : H1 p = none) : Fx F H (L2.upd H1 p o) := x.trans (Fx.new h)
theorem Fx.at (x : Fx F H H') (e : H c = some o) (n : c ∉ F) : H' c = some o := (x c o e).2 (.inl n)
theorem Fx.tup (x : Fx F H H') (e : H c = some (.tup xs)) : H' c = some (.tup xs) := (x c _ e).2 (.inr ⟨_, rfl⟩)
theorem Fx.same (x : Fx [] H H') : Same H H' := fun c o e => (x c o e).2 (.inl List.not_mem_nil)
theorem Fx.rd {u : HO} (x : Fx F H H') (h : Rd H a u) (n : a ∉ F) : Rd H' a u := by
  rcases h with h | ⟨o, h⟩
  · exact .inl (x.at h n)
  · exact .inr ⟨o, x.at h n⟩
theorem Fx.sql (x : Fx F H H') (h : SqL K H a xs) (n : a ∉ F) : SqL K H' a xs := h.elim (fun q => .inl (x.rd q n)) .inr
theorem Fx.sqt (x : Fx F H H') (h : SqT K H a xs) (n : a ∉ F) : SqT K H' a xs := h.elim (fun q => .inl (x.rd q n)) .inr
/-- what is free was free -/
theorem Fx.free (x : Fx F H H') (n : H' p = none) : H p = none := by
  cases e : H p with
  | none => rfl
  | some o =>
    obtain ⟨⟨o', q⟩, _⟩ := x p o e
    rw [n] at q
    cases q
theorem tru_lst (h : H a = some (.lst xs)) : TruV K (.ref a) H (decide (xs ≠ [])) := by
  refine .inl ⟨xs, sq_of h, ?_⟩
  cases xs <;> rfl
theorem ne_of2 {p q : Addr} {o u : HO} (e : H p = some o) (f : H q = some u) (n : o ≠ u) : p ≠ q := fun z => n (by
  rw [z, f] at e
  exact (Option.some.inj e).symm)
theorem ne_il {p q C dx : Addr} {fs : List (Str × V)} {ys : List V} (e : H p = some (.ins C dx fs)) (f : H q = some (.lst ys)) : p ≠ q := ne_of2 e f (by intro z; cases z)
theorem ne_new {p q : Addr} {o : HO} (e : H p = some o) (f : H q = none) : p ≠ q := ne_of_none e f
/-- an address that a method leaves in the place of another one -/
abbrev New (H : Hp) (l l' : Addr) : Prop := l' = l ∨ H l' = none
/-- a free one is none of those put -/
theorem un {x : Addr} (h : upd H x o p = none) : x ≠ p ∧ H p = none := by
  by_cases e : p = x
  · rw [e, upd_same] at h
    cases h
  · rw [upd_ne e] at h
    exact ⟨fun q => e q.symm, h⟩
theorem Fx.nil (s : Same H H') : Fx [] H H' := Fx.of s
end
end LH
/-! ## X1: an error caught and kept, isinstance of it; further rules: o.f as a target, text * n, list.count -/
namespace LH
open PySem PySem.Spec PyProof.Rows L2

/-- an error of the class C that was caught, at a -/
def KX (C a : Addr) : HO := .ext fun h => ∃ (oe : Obj) (vs : Array Value), h.get? a = some oe ∧ Zc (.ref C) none oe ∧ oe.data = .fields vs
theorem kx_ok {P : Program} {w : World} {H : Hp} {h : Heap} {a C : Addr} {oe : Obj} {vs : Array Value} (e : h.get? a = some oe) (z : Zc (.ref C) none oe) (d : oe.data = .fields vs) : ObjOk P w H h a (KX C a) :=
  ⟨⟨oe, vs, e, z, d⟩, ⟨oe, e⟩, fun _ _ ⟨o, v, q, r⟩ k => ⟨o, v, k o q, r⟩⟩
section
variable {X : Cx} {pins : List (Addr × Obj)} {σ : L2.St} {H : Hp} {s : Shared}
/-- an object that is pinned, made behind the entry: from now on it is tracked -/
theorem track {a C : Addr} {oe : Obj} {vs : Array Value} (I : Inv X ((a, oe) :: pins) σ H s) (n0 : X.s_0.heap.get? a = none) (z : Zc (.ref C) none oe) (d : oe.data = .fields vs) (np : ∀ p ∈ X.pn ++ pins, p.1 ≠ a) : Inv X pins σ (upd H a (KX C a)) s := by
  obtain ⟨ea, na, nL, nF, _⟩ := I.pin (a, oe) (List.mem_append_right _ List.mem_cons_self)
  have old : ∀ b o, X.s_0.heap.get? b = some o → b ≠ a := fun b o e q => by
    rw [q, n0] at e
    cases e
  have ne : ∀ b o, H b = some o → b ≠ a := fun b o e => ne_of_none e na
  have B := I.base
  refine ⟨I.ok, I.os, I.bare, ⟨B.keep, B.slot, fun b o e n hx => ?_, B.there, fun b xs e => ?_, fun b o u e => ?_, fun b ps e => ?_⟩, I.loc, I.cell, ?_, fun x c e => ?_, fun p hp => ?_, fun b u e => ?_, I.len⟩
  · rw [upd_ne (old b o e)]
    exact B.free b o e n hx
  · have q := B.tups b xs e
    rw [upd_ne (ne b _ q)]
    exact q
  · have q := B.frzs b o u e
    rw [upd_ne (ne b _ q)]
    exact q
  · obtain ⟨m, q⟩ := B.tbls b ps e
    exact ⟨m, by rw [upd_ne (ne b _ q)]; exact q⟩
  · rw [upd_ne (Ne.symm nL)]
    exact I.free
  · have nc : c ≠ a := fun q => by
      obtain ⟨v, o, ho, hd⟩ := I.cell x c e
      rw [q, ea] at ho
      cases ho
      rw [d] at hd
      cases hd
    rw [upd_ne nc]
    exact I.freeC x c e
  · have hp2 : p ∈ X.pn ++ (a, oe) :: pins := by
      rcases List.mem_append.mp hp with q | q
      · exact List.mem_append_left _ q
      · exact List.mem_append_right _ (List.mem_cons_of_mem _ q)
    obtain ⟨e, n, r⟩ := I.pin p hp2
    exact ⟨e, by rw [upd_ne (np p hp)]; exact n, r⟩
  · by_cases hb : b = a
    · rw [hb, upd_same] at e
      cases e
      rw [hb]
      exact kx_ok ea z d
    · rw [upd_ne hb] at e
      exact (I.hok b u e).stay (fun _ _ _ q => q) (fun c q => by rw [upd_ne (ne c _ q)]; exact q) fun c xs q => by rw [upd_ne (ne c _ q)]; exact q
/-- what the clause 'except x as n' wishes, its one statement keeping the error: slot i is n's -/
def wKeep (K : PySem.W.Frag) (c : Value) (i : Nat) (ts : Addr → Value → Option Addr → TS) (D : Ends) : WX := fun cls d σ H =>
  ∃ C, cls = .ref C ∧ d = none ∧ PySem.W.exmOne K cls c = some true ∧ ∀ a, H a = none → ts a cls d { nx := fun σ' H' => D.nx (σ'.set i none) (upd H' a (KX C a)), rt := fun _ _ => False } (σ.set i (some (.ref a))) H
variable {x n : Str} {c : Value} {i : Nat} {body suite : List Stmt} {b₀ : Stmt} {np pos pos' : Pos} {tb : WX → TS} {ts : Addr → Value → Option Addr → TS}
/-- try: body / except x as n: suite, where the suite keeps the error: behind it the error is tracked -/
theorem ps_try_keep (hs : X.stack = X.env :: X.outer) (hf : X.env.frame = some X.env.locals) (hex : X.ex = []) (hN : X.N.Nodup) (hi : X.N[i]? = some n) (hln : X.env.kindOf n = some .local) (hc : Names X x c)
    (hb : ∀ (W : WX) (pn : List (Addr × Obj)) (xe : Value → Shared → Prop), Takes (X.tr pn xe) W → PassesOwn (model X.prog X.w) X.A X.env xe → PSs (X.tr pn xe) body (tb W))
    (hsu : ∀ (a : Addr) (oe : Obj) (cls : Value) (d : Option Addr) (pn : List (Addr × Obj)), Zc cls d oe → (∃ vs, oe.data = .fields vs) → PSs (X.suite a ((a, oe) :: pn)) (b₀ :: suite) (ts a cls d)) :
    PS X (.Try body [.ExceptHandler (some (.Name x np)) (some n) (b₀ :: suite) pos'] [] [] pos) (fun D σ H => tb (wKeep X.K c i ts D) D σ H) := by
  refine ⟨fun pins s σ H D I h => wpAny_Try_except ?_⟩
  have ok := I.ok
  let land : Value → Shared → Prop := fun e z1 => wpAny (model X.prog X.w) X.A (noteFrame e X.env) (fun _ z2 => wpAny (model X.prog X.w) X.A (setFlight e none) (fun _ z3 =>
    wpAny (model X.prog X.w) X.A (handleBy e X.env [.ExceptHandler (some (.Name x np)) (some n) (b₀ :: suite) pos']) (SP X pins D) X.xe z3) X.xe z2) X.xe z1
  have through := (hb (wKeep X.K c i ts D) (X.pn ++ pins) land (fun u z xx => ?_) PassesOwn.looking).run [] s σ H D (I.toTry _) h
  · refine wpAny_mono through (fun f z1 q => ?_) (fun e z1 he => he)
    cases f with
    | next =>
      obtain ⟨σ1, H1, J, q⟩ := q
      exact wpAny_execs_nil ⟨σ1, H1, J.ofTry ok, q⟩
    | brk =>
      obtain ⟨σ1, H1, J, q⟩ := q
      exact ⟨σ1, H1, J.ofTry ok, q⟩
    | cont =>
      obtain ⟨σ1, H1, J, q⟩ := q
      exact ⟨σ1, H1, J.ofTry ok, q⟩
    | ret u =>
      obtain ⟨v, σ1, H1, J, r, q⟩ := q
      exact ⟨v, σ1, H1, J.ofTry ok, r, q⟩
  · -- the error is here
    obtain ⟨a, B, sI, pins2, σ1, H1, cls, d, rfl, J0, nb, up, sky, na, os, ag, C, rfl, rfl, hm, hyes⟩ := xx
    have J : Inv X pins σ1 H1 sI := J0.ofTry ok
    have sky1 : Sky B (X.env :: X.outer) a (Zc (.ref C) none) X.env.locals z.heap := hs ▸ sky
    show land (.ref a) z
    refine Sky.land Zc.steady (by rw [ok.frames, hs]) hf sky1 fun h3 fly up3 => ?_
    have K3 : Inv X pins σ1 H1 { z with heap := h3 } := J.landed nb fly.1 (up.trans up3) os ag
    obtain ⟨o3, v3, g3, z3, d3⟩ := fly.there
    have noFr : a ∉ frs (X.env :: X.outer) := fun hm => by
      obtain ⟨_, o, e, bad⟩ := fly.2.2.1.mem hm
      rw [g3] at e
      cases e
      exact bad _ d3
    have nL : a ≠ X.env.locals := fun q => noFr (List.mem_filterMap.mpr ⟨X.env, List.mem_cons_self, by rw [hf, q]⟩)
    have nF : a ∉ X.fs := fun hm => by
      obtain ⟨e, he, q⟩ := List.mem_filterMap.mp hm
      exact noFr (List.mem_filterMap.mpr ⟨e, List.mem_cons_of_mem _ he, q⟩)
    -- it is younger than the entry, and no pinned object
    have gone : sI.heap.get? a = none := by
      cases e : sI.heap.get? a with
      | none => rfl
      | some o =>
        have q := nb a o e (by rw [show (X.tr (X.pn ++ pins) land).stack = X.env :: X.outer from hs]; exact noFr)
        rw [fly.2.1] at q
        cases q
    have n0 : X.s_0.heap.get? a = none := by
      cases e : X.s_0.heap.get? a with
      | none => rfl
      | some o =>
        obtain ⟨o2, q⟩ := J.base.there a o e (by rw [hex]; exact List.not_mem_nil)
        rw [gone] at q
        cases q
    have nP : ∀ p ∈ X.pn ++ pins, p.1 ≠ a := fun p hp q => by
      have e := (J.pin p hp).1
      rw [q, gone] at e
      cases e
    have S3 := K3.suite g3 d3 na nL nF
    refine wpAny_handleBy_cons (codeAny_handlers_test ?_) (by intro q; cases q)
    have ty : PySem.W.Looks (model X.prog X.w) h3 (typeOf (.ref a)) (.ref C) := fun A Q E s k q => wpAny_typeOf_ref (k _ _ g3) (by rw [z3.1]; exact q)
    have named : ∀ {Q : Value → Shared → Prop} {E : Value → Shared → Prop}, Q c { z with heap := h3 } → wpAny (model X.prog X.w) (X.A.mark (some (.ref a))) (eval (.Name x np) X.env) Q E { z with heap := h3 } := fun {Q E} q => by
      obtain ⟨hg, hdb, hx | ⟨hx, hv, hnn⟩⟩ := hc
      · exact ld_glob (X := X.suite a ((a, o3) :: (X.pn ++ pins))) S3 hg hx q hdb
      · exact ld_blt (X := X.suite a ((a, o3) :: (X.pn ++ pins))) S3 hg hx hv q hnn hdb
    refine named ((PySem.W.exm_one (M := model X.prog X.w) K3.kIn ty hm).here (codeAny_handlers_suite_as (HandSPX.lands_againZ fly fun h4 fl4 up4 => ?_)))
    obtain ⟨o4, v4, g4, z4, d4⟩ := fl4.there
    have K4 : Inv X pins σ1 H1 { z with heap := h4 } := J.landed nb fl4.1 ((up.trans up3).trans up4) os ag
    have S4 := K4.suite g4 d4 na nL nF
    refine store_ok (X := X.suite a ((a, o4) :: (X.pn ++ pins))) (v := .ref a) S4 hN hi (.inl hln) rfl (fun s5 S5 => ?_) (.inr hln)
    refine wpAny_mono ((hsu a o4 (.ref C) none (X.pn ++ pins) z4 ⟨_, d4⟩).run [] s5 _ H1 _ S5 (hyes a na)) (fun f s6 hsp => ?_) (fun _ _ q => False.elim q)
    cases f with
    | next =>
      obtain ⟨σ6, H6, S6, q6⟩ := hsp
      have S7 : Inv X ((a, o4) :: pins) σ6 H6 s6 := (S6.unsuite ok).pins_of fun p hp => by
        rcases List.mem_cons.mp hp with e | hp
        · exact S6.pin p (by rw [e]; exact List.mem_append_left _ List.mem_cons_self)
        · exact S6.pin p (List.mem_append_left _ (List.mem_cons_of_mem _ (List.mem_append_right _ hp)))
      exact gone_ok S7 hN hi hln fun s7 J7 => ⟨_, _, track J7 n0 z4 d4 nP, q6⟩
    | brk =>
      obtain ⟨_, _, _, q⟩ := hsp
      exact False.elim q
    | cont =>
      obtain ⟨_, _, _, q⟩ := hsp
      exact False.elim q
    | ret u =>
      obtain ⟨_, _, _, _, _, q⟩ := hsp
      exact False.elim q
/-- isinstance(e, c), e an error that was kept -/
def rIsX (K : PySem.W.Frag) : List V → Hp → VK → Prop := fun xs H Q => ∃ (a C : Addr) (c : V) (cv : Value) (b : Bool), xs = [.ref a, c] ∧ H a = some (KX C a) ∧ ExcC K C ∧ (∀ u, RelV c u → u = cv) ∧ PySem.W.kitOne K (.ref C) cv = some b ∧ Q (.bl b) H
theorem call_isX : CallR X (.builtin "isinstance") (rIsX X.K) := by
  intro pins s σ H xs us Q I r h
  obtain ⟨a, D, c, cv, b, rfl, ha, C, hcv, e, q⟩ := h
  cases r with
  | cons rx rr =>
    cases rr with
    | cons rt rr =>
      cases rr
      cases rx
      have ec := hcv _ rt
      subst ec
      obtain ⟨⟨⟨oc, od, oda, osl⟩, vs, hget, ⟨h1, h2⟩, hv⟩, _⟩ := I.hok a _ ha
      dsimp only at h1 h2 hv
      subst h1 h2 hv
      exact PySem.W.kia_one (PySem.W.handS_kitx_exc C.hg C.hk C.hs C.hd C.ha C.hn C.ht C.hm) I.kIn ⟨hget, rfl, rfl, trivial⟩ e (fun z => nomatch z) fun tk => ⟨.bl b, H, I.kept (t' := tk) fun _ _ z => z, rfl, q⟩
/-- list.count of flat items -/
def rCntF (K : PySem.W.Frag) : V → List V → Hp → VK → Prop := fun x xs H Q => ∃ (p : Addr) (ys : List V) (y : V), x = .ref p ∧ xs = [y] ∧ SqL K H p ys ∧ flatV y = true ∧ ys.all flatV = true ∧ Q (.int (ys.countP fun z => eqV z y : Nat)) H
theorem count_rel {y : V} : ∀ {ys : List V} {us : List Value}, Vals ys us → ys.all flatV = true → us.countP (eqU y) = ys.countP fun z => eqV z y
  | [], [], _, _ => rfl
  | z :: ys, u :: us, .cons r t, f => by
    rw [List.all_cons, Bool.and_eq_true] at f
    rw [List.countP_cons, List.countP_cons, count_rel t f.2, eqU_of r f.1]
theorem mt_countB : MtR X "list.count" (rCntF X.K) := by
  intro pins s σ H x xs v us Q I rx rxs h
  obtain ⟨p, ys, y, rfl, rfl, hl, fy, fys, q⟩ := h
  cases rx
  obtain ⟨u, rfl, ru⟩ := rxs.one
  obtain ⟨its, rv, ⟨⟨cls, dd, data, sl⟩, n, ho, hc, hdn, hd⟩, hlen⟩ := I.list hl
  simp only at hc hd
  subst hc hd
  refine call_meets PySem.F.slot_list_count ⟨_, ho, rfl⟩ PySem.F.entry_list_count (PySem.F.args_list_count_2 _ _) (SeqAt.list_countAt p its.toArray n dd sl u (eqU y)) ⟨ho, fun u2 hu2 => mem_eqAt ru fy rv fys u2 (by simpa using hu2), ?_⟩
  have e : its.toArray.toList.countP (eqU y) = ys.countP fun z => eqV z y := count_rel rv fys
  refine ⟨.int (ys.countP fun z => eqV z y : Nat), H, I.tok _, ⟨s.toks, ?_⟩, q⟩
  show Value.int ((its.toArray.toList.countP (eqU y) : Nat) : Int) s.toks = _
  rw [e]
/-- o.f as a target among others -/
def gAttr (K : PySem.W.Frag) (to : TE) (f : Str) : TG := fun v σ H Q => to σ H fun x H1 => ∃ a C dx fs, x = .ref a ∧ H1 a = some (.ins C dx fs) ∧ Cls K C ∧ NoAttr K C f ∧ fs.length < 1000 ∧ Q σ (upd H1 a (.ins C dx (putF f v fs)))
theorem pg_attr {o : Expr} {f : Str} {to : TE} {pos : Pos} (ho : PE X o to) : PG X (.Attribute o f pos) (gAttr X.K to f) := by
  refine ⟨fun pins s σ H v u Q I r h => PySem.W.kas_attr (thn (ho.run pins s σ H _ I h) fun ov s1 hq => ?_)⟩
  obtain ⟨y, H1, I1, rx, a, C, dx, fs, rfl, ea, c, n, l, q⟩ := hq
  cases rx
  exact setattr_ok I1 ea c n l r fun s2 I2 => ⟨σ, _, I2, q⟩
/-- text * n -/
def rRepS : R2 := fun x y H Q => ∃ z k, x = .str z ∧ y = .int k ∧ MulOk z k ∧ Q (.str (Txt.mul z k)) H
theorem op_repS : OpR X (binaryOp .Mult) rRepS := by
  intro pins s σ H x y v u Q I rx ry h
  obtain ⟨z, k, rfl, rfl, hk, q⟩ := h
  obtain ⟨t, rfl⟩ := rx
  obtain ⟨t2, rfl⟩ := ry
  exact SB.mul hk fun t' k' => ⟨.str _, H, I.tok _, ⟨_, rfl⟩, q⟩
end
section
variable {X : Cx} {k : Nat} {C : Addr} {x m : Str} {ps : List Str} {sp : Sp} {E : L2.St → XK} {p pos apos : Pos} {e o : Expr} {es : List Expr} {ta : TE} {t : TA}
/-- calls in a try's body: what is let out is wished for at the slots -/
theorem pcS (D : Dn X.prog X.w X.K X.mg X.base k x ps sp) (hr : Room k X.A) (hx : ∀ σ, PassesAt (L2.CX X.prog X.w) X σ (E σ)) (ha : PA X (e :: es) t) (hg : Gl X x := by rfl) (hdb : (x == ("__debug__" : Str)) = false := by decide)
    (he : starEach (e :: es) X.env = (false, eval e X.env) :: starEach es X.env := by rfl) (hpl : (backTo pos (starEach es X.env)).any (·.1) = false := by rfl) : PE X (.Call (.Name x p) (e :: es) [] pos) (tCallS sp E t) := by
  obtain ⟨f, fd, F, b, hm, kp⟩ := D.ex
  exact pe_callS F hr hg hm kp b hx ha hdb he hpl
def tMethW (C : Addr) (m : Str) (sp : Sp) (E : L2.St → XK) (ta : TE) (t : TA) : TE := fun σ H Q => ta σ H fun x H1 => ∃ a dx fs, x = .ref a ∧ H1 a = some (.ins C dx fs) ∧ fs.lookup m = none ∧ t σ H1 fun vs H2 => sp (x :: vs) H2 Q (E σ)
theorem pmS {pl : Sem Bool} (M : Mt X.prog X.w X.K X.mg X.base k C m ps sp) (hr : Room k X.A) (hx : ∀ σ, PassesAt (L2.CX X.prog X.w) X σ (E σ)) (ho : PE X o ta) (ha : PA X (e :: es) t)
    (hst : starEach (e :: es) X.env = (false, eval e X.env) :: starEach es X.env := by rfl) (hpl : (backTo pos (starEach es X.env)).any (·.1) = false := by rfl)
    (ht : eval (.Call (.Attribute o m apos) (e :: es) [] pos) X.env = (do
      let ov ← eval o X.env
      standAt apos.atName
      let (f, first) ← holding [ov] (getMethod ov m pl)
      callWith pos f first (backTo pos (starEach (e :: es) X.env)) (backToKw pos (keywordEach [] X.env))) := by rfl) : PE X (.Call (.Attribute o m apos) (e :: es) [] pos) (tMethW C m sp E ta t) := by
  obtain ⟨f, fd, F, b, hm⟩ := M.ex
  refine ⟨fun pins s σ H Q I h => PySem.W.methodCall_KW (pl := pl) (thn (ho.run pins s σ H _ I h) fun u s1 hq => ?_) ht⟩
  obtain ⟨y, H1, I1, rx, a, dx, fs, rfl, ea, l, q⟩ := hq
  cases rx
  refine getmeth_ok I1 ea M.cl hm l (PySem.W.callWith_K (first := [.ref a]) (h₀ := X.base) I.ok.mod.kin hm.kp (thn (ha.run pos pins s1 σ H1 _ I1 q) fun us s2 hv => ?_) hst hpl)
  obtain ⟨vs, H2, I2, r, q2⟩ := hv
  exact ⟨I2.kIn, run_fnS (us := .ref a :: us) (vs := .ref a :: vs) F hr b (hx σ) I2 (.cons rfl r) q2⟩
/-- a new one, made in a try's body -/
def tMakeS (C : Addr) (sp : Sp) (E : L2.St → XK) (t : TA) : TE := fun σ H Q => t σ H fun vs H1 => ∀ x dx, H1 x = none → H1 dx = none → dx ≠ x →
  sp (.ref x :: vs) (upd (upd H1 dx (.own x)) x (.ins C dx [])) (fun v H2 => v = .non ∧ Q (.ref x) H2) (E σ)
theorem pnS (D : Mn X.prog X.w X.K X.mg X.base k x C ps sp) (hr : Room (k + 1) X.A) (hx : ∀ σ, PassesAt (L2.CX X.prog X.w) X σ (E σ)) (ha : PA X (e :: es) t) (hg : Gl X x := by rfl) (hdb : (x == ("__debug__" : Str)) = false := by decide)
    (he : starEach (e :: es) X.env = (false, eval e X.env) :: starEach es X.env := by rfl) (hpl : (backTo pos (starEach es X.env)).any (·.1) = false := by rfl) : PE X (.Call (.Name x p) (e :: es) [] pos) (tMakeS C sp E t) := by
  obtain ⟨f, fd, F, b, M⟩ := D.ex
  refine ⟨fun pins s0 σ H0 Q0 I0 h0 => ?_⟩
  refine wpAny_Call_Name_kw (ld_glob I0 hg D.gl ?_ hdb)
  refine PySem.W.callWith_K (h₀ := X.base) I0.ok.mod.kin M.kp (thn (ha.run pos pins s0 σ H0 _ I0 h0) fun us s ⟨vs, H, I, r, h⟩ => ⟨I.kIn, ?_⟩) he hpl
  have hq := h (s.heap.objs.size + 1) s.heap.objs.size (I.hok.fresh (Nat.le_succ _)) (I.hok.fresh (Nat.le_refl _)) (Nat.ne_of_lt (Nat.lt_succ_self _))
  have I2 := Inv.made (C := C) I
  have r2 : Vals (V.ref (s.heap.objs.size + 1) :: vs) (Value.ref (s.heap.objs.size + 1) :: us) := .cons rfl r
  have hl : (Value.ref (s.heap.objs.size + 1) :: us).length = ps.length := by
    have e := r2.length
    rw [F.len _ _ _ _ hq] at e
    exact e.symm
  have bt := b _ (Value.ref (s.heap.objs.size + 1) :: us) I2.kIn (by rw [List.append_nil]; exact hl)
  rw [List.append_nil] at bt
  refine wpAny_call (make_map (f := f) I.kIn M.makes M.init (beq_iff_eq.mp M.fn) (codeAny_mono (F.run _ X.stack _ _ ⟨Value.ref (s.heap.objs.size + 1) :: us, []⟩ (Value.ref (s.heap.objs.size + 1) :: us) _ _ (E σ) (hr.make C us [])
    (I2.env0.make C us []) bt r2 hq) fun r s' hq' => ?_))
  cases r with
  | error e => exact hx σ pins _ _ e s' I2 hq'
  | ok fl =>
    cases fl with
    | ret u =>
      obtain ⟨v, H', I3, rv, ev, q3⟩ := I2.after hq'
      subst ev
      exact ⟨rv, ⟨V.ref (s.heap.objs.size + 1), H', I3, rfl, q3⟩⟩
    | next => exact False.elim hq'
    | brk => exact False.elim hq'
    | cont => exact False.elim hq'
theorem pmS0 {pl : Sem Bool} (M : Mt X.prog X.w X.K X.mg X.base k C m ps sp) (hr : Room k X.A) (hx : ∀ σ, PassesAt (L2.CX X.prog X.w) X σ (E σ)) (ho : PE X o ta)
    (ht : eval (.Call (.Attribute o m apos) [] [] pos) X.env = (do
      let ov ← eval o X.env
      standAt apos.atName
      let (f, first) ← holding [ov] (getMethod ov m pl)
      callWith pos f first (backTo pos (starEach [] X.env)) (backToKw pos (keywordEach [] X.env))) := by rfl) : PE X (.Call (.Attribute o m apos) [] [] pos) (tMethW C m sp E ta tNil) := by
  obtain ⟨f, fd, F, b, hm⟩ := M.ex
  refine ⟨fun pins s σ H Q I h => PySem.W.methodCall_KW (pl := pl) (thn (ho.run pins s σ H _ I h) fun u s1 hq => ?_) ht⟩
  obtain ⟨y, H1, I1, rx, a, dx, fs, rfl, ea, l, q⟩ := hq
  cases rx
  exact getmeth_ok I1 ea M.cl hm l (PySem.W.callWith_K0 (first := [.ref a]) I1.kIn hm.kp (run_fnS (us := [.ref a]) (vs := [.ref a]) F hr b (hx σ) I1 (.cons rfl .nil) q))
end
end LH
open L2 LH PySem in
local macro_rules | `(tactic| walk_at "rd0") => `(tactic| simp only [L2.start, List.map_cons, List.map_nil, List.length_cons, List.length_nil, Nat.reduceAdd, Nat.reduceSub, List.replicate_succ, List.replicate_zero, List.cons_append, List.nil_append, List.append_nil])
open L2 LH PySem in
local macro_rules | `(tactic| walk_at "rd1") => `(tactic| dsimp only [tVar, tC, tOp, tUn, tAndV, tOrV, tNotV, tIf, tAnd, tOr, tNot, tB, tTest, tChain, tCons, tNil, tTup, tLst, tCB, tCall, tMeth, tMake, tFld, sFld, tSeq, tNext, tAsg, gName, tIfS, tRet, tRetN, tDrop, tM0, tM1, tBM, tBM0, rAppend, rPop, tLits, tCallS, tMethW, tMakeS, WE, wKeep, iStr, iRng1, iRng2, iList, iTup, tSl, tPart, tNoPart,
  rI, rI0, rU, rEq, rNe, rIxL, rIxT, rIxS, rSlS, rSlL])
open L2 LH PySem in
local macro_rules | `(tactic| walk_at "rd2") => `(tactic| simp only [List.getElem?_cons_zero, List.getElem?_cons_succ, List.set_cons_zero, List.set_cons_succ, List.cons_append, List.nil_append, List.append_nil, Option.some.injEq, V.int.injEq, V.str.injEq, V.bl.injEq, V.ref.injEq, List.cons.injEq, HO.ins.injEq, HO.lst.injEq, HO.tup.injEq, S_inj, ofS_inj, String.reduceEq, ex_eq, ex_eq', ex_eq0, tLc_eq, tFor_eq, iStr, iRng1, iRng2, iList, iTup, tVar, tC, tOp, tCons, tNil, tCB, tFld, tCallS, tMethW, tMakeS, WE, wKeep, tLits, tLst, tTup, wipe, rI, rI0, rU, rEq, rNe, scII, scSS, scBB, scNN, scNI, scNS, scNB, scIN, scSN, scBN, scIS, scSI, if_tt, if_ff, and_true, true_and, and_assoc, exists_and_left, exists_and_right, exists_const, cxK, decide_true, decide_false, Bool.not_true, Bool.not_false, eq_self_iff_true, Bool.true_eq_false, Bool.false_eq_true, if_true, if_false, reduceCtorEq, S_len, S_one, S_tl, decide_eq_true_eq, tUn, tAndV, tOrV, tNotV, tIf, tAnd, tOr, tNot, tB, tTest, tChain, tCall, tMeth, tMake, sFld, tSeq, tNext, tAsg, gName, tIfS, tRet, tRetN, tDrop, tM0, tM1, tBM, tBM0, rAppend, rPop, tSl, tPart, tNoPart, rIxL, rIxT, rIxS, rSlS, rSlL, rCat, tRevL, tDisp, tPairs, tDGet, sDPut, gTup, gCons, gNil, gSub, gAttr, rSetL, tv])
local macro_rules | `(tactic| walk_at "rd") => `(tactic| ((try walk_at "rd0"); (try walk_at "rd1"); (try walk_at "rd2")))
/-! ## Words: signs, texts, places -/
namespace LH
open PySem PySem.Spec PyProof.Rows L2

def isSign (t : List Nat) : Bool := match t with
  | [c] => decide (32 ≤ c) && decide (c < 127) && decide (c ≠ 37)
  | _ => false
def okText (t : List Nat) : Bool := decide (t.length ≤ 400) && t.all fun c => isSign [c]
def letters : List Nat := ("abcdefghijklmnopqrstuvwxyzABCDEFGHIJKLMNOPQRSTUVWXYZ0123456789" : Str).cps.toList
def isLetC (c : Nat) : Bool := decide (c ∈ letters)
def isLet (t : List Nat) (i : Int) : Bool := decide (0 ≤ i) && (match t[i.toNat]? with
  | some c => isLetC c
  | none => false)
def spIsSign : Sp := fun vs H Q _ => ∃ t : List Nat, vs = [.str (S t)] ∧ t.length ≤ 100000 ∧ Q (.bl (isSign t)) H
/-- refused: an exception of that class -/
abbrev Rf (K : PySem.W.Frag) (c : Str) (E : XK) (H : Hp) : Prop := ∀ H', Same H H' → E (.ref (He.ga K c)) none H'
def spLookText (K : PySem.W.Frag) : Sp := fun vs H Q E => ∃ t : List Nat, vs = [.str (S t)] ∧ t.length ≤ 100000 ∧ if okText t = true then ∀ H', Same H H' → Q .non H' else Rf K "BadText" E H
def spLookPlace (K : PySem.W.Frag) : Sp := fun vs H Q E => ∃ (t : List Nat) (i : Int), vs = [.str (S t), .int i] ∧ t.length ≤ 100000 ∧ if 0 ≤ i ∧ i ≤ t.length then Q .non H else Rf K "BadPlace" E H
def spIsLetter : Sp := fun vs H Q _ => ∃ (t : List Nat) (i : Int), vs = [.str (S t), .int i] ∧ t.length ≤ 100000 ∧ Q (.bl (isLet t i)) H
theorem S_get0 (t : List Nat) : (S t).cps.getD 0 0 = t.getD 0 0 := by
  unfold S
  cases t <;> rfl
theorem isSign_lt {c : Nat} (h : isSign [c] = true) : c < 128 := by
  have e : (decide (32 ≤ c) && decide (c < 127) && decide (c ≠ 37)) = true := h
  simp only [Bool.and_eq_true, decide_eq_true_eq] at e
  omega
theorem okText_lt {t : List Nat} (h : okText t = true) : ∀ c ∈ t, c < 128 := fun c hc => by
  unfold okText at h
  exact isSign_lt (List.all_eq_true.mp (Bool.and_eq_true_iff.mp h).2 c hc)
theorem okText_len {t : List Nat} (h : okText t = true) : t.length ≤ 400 := by
  unfold okText at h
  exact of_decide_eq_true (Bool.and_eq_true_iff.mp h).1
section
variable {P : Program} {w : World} {K : PySem.W.Frag} {mg : Str → Option Value} {base : Heap}
theorem d_is_sign (T : TX K mg) : Dn P w K mg base 1 "is_sign" p_is_sign spIsSign := by
  refine dn_of (fn_is_sign T) (g_is_sign T) sc_is_sign bd_is_sign (fun vs H Q E h => ?_) (fun cdv A outer s H vs Q E hr h => ?_)
  · obtain ⟨t, rfl, _⟩ := h
    rfl
  · obtain ⟨t, rfl, ht, k⟩ := h
    refine ⟨_, (pss_one (ps_ret (pe_and (pe_cmpR op_eq (pe_callB call_len_str (by rfl) (b_len T) boot_len (pa_cons (pv 0) pa_nil)) pe_int (nomark _)) (pe_and (pe_chain op_le op_lt pe_int (pe_callB call_ord (by rfl) (b_ord T) (by decide +kernel) (pa_cons (pv 0) pa_nil)) pe_int) (pe_one (pe_cmpR op_ne (pe_callB call_ord (by rfl) (b_ord T) (by decide +kernel) (pa_cons (pv 0) pa_nil)) pe_int (nomark _))))))), ?_⟩
    walk_at "rd"
    refine ⟨sline ht, ?_⟩
    match t, k with
    | [], k => exact k
    | [c], k =>
      rw [S_get0, if_pos (show (([c].length : Nat) : Int) = 1 from rfl)]
      refine ⟨rfl, ?_⟩
      have e : isSign [c] = (decide (32 ≤ c) && decide (c < 127) && decide (c ≠ 37)) := rfl
      rw [e] at k
      have ec : [c].getD 0 0 = c := rfl
      rw [ec]
      by_cases h1 : 32 ≤ c
      · rw [if_pos (show (32 : Int) ≤ (c : Int) by omega)]
        by_cases h2 : c < 127
        · rw [if_pos (show (c : Int) < 127 by omega)]
          refine ⟨rfl, ?_⟩
          have e2 : (decide (32 ≤ c) && decide (c < 127) && decide (c ≠ 37)) = !decide ((c : Int) = 37) := by
            rw [decide_eq_true h1, decide_eq_true h2]
            by_cases h3 : c = 37
            · subst h3; rfl
            · rw [decide_eq_true h3, decide_eq_false (show ¬ (c : Int) = 37 by omega)]; rfl
          rw [e2] at k
          exact k
        · rw [if_neg (show ¬ (c : Int) < 127 by omega)]
          rw [decide_eq_false h2, Bool.and_false, Bool.false_and] at k
          exact k
      · rw [if_neg (show ¬ (32 : Int) ≤ (c : Int) by omega)]
        rw [decide_eq_false h1, Bool.false_and, Bool.false_and] at k
        exact k
    | a :: b :: r, k =>
      rw [if_neg (show ¬ (((a :: b :: r).length : Nat) : Int) = 1 by rw [List.length_cons, List.length_cons]; omega)]
      exact k
theorem d_look_place (T : TX K mg) : Dn P w K mg base 1 "look_place" p_look_place (spLookPlace K) := by
  refine dn_of (fn_look_place T) (g_look_place T) sc_look_place bd_look_place (fun vs H Q E h => ?_) (fun cdv A outer s H vs Q E hr h => ?_)
  · obtain ⟨t, i, rfl, _⟩ := h
    rfl
  · obtain ⟨t, i, rfl, ht, k⟩ := h
    refine ⟨_, (pss_one (ps_if (pt_not (pt_chain op_le op_le pe_int (pv 1) (pe_callB call_len_str (by rfl) (b_len T) boot_len (pa_cons (pv 0) pa_nil)))) (pss_one (ps_raise rfl (takes_of rfl rfl rfl rfl) (pmk_own PySem.F.excBase_ValueError (xc_BadPlace T).1 (g_BadPlace T) (xc_BadPlace T).2.1 (raises_own (xc_BadPlace T).2.2.1 (xc_BadPlace T).2.2.2) rfl))) pss_nil)), ?_⟩
    walk_at "rd"
    by_cases h0 : 0 ≤ i
    · rw [if_pos h0]
      refine ⟨sline ht, ?_⟩
      by_cases h1 : i ≤ (t.length : Int)
      · rw [if_pos ⟨h0, h1⟩] at k
        rw [decide_eq_true h1]
        exact k
      · rw [if_neg fun z => h1 z.2] at k
        rw [decide_eq_false h1]
        exact k H (Same.refl H)
    · rw [if_neg h0]
      rw [if_neg fun z => h0 z.1] at k
      exact k H (Same.refl H)
theorem d_look_text (T : TX K mg) : Dn P w K mg base 2 "look_text" p_look_text (spLookText K) := by
  refine dn_of (fn_look_text T) (g_look_text T) sc_look_text bd_look_text (fun vs H Q E h => ?_) (fun cdv A outer s H vs Q E hr h => ?_)
  · obtain ⟨t, rfl, _⟩ := h
    rfl
  · obtain ⟨t, rfl, ht, k⟩ := h
    refine ⟨_, (pss_one (ps_if (PW.pt (pw_or (pt_cmpR op_gt (pe_callB call_len_str (by rfl) (b_len T) boot_len (pa_cons (pv 0) pa_nil)) (pgi (i_MOST_TEXT T)) (nomark _)) (pw_or1 (pt_not (pt_val (pe_callB (cr_all rfl) (by rfl) (b_all T) (by decide +kernel) (pa_cons (pe_lc (own := [("sign", 1)]) rfl sc_look_text.nd (pi_str (pv 0)) (blkOk_by (own := [("sign", 1)]) (N := n_look_text) (sc := defScope s_look_text) (by decide +kernel)) (fun _ _ _ _ _ => (pg_name (i := 1) sc_look_text.nd rfl (Or.inl rfl))) (fun _ _ _ _ _ => pts_nil) (fun _ _ _ _ _ => (pc (d_is_sign T) (hr.mono (by decide)) px0 (pa_cons (pv 1) pa_nil)))) pa_nil))))))) (pss_one (ps_raise rfl (takes_of rfl rfl rfl rfl) (pmk_own PySem.F.excBase_ValueError (xc_BadText T).1 (g_BadText T) (xc_BadText T).2.1 (raises_own (xc_BadText T).2.2.1 (xc_BadText T).2.2.2) rfl))) pss_nil)), ?_⟩
    walk_at "rd"
    refine ⟨sline ht, ?_⟩
    unfold okText at k
    by_cases h4 : (400 : Int) < (t.length : Int)
    · rw [if_pos h4]
      rw [decide_eq_false (by omega), Bool.false_and, if_neg Bool.false_ne_true] at k
      exact k H (Same.refl H)
    · rw [if_neg h4]
      rw [decide_eq_true (show t.length ≤ 400 by omega), Bool.true_and] at k
      refine lcb_strM t (fun c => .bl (isSign [c])) (by omega) (fun c H' hc s Y hY => ?_) (fun D H' hD s e => ?_)
      · walk_at "rd"
        exact ⟨[c], rfl, by simp, hY H' (Same.refl H')⟩
      · refine ⟨D, t.map fun c => isSign [c], rfl, sq_of (by rw [e, List.map_map]; rfl), _, rfl, ?_⟩
        have ea : (t.map fun c => isSign [c]).all id = t.all fun c => isSign [c] := by rw [List.all_map]; rfl
        rw [ea]
        cases ho : t.all fun c => isSign [c] with
        | true =>
          rw [ho] at k
          exact k H' s
        | false =>
          rw [ho] at k
          exact k H' s
end
end LH
/-! ## D1: the law's draws; how a refusal is told -/
namespace LH
open PySem PySem.Spec PyProof.Rows L2
/-- the script at a (it is no town), the town at b: its length the draws so far, at most z -/
structure Dr (K : PySem.W.Frag) (H : Hp) (a b : Addr) (ns : List Int) (z : Nat) : Prop where
  scr : (Rd H a (.lst (ns.map V.int)) ∧ a ≠ b) ∨ ∀ H' : Hp, SqL K H' a (ns.map V.int)
  len : ns.length ≤ 63
  tow : ∃ zs, H b = some (.lst zs) ∧ zs.length ≤ z
theorem Dr.sql {K : PySem.W.Frag} {H : Hp} {a b : Addr} {ns : List Int} {z : Nat} (d : Dr K H a b ns z) : SqL K H a (ns.map V.int) := d.scr.elim (fun q => .inl q.1) fun q => q H
theorem Dr.mono {K : PySem.W.Frag} {H : Hp} {a b : Addr} {ns : List Int} {z z' : Nat} (d : Dr K H a b ns z) (h : z ≤ z') : Dr K H a b ns z' :=
  ⟨d.scr, d.len, let ⟨zs, e, l⟩ := d.tow; ⟨zs, e, Nat.le_trans l h⟩⟩
/-- carried over what leaves the town and the script -/
theorem Dr.fx {K : PySem.W.Frag} {F : List Addr} {H H' : Hp} {a b : Addr} {ns : List Int} {z : Nat} (d : Dr K H a b ns z) (x : Fx F H H') (na : (∃ u, Rd H a u) → a ∉ F) (nb : b ∉ F) : Dr K H' a b ns z :=
  ⟨d.scr.elim (fun q => .inl ⟨x.rd q.1 (na ⟨_, q.1⟩), q.2⟩) .inr, d.len, let ⟨zs, e, l⟩ := d.tow; ⟨zs, x.at e nb, l⟩⟩
theorem Dr.same {K : PySem.W.Frag} {H H' : Hp} {a b : Addr} {ns : List Int} {z : Nat} (d : Dr K H a b ns z) (s : Same H H') : Dr K H' a b ns z := d.fx (F := []) (Fx.of s) (fun _ => List.not_mem_nil) List.not_mem_nil
theorem Dr.there {K : PySem.W.Frag} {H : Hp} {a b : Addr} {ns : List Int} {z : Nat} (d : Dr K H a b ns z) : H b ≠ none := by
  obtain ⟨zs, e, _⟩ := d.tow
  rw [e]
  exact fun q => nomatch q
/-- the script is a constant of the module -/
abbrev Cst (K : PySem.W.Frag) (a : Addr) (ns : List Int) : Prop := ∀ H' : Hp, SqL K H' a (ns.map V.int)
/-- the script is none of these -/
def Ap (K : PySem.W.Frag) (a : Addr) (ns : List Int) (F : List Addr) : Prop := Cst K a ns ∨ a ∉ F
theorem Dr.new {K : PySem.W.Frag} {H : Hp} {a b c : Addr} {ns : List Int} {z : Nat} (d : Dr K H a b ns z) (h : H c = none) : Ap K a ns [c] := by
  rcases d.scr with ⟨q, _⟩ | q
  · refine .inr fun m => ?_
    rw [List.mem_singleton] at m
    rw [← m] at h
    rcases q with q | ⟨o, q⟩
    · rw [h] at q
      cases q
    · rw [h] at q
      cases q
  · exact .inl q
theorem Ap.cons {K : PySem.W.Frag} {a c : Addr} {ns : List Int} {F : List Addr} (h : Ap K a ns [c]) (g : Ap K a ns F) : Ap K a ns (c :: F) := by
  rcases h with h | h
  · exact .inl h
  · rcases g with g | g
    · exact .inl g
    · refine .inr fun m => ?_
      rcases List.mem_cons.mp m with m | m
      · exact h (by rw [m]; exact List.mem_cons_self)
      · exact g m
theorem Ap.mono {K : PySem.W.Frag} {a : Addr} {ns : List Int} {F G : List Addr} (h : Ap K a ns G) (s : ∀ c ∈ F, c ∈ G) : Ap K a ns F := h.imp id fun n m => n (s a m)
theorem Dr.fy {K : PySem.W.Frag} {F : List Addr} {H H' : Hp} {a b : Addr} {ns : List Int} {z : Nat} (d : Dr K H a b ns z) (x : Fx F H H') (na : Ap K a ns F) (nb : b ∉ F) : Dr K H' a b ns z := by
  refine ⟨?_, d.len, let ⟨zs, e, l⟩ := d.tow; ⟨zs, x.at e nb, l⟩⟩
  rcases na with na | na
  · exact .inr na
  · exact d.scr.elim (fun q => .inl ⟨x.rd q.1 na, q.2⟩) .inr
theorem Dr.ne {K : PySem.W.Frag} {H : Hp} {a b c : Addr} {ns : List Int} {z : Nat} (d : Dr K H a b ns z) (h : H c = none) : b ≠ c := fun e => by
  obtain ⟨zs, q, _⟩ := d.tow
  rw [e, h] at q
  cases q
/-- a script, a new town -/
theorem Dr.start {K : PySem.W.Frag} {H : Hp} {a p : Addr} {ns : List Int} (hS : SqL K H a (ns.map V.int)) (hl : ns.length ≤ 63) (hp : H p = none) : Dr K (upd H p (.lst [])) a p ns 0 := by
  refine ⟨?_, hl, [], upd_same, Nat.le_refl _⟩
  rcases hS with h | h
  · have ne : a ≠ p := by
      rcases h with h | ⟨o, h⟩
      · exact ne_of_none h hp
      · exact ne_of_none h hp
    exact .inl ⟨(Fx.of (F := []) (same_new hp)).rd h List.not_mem_nil, ne⟩
  · exact .inr fun _ => .inr h
def spCell (K : PySem.W.Frag) : Sp := fun vs H Q _ => ∃ (a : Addr) (ns : List Int) (k : Int), vs = [.ref a, .int k] ∧ SqL K H a (ns.map V.int) ∧ ns.length ≤ 63 ∧ 0 ≤ k ∧ ∀ i : Int, Q (.int i) H
def spMix (K : PySem.W.Frag) : Sp := fun vs H Q _ => ∃ (a : Addr) (ns : List Int) (k : Int), vs = [.ref a, .int k] ∧ SqL K H a (ns.map V.int) ∧ ns.length ≤ 63 ∧ 0 ≤ k ∧ k ≤ 100000 ∧ ∀ i : Int, 0 ≤ i → i < 4294967231 → Q (.int i) H
def spDraw (K : PySem.W.Frag) : Sp := fun vs H Q _ => ∃ (a b : Addr) (m : Int) (ns : List Int) (z : Nat), vs = [.ref a, .ref b, .int m] ∧ Dr K H a b ns z ∧ z < 90000 ∧ 0 < m ∧ m < 1000000 ∧
  ∀ (d : Int) (H' : Hp), 0 ≤ d → d < m → Fx [b] H H' → Dr K H' a b ns (z + 1) → Q (.int d) H'
def spPick (K : PySem.W.Frag) : Sp := fun vs H Q _ => ∃ (a b l : Addr) (xs : List V) (ns : List Int) (z : Nat), vs = [.ref a, .ref b, .ref l] ∧ Dr K H a b ns z ∧ z < 90000 ∧ SqL K H l xs ∧ l ≠ b ∧ xs ≠ [] ∧ xs.length ≤ 1000 ∧
  ∀ (j : Nat) (v : V) (H' : Hp), xs[j]? = some v → Fx [b] H H' → Dr K H' a b ns (z + 1) → Q v H'
section
variable {P : Program} {w : World} {K : PySem.W.Frag} {mg : Str → Option Value} {base : Heap}
theorem d_l_cell (T : TX K mg) : Dn P w K mg base 1 "_law_cell" p_l_cell (spCell K) := by
  refine dn_of (fn_l_cell T) (g__law_cell T) sc_l_cell bd_l_cell (fun vs H Q E h => ?_) (fun cdv A outer s H vs Q E hr h => ?_)
  · obtain ⟨a, ns, k, rfl, _⟩ := h
    rfl
  · obtain ⟨a, ns, k, rfl, hS, hl, hk, q⟩ := h
    refine ⟨_, (pss_cons (ps_if (pt_truth (pv 0) (by intro _; rfl)) (pss_one (ps_ret (pe_ix ix_list (pv 0) (pe_op op_modN (pv 1) (pe_callB call_len_seq (by rfl) (b_len T) boot_len (pa_cons (pv 0) pa_nil))) (fun _ _ => rfl)))) pss_nil) (pss_one (ps_ret pe_int))), ?_⟩
    walk_at "rd"
    cases ns with
    | nil => exact ⟨false, .inl ⟨_, hS, rfl⟩, q 0⟩
    | cons n r =>
      refine ⟨true, .inl ⟨_, hS, rfl⟩, ?_⟩
      rw [if_pos rfl]
      refine ⟨_, .inl hS, by rw [List.length_map, List.length_cons]; omega, _, hS, ?_⟩
      have hp : (0 : Int) < ((((n :: r).map V.int).length : Nat) : Int) := by rw [List.length_map, List.length_cons]; omega
      generalize hm : k.fmod (((n :: r).map V.int).length : Nat) = m
      rw [Int.fmod_eq_emod_of_nonneg _ (by omega)] at hm
      have h1 : 0 ≤ m := by rw [← hm]; exact Int.emod_nonneg _ (by omega)
      have h2 : m < (((n :: r).map V.int).length : Nat) := by rw [← hm]; exact Int.emod_lt_of_pos _ hp
      rw [atI_in h1 h2, List.getElem?_map]
      have h3 : m.toNat < (n :: r).length := by
        rw [List.length_map] at h2
        omega
      rw [List.getElem?_eq_getElem h3]
      exact ⟨_, rfl, q _⟩
theorem d_l_mix (T : TX K mg) : Dn P w K mg base 2 "_law_mix" p_l_mix (spMix K) := by
  refine dn_of (fn_l_mix T) (g__law_mix T) sc_l_mix bd_l_mix (fun vs H Q E h => ?_) (fun cdv A outer s H vs Q E hr h => ?_)
  · obtain ⟨a, ns, k, rfl, _⟩ := h
    rfl
  · obtain ⟨a, ns, k, rfl, hS, hl, hk, hk2, q⟩ := h
    refine ⟨_, (pss_cons (ps_set (i := 2) sc_l_mix.nd rfl (Or.inl rfl) (pe_op op_modN (pe_op op_add (pc (d_l_cell T) (hr.mono (by decide)) px (pa_cons (pv 0) (pa_cons (pv 1) pa_nil))) (pe_op op_mul pe_int (pe_op op_add (pv 1) pe_int))) pe_int)) (pss_cons (ps_set (i := 2) sc_l_mix.nd rfl (Or.inl rfl) (pe_op op_modN (pe_op op_pow (pv 2) pe_int) pe_int)) (pss_one (ps_ret (pe_op op_modN (pe_op op_add (pe_op op_mul (pe_op op_fdivN (pv 2) pe_int) pe_int) (pv 2)) pe_int))))), ?_⟩
    walk_at "rd"
    refine ⟨a, ns, k, rfl, hS, hl, hk, fun i => ?_⟩
    have pos : ∀ (x m : Int), 0 < m → 0 ≤ x.fmod m ∧ x.fmod m < m := fun x m hm => by
      rw [Int.fmod_eq_emod_of_nonneg _ (by omega)]
      exact ⟨Int.emod_nonneg _ (by omega), Int.emod_lt_of_pos _ hm⟩
    refine ⟨.inl (by omega), _, rfl, by omega, ?_⟩
    obtain ⟨a1, a2⟩ := pos (i + 104729 * (k + 1)) 4294967291 (by omega)
    generalize (i + 104729 * (k + 1)).fmod 4294967291 = u at a1 a2 ⊢
    refine ⟨⟨by omega, by omega, by omega⟩, by omega, ?_⟩
    obtain ⟨b1, b2⟩ := pos (u ^ Int.toNat 5) 4294967279 (by omega)
    generalize (u ^ Int.toNat 5).fmod 4294967279 = v at b1 b2 ⊢
    refine ⟨⟨by omega, by decide⟩, ?_⟩
    have e : v.fdiv 64 = v / 64 := Int.fdiv_eq_ediv_of_nonneg _ (by omega)
    rw [e]
    refine ⟨.inl (by omega), by omega, ?_⟩
    obtain ⟨c1, c2⟩ := pos (v / 64 * 69621 + v) 4294967231 (by omega)
    exact q _ c1 c2
theorem d_l_draw (T : TX K mg) : Dn P w K mg base 3 "_law_draw" p_l_draw (spDraw K) := by
  refine dn_of (fn_l_draw T) (g__law_draw T) sc_l_draw bd_l_draw (fun vs H Q E h => ?_) (fun cdv A outer s H vs Q E hr h => ?_)
  · obtain ⟨a, b, m, ns, z, rfl, _⟩ := h
    rfl
  · obtain ⟨a, b, m, ns, z, rfl, D, hz, hm, hm2, q⟩ := h
    refine ⟨_, (pss_cons (ps_expr (pe_bm PySem.F.plainAttrs_list PySem.F.slot_list_append PySem.F.type_list_append mt_append (pv 1) (pa_cons pe_int pa_nil))) (pss_one (ps_ret (pe_op op_modN (pe_op op_fdivN (pc (d_l_mix T) (hr.mono (by decide)) px (pa_cons (pv 0) (pa_cons (pe_callB call_len_seq (by rfl) (b_len T) boot_len (pa_cons (pv 1) pa_nil)) pa_nil))) pe_int) (pv 2))))), ?_⟩
    walk_at "rd"
    obtain ⟨zs, et, lt⟩ := D.tow
    refine ⟨.inl ⟨rfl, _, sq_of et⟩, zs, et, slt (by omega), _, .inl (sq_of upd_same), ?_⟩
    have nl : ((zs ++ [V.int 0]).length : Nat) ≤ z + 1 := by rw [List.length_append]; simp; omega
    have hf : Fx [b] H (upd H b (.lst (zs ++ [.int 0]))) := Fx.upd List.mem_cons_self (nt_lst et)
    have D' : Dr K (upd H b (.lst (zs ++ [.int 0]))) a b ns (z + 1) := ⟨D.scr.elim (fun q => .inl ⟨hf.rd q.1 (by simp [q.2]), q.2⟩) .inr, D.len, _, upd_same, nl⟩
    refine ⟨a, ns, _, rfl, D'.sql, D.len, by omega, by omega, fun i h0 h1 => ⟨_, rfl, ⟨by omega, by decide⟩, by omega, ?_⟩⟩
    rw [Int.fmod_eq_emod_of_nonneg _ (by omega)]
    exact q _ _ (Int.emod_nonneg _ (by omega)) (Int.emod_lt_of_pos _ hm) hf D'
theorem d_l_pick (T : TX K mg) : Dn P w K mg base 4 "_law_pick" p_l_pick (spPick K) := by
  refine dn_of (fn_l_pick T) (g__law_pick T) sc_l_pick bd_l_pick (fun vs H Q E h => ?_) (fun cdv A outer s H vs Q E hr h => ?_)
  · obtain ⟨a, b, l, xs, ns, z, rfl, _⟩ := h
    rfl
  · obtain ⟨a, b, l, xs, ns, z, rfl, D, hz, hL, nl, hx, hx2, q⟩ := h
    refine ⟨_, (pss_one (ps_ret (pe_ix ix_list (pv 2) (pc (d_l_draw T) (hr.mono (by decide)) px (pa_cons (pv 0) (pa_cons (pv 1) (pa_cons (pe_callB call_len_seq (by rfl) (b_len T) boot_len (pa_cons (pv 2) pa_nil)) pa_nil)))) (fun _ _ => rfl)))), ?_⟩
    walk_at "rd"
    have hp : 0 < xs.length := List.length_pos_iff.mpr hx
    refine ⟨_, .inl hL, a, b, _, ns, z, rfl, D, hz, by omega, by omega, fun d H' h0 h1 B D' => ⟨_, _, rfl, B.sql hL (by simp [nl]), ?_⟩⟩
    rw [atI_in h0 h1, List.getElem?_eq_getElem (by omega)]
    exact ⟨_, rfl, q d.toNat _ _ (List.getElem?_eq_getElem (by omega)) B D'⟩
end
/-! ### comparisons of data, lists of refusals -/
section
variable {K : PySem.W.Frag} {H : Hp} {x y : V} {d e : PyData} {Q : VK}
theorem ne_data (hx : Dp K H x d) (hy : Dp K H y e) (h1 : SeqAt.shaped d = true) (h2 : SeqAt.shaped e = true) (q : Q (.bl (!PyData.eqv d e)) H) : rNeD K x y H Q := ⟨d, e, hx, hy, h1, h2, q⟩
theorem eq_data' (hx : Dp K H x d) (hy : Dp K H y e) (h1 : SeqAt.shaped d = true) (h2 : SeqAt.shaped e = true) (q : Q (.bl (PyData.eqv d e)) H) : rEqD K x y H Q := ⟨d, e, hx, hy, h1, h2, q⟩
theorem ne_same (hx : Dp K H x d) (hy : Dp K H y d) (h1 : SeqAt.shaped d = true) (q : Q (.bl false) H) : rNeD K x y H Q := ne_data hx hy h1 h1 (by rw [SeqAt.eqv_refl _ (SeqAt.canLay_of_shaped h1)]; exact q)
theorem eq_same (hx : Dp K H x d) (hy : Dp K H y d) (h1 : SeqAt.shaped d = true) (q : Q (.bl true) H) : rEqD K x y H Q := eq_data' hx hy h1 h1 (by rw [SeqAt.eqv_refl _ (SeqAt.canLay_of_shaped h1)]; exact q)
end
/-- signs alone, at most n -/
def okPiece (n : Nat) (z : Str) : Bool := decide (z.cps.toList.length ≤ n) && z.cps.toList.all fun c => isSign [c]
theorem pick_str {zs : List Str} {j : Nat} {v : V} (h : (zs.map V.str)[j]? = some v) : ∃ z ∈ zs, v = .str z := by
  rw [List.getElem?_map] at h
  cases e : zs[j]? with
  | none =>
    rw [e] at h
    cases h
  | some z =>
    rw [e] at h
    exact ⟨z, List.mem_of_getElem? e, (Option.some.inj h).symm⟩
theorem pick_piece {zs : List Str} {n j : Nat} {v : V} (h : (zs.map V.str)[j]? = some v) (ok : zs.all (okPiece n) = true) : ∃ t : List Nat, v = .str (S t) ∧ t.length ≤ n ∧ t.all (fun c => isSign [c]) = true := by
  obtain ⟨z, hz, rfl⟩ := pick_str h
  have q := List.all_eq_true.mp ok z hz
  unfold okPiece at q
  rw [Bool.and_eq_true, decide_eq_true_iff] at q
  exact ⟨z.cps.toList, rfl, q.1, q.2⟩
/-- one of a list that is made for it -/
theorem pick_new {K : PySem.W.Frag} {H : Hp} {a b : Addr} {ns : List Int} {z : Nat} {xs : List V} {R : VK} {E : XK} (D : Dr K H a b ns z) (hz : z < 90000) (hx : xs ≠ []) (hl : xs.length ≤ 1000)
    (k : ∀ (j : Nat) (v : V) (H' : Hp), xs[j]? = some v → Fx [b] H H' → Dr K H' a b ns (z + 1) → R v H') : xs.length ≤ sizeLine ∧ ∀ p, H p = none → spPick K [.ref a, .ref b, .ref p] (upd H p (.lst xs)) R E := by
  refine ⟨sline (by omega), fun p hp => ?_⟩
  have D1 := D.same (same_new (o := .lst xs) hp)
  refine ⟨a, b, p, xs, ns, z, rfl, D1, hz, sq_of upd_same, ?_, hx, hl, fun j v H' hj F D' => k j v H' hj ((Fx.of (same_new hp)).trans F) D'⟩
  intro e
  exact D.there (by rw [← e]; exact hp)
/-! ### lists of texts, compared -/
/-- signs that are told as data -/
abbrev Asc (t : List Nat) : Prop := ∀ c ∈ t, c < 128
abbrev AscL (ts : List (List Nat)) : Prop := ∀ u ∈ ts, Asc u
theorem strOk_asc {t : List Nat} (h : Asc t) : PyData.strOk (S t) = true := by
  show (t.toArray.all fun c => decide (c < 0x110000)) = true
  rw [List.all_toArray]
  exact List.all_eq_true.mpr fun c hc => decide_eq_true (by have := h c hc; omega)
abbrev tds (ts : List (List Nat)) : List PyData := ts.map fun u => .str (S u)
theorem canLay_texts : ∀ {ts : List (List Nat)}, AscL ts → PyData.canLayAll0 (tds ts) = true
  | [], _ => by simp [PyData.canLayAll0]
  | u :: us, h => by
    have h1 := strOk_asc (h u List.mem_cons_self)
    have h2 := canLay_texts (ts := us) fun x hx => h x (List.mem_cons_of_mem _ hx)
    show PyData.canLayAll0 (.str (S u) :: tds us) = true
    simp only [PyData.canLayAll0, PyData.canLay0, h1, h2, Bool.and_self]
theorem depth_texts : ∀ (ts : List (List Nat)), PyData.depthAll (tds ts) = 0
  | [] => by simp [PyData.depthAll]
  | u :: us => by
    show PyData.depthAll (.str (S u) :: tds us) = 0
    simp only [PyData.depthAll, PyData.depth, depth_texts us, Nat.max_self]
theorem shaped_texts {ts : List (List Nat)} (h : AscL ts) : SeqAt.shaped (.list (tds ts)) = true := by
  show (PyData.canLay0 _ && decide (PyData.depth _ ≤ 64)) = true
  have e1 : PyData.canLay0 (.list (tds ts)) = true := by
    simp only [PyData.canLay0]
    exact canLay_texts h
  have e2 : PyData.depth (.list (tds ts)) = 1 := by
    simp only [PyData.depth, depth_texts]
  rw [e1, e2]
  rfl
theorem dp_all {K : PySem.W.Frag} {H : Hp} : ∀ (ts : List (List Nat)), DpAll K H (tvs ts) (tds ts)
  | [] => .nil
  | u :: us => .cons (.str _) (dp_all us)
theorem dp_texts {K : PySem.W.Frag} {H : Hp} {t : Addr} {ts : List (List Nat)} (e : H t = some (.lst (tvs ts))) : Dp K H (.ref t) (.list (tds ts)) := .lst (sq_of e) (dp_all ts)
theorem eqv_nil {ts : List (List Nat)} : PyData.eqv (.list (tds ts)) (.list []) = decide (ts = []) := by
  cases ts with
  | nil => rfl
  | cons u us => rfl
/-- texts != [] -/
theorem ne_empty {K : PySem.W.Frag} {H : Hp} {t q : Addr} {ts : List (List Nat)} {Q : VK} (e : H t = some (.lst (tvs ts))) (f : H q = some (.lst [])) (h : AscL ts) (k : Q (.bl (decide (ts ≠ []))) H) : rNeD K (.ref t) (.ref q) H Q := by
  refine ne_data (dp_texts e) (.lst (sq_of f) .nil) (shaped_texts h) (by decide +kernel) ?_
  rw [eqv_nil]
  have e2 : (!decide (ts = [])) = decide (ts ≠ []) := by
    by_cases z : ts = [] <;> simp [z]
  rw [e2]
  exact k
theorem ne_texts {K : PySem.W.Frag} {H : Hp} {t q : Addr} {ts : List (List Nat)} {Q : VK} (e : H t = some (.lst (tvs ts))) (f : H q = some (.lst (tvs ts))) (h : AscL ts) (k : Q (.bl false) H) : rNeD K (.ref t) (.ref q) H Q := ne_same (dp_texts e) (dp_texts f) (shaped_texts h) k
theorem eq_texts {K : PySem.W.Frag} {H : Hp} {t q : Addr} {ts : List (List Nat)} {Q : VK} (e : H t = some (.lst (tvs ts))) (f : H q = some (.lst (tvs ts))) (h : AscL ts) (k : Q (.bl true) H) : rEqD K (.ref t) (.ref q) H Q := eq_same (dp_texts e) (dp_texts f) (shaped_texts h) k
theorem inV_strs (z : Str) : ∀ zs : List Str, inV (.str z) (zs.map V.str) = decide (z ∈ zs)
  | [] => by
    show ([] : List V).any _ = _
    simp
  | y :: zs => by
    have ih := inV_strs z zs
    show ((V.str y :: zs.map V.str).any fun u => eqV u (.str z)) = _
    rw [List.any_cons]
    have e : ((zs.map V.str).any fun u => eqV u (.str z)) = decide (z ∈ zs) := ih
    rw [e]
    have e2 : eqV (.str y) (.str z) = (y == z) := rfl
    rw [e2]
    by_cases h : z = y
    · subst h
      simp
    · have h2 : ¬ y = z := fun q => h q.symm
      simp [h, h2]
theorem flat_strs (zs : List Str) : (zs.map V.str).all flatV = true := by
  rw [List.all_map]
  exact List.all_eq_true.mpr fun _ _ => rfl
theorem in_strs {K : PySem.W.Frag} {H : Hp} {z : Str} {p : Addr} (zs : List Str) {Q : VK} (e : SqT K H p (zs.map V.str)) (k : Q (.bl (decide (z ∈ zs))) H) : rIn K false (.str z) (.ref p) H Q := by
  refine ⟨p, _, rfl, .inr e, rfl, flat_strs zs, ?_⟩
  rw [if_neg (by decide), inV_strs]
  exact k
theorem notin_strs {K : PySem.W.Frag} {H : Hp} {z : Str} {p : Addr} (zs : List Str) {Q : VK} (e : SqT K H p (zs.map V.str)) (k : Q (.bl (decide (z ∉ zs))) H) : rIn K true (.str z) (.ref p) H Q := by
  refine ⟨p, _, rfl, .inr e, rfl, flat_strs zs, ?_⟩
  rw [if_pos rfl, inV_strs]
  have e2 : (!decide (z ∈ zs)) = decide (z ∉ zs) := by
    by_cases h : z ∈ zs <;> simp [h]
  rw [e2]
  exact k
end LH
/-! ## Lines -/
namespace LH
open PySem PySem.Spec PyProof.Rows L2
/-- text, caret and mark -/
structure Pic where
  t : List Nat
  c : Int
  m : Int
/-- a line: what is there, what was ahead of each group, what was taken back, the run -/
structure Ln where
  p : Pic
  b : List Pic
  l : List Pic
  r : Int
abbrev picV (p : Pic) : List V := [tv p.t, .int p.c, .int p.m]
def PicAt (H : Hp) (v : V) (p : Pic) : Prop := ∃ q, v = .ref q ∧ H q = some (.tup (picV p))
inductive PicsAt (H : Hp) : List V → List Pic → Prop
  | nil : PicsAt H [] []
  | cons {v : V} {p : Pic} {vs : List V} {ps : List Pic} : PicAt H v p → PicsAt H vs ps → PicsAt H (v :: vs) (p :: ps)
section
variable {F : List Addr} {H H' : Hp} {v : V} {p : Pic} {vs : List V} {ps : List Pic} {K : PySem.W.Frag}
theorem PicAt.fx (h : PicAt H v p) (x : Fx F H H') : PicAt H' v p := let ⟨q, e, t⟩ := h; ⟨q, e, x.tup t⟩
theorem PicsAt.fx (x : Fx F H H') : ∀ {vs : List V} {ps : List Pic}, PicsAt H vs ps → PicsAt H' vs ps
  | _, _, .nil => .nil
  | _, _, .cons h t => .cons (h.fx x) (t.fx x)
theorem PicsAt.len : ∀ {vs : List V} {ps : List Pic}, PicsAt H vs ps → vs.length = ps.length
  | _, _, .nil => rfl
  | _, _, .cons _ t => by rw [List.length_cons, List.length_cons, t.len]
theorem PicsAt.add : ∀ {vs : List V} {ps : List Pic}, PicsAt H vs ps → PicAt H v p → PicsAt H (vs ++ [v]) (ps ++ [p])
  | _, _, .nil, h => .cons h .nil
  | _, _, .cons h t, g => .cons h (t.add g)
theorem PicsAt.last : ∀ {vs : List V} {ps : List Pic}, PicsAt H vs ps → ∀ (us : List Pic) (p : Pic), ps = us ++ [p] → ∃ v ws, vs = ws ++ [v] ∧ PicAt H v p ∧ PicsAt H ws us
  | _, _, .nil, us, p, e => by
    cases us <;> cases e
  | v :: vs, q :: qs, .cons h t, us, p, e => by
    cases us with
    | nil =>
      cases e
      cases t
      exact ⟨v, [], rfl, h, .nil⟩
    | cons u us =>
      cases e
      obtain ⟨w, ws, rfl, a, b⟩ := t.last us p rfl
      exact ⟨w, v :: ws, rfl, a, .cons h b⟩
end
def LineAt (K : PySem.W.Frag) (H : Hp) (x ab al : Addr) (M : Ln) : Prop :=
  (∃ dx, H x = some (.ins (He.ga K "Line") dx (fs_Line (tv M.p.t) (.int M.p.c) (.int M.p.m) (.ref ab) (.ref al) (.int M.r)))) ∧
  (∃ vb, H ab = some (.lst vb) ∧ PicsAt H vb M.b) ∧ (∃ vl, H al = some (.lst vl) ∧ PicsAt H vl M.l) ∧ ab ≠ al
/-- behind a change of the line at x -/
def LineTo (K : PySem.W.Frag) (H : Hp) (x ab al : Addr) (M : Ln) (Q : Hp → Prop) : Prop :=
  ∀ ab' al' H', New H ab ab' → New H al al' → Fx [x, ab, al] H H' → LineAt K H' x ab' al' M → Q H'
def inT (t : List Nat) (i : Int) : Prop := 0 ≤ i ∧ i ≤ t.length
def Ln.go (M : Ln) (i : Int) : Ln := ⟨⟨M.p.t, i, M.p.m⟩, M.b, M.l, 0⟩
def Ln.markAt (M : Ln) (i : Int) : Ln := ⟨⟨M.p.t, M.p.c, i⟩, M.b, M.l, 0⟩
def Pic.put (p : Pic) (i j : Int) (new : List Nat) (c : Int) : Pic :=
  ⟨p.t.take i.toNat ++ new ++ p.t.drop j.toNat, c, if p.m ≥ j ∧ p.m > i then p.m - (j - i) + new.length else if p.m > i then i + new.length else p.m⟩
def Ln.change (M : Ln) (i j : Int) (new : List Nat) (c : Int) : Ln := ⟨M.p.put i j new c, M.b ++ [M.p], [], 0⟩
def Ln.write (M : Ln) (sign : List Nat) : Ln :=
  ⟨M.p.put M.p.c M.p.c sign (M.p.c + sign.length), if M.r = 0 ∨ M.r = 20 then M.b ++ [M.p] else M.b, [], if M.r = 0 ∨ M.r = 20 then 1 else M.r + 1⟩
def Ln.undo (M : Ln) : Ln := match M.b.getLast? with
  | none => ⟨M.p, M.b, M.l, 0⟩
  | some p => ⟨p, M.b.dropLast, M.l ++ [M.p], 0⟩
def Ln.redo (M : Ln) : Ln := match M.l.getLast? with
  | none => ⟨M.p, M.b, M.l, 0⟩
  | some p => ⟨p, M.b ++ [M.p], M.l.dropLast, 0⟩
def Ln.zero : Ln := ⟨⟨[], 0, 0⟩, [], [], 0⟩
def Ln.new (t : List Nat) : Ln := ⟨⟨t, t.length, 0⟩, [], [], 0⟩
/-- what check finds: places that are there, a text that isn't too long -/
def inTs (t : List Nat) (i j : Int) : Prop := inT t i ∧ inT t j
def fitsT (t : List Nat) (i j : Int) (new : List Nat) : Prop := okText new = true ∧ (t.length : Int) - (j - i) + new.length ≤ 400
instance {t : List Nat} {i : Int} : Decidable (inT t i) := inferInstanceAs (Decidable (_ ∧ _))
instance {t : List Nat} {i j : Int} : Decidable (inTs t i j) := inferInstanceAs (Decidable (_ ∧ _))
instance {t new : List Nat} {i j : Int} : Decidable (fitsT t i j new) := inferInstanceAs (Decidable (_ ∧ _))
def Chk (K : PySem.W.Frag) (t : List Nat) (i j : Int) (new : List Nat) (E : XK) (H : Hp) (A : Prop) : Prop :=
  if inTs t i j then (if fitsT t i j new then A else Rf K "BadText" E H) else Rf K "BadPlace" E H
theorem Chk.imp {K : PySem.W.Frag} {t new : List Nat} {i j : Int} {E : XK} {H : Hp} {A B : Prop} (k : Chk K t i j new E H A) (h : inTs t i j → fitsT t i j new → A → B) : Chk K t i j new E H B := by
  unfold Chk at k ⊢
  by_cases h1 : inTs t i j
  · rw [if_pos h1] at k ⊢
    by_cases h2 : fitsT t i j new
    · rw [if_pos h2] at k ⊢
      exact h h1 h2 k
    · rw [if_neg h2] at k ⊢
      exact k
  · rw [if_neg h1] at k ⊢
    exact k
/-- the object at x has other attributes -/
theorem LineAt.put {K : PySem.W.Frag} {H : Hp} {x ab al dx : Addr} {M : Ln} (R : LineAt K H x ab al M) (p : Pic) (r : Int) :
    LineAt K (upd H x (.ins (He.ga K "Line") dx (fs_Line (tv p.t) (.int p.c) (.int p.m) (.ref ab) (.ref al) (.int r)))) x ab al ⟨p, M.b, M.l, r⟩ ∧
      Fx [x, ab, al] H (upd H x (.ins (He.ga K "Line") dx (fs_Line (tv p.t) (.int p.c) (.int p.m) (.ref ab) (.ref al) (.int r)))) := by
  obtain ⟨⟨dx', hp⟩, ⟨vb, hb, pb⟩, ⟨vl, hl, pl⟩, n⟩ := R
  have f : ∀ {o : HO}, Fx [x, ab, al] H (upd H x o) := Fx.upd List.mem_cons_self (nt_ins hp)
  refine ⟨⟨⟨dx, upd_same⟩, ⟨vb, ?_, pb.fx f⟩, ⟨vl, ?_, pl.fx f⟩, n⟩, f⟩
  · rw [upd_ne (ne_il hp hb).symm]
    exact hb
  · rw [upd_ne (ne_il hp hl).symm]
    exact hl
theorem LineAt.fx {K : PySem.W.Frag} {F : List Addr} {H H' : Hp} {x ab al : Addr} {M : Ln} (R : LineAt K H x ab al M) (f : Fx F H H') (h1 : x ∉ F) (h2 : ab ∉ F) (h3 : al ∉ F) : LineAt K H' x ab al M := by
  obtain ⟨⟨dx, hp⟩, ⟨vb, hb, pb⟩, ⟨vl, hl, pl⟩, n⟩ := R
  exact ⟨⟨dx, f.at hp h1⟩, ⟨vb, f.at hb h2, pb.fx f⟩, ⟨vl, f.at hl h3, pl.fx f⟩, n⟩
theorem LineAt.same {K : PySem.W.Frag} {H H' : Hp} {x ab al : Addr} {M : Ln} (R : LineAt K H x ab al M) (s : Same H H') : LineAt K H' x ab al M :=
  R.fx (Fx.of (F := []) s) List.not_mem_nil List.not_mem_nil List.not_mem_nil
theorem LineTo.same {K : PySem.W.Frag} {H H1 : Hp} {x ab al : Addr} {M : Ln} {Q : Hp → Prop} (k : LineTo K H x ab al M Q) (s : Same H H1) : LineTo K H1 x ab al M Q :=
  fun ab' al' H' n1 n2 f R => k ab' al' H' (n1.imp id s.free) (n2.imp id s.free) ((Fx.of s).trans f) R
theorem LineTo.now {K : PySem.W.Frag} {H H' : Hp} {x ab al : Addr} {M : Ln} {Q : Hp → Prop} (k : LineTo K H x ab al M Q) (r : LineAt K H' x ab al M ∧ Fx [x, ab, al] H H') : Q H' := k ab al H' (.inl rfl) (.inl rfl) r.2 r.1
theorem LineTo.trans {K : PySem.W.Frag} {H H1 : Hp} {x ab al ab1 al1 : Addr} {M : Ln} {Q : Hp → Prop} (k : LineTo K H x ab al M Q) (f : Fx [x, ab, al] H H1) (n1 : New H ab ab1) (n2 : New H al al1) : LineTo K H1 x ab1 al1 M Q := fun ab' al' H' m1 m2 g R => by
  refine k ab' al' H' ?_ ?_ (f.comp g fun c hc => ?_) R
  · rcases m1 with rfl | m1
    · exact n1
    · exact .inr (f.free m1)
  · rcases m2 with rfl | m2
    · exact n2
    · exact .inr (f.free m2)
  · simp only [List.mem_cons, List.not_mem_nil, or_false] at hc ⊢
    rcases hc with q | q | q
    · exact .inl (.inl q)
    · rcases n1 with n | n
      · exact .inl (.inr (.inl (by rw [q, n])))
      · exact .inr (by rw [q]; exact n)
    · rcases n2 with n | n
      · exact .inl (.inr (.inr (by rw [q, n])))
      · exact .inr (by rw [q]; exact n)
/-- a picture more, ahead of the groups or behind -/
theorem LineAt.addB {K : PySem.W.Frag} {H : Hp} {x ab al q : Addr} {M : Ln} {vb : List V} (R : LineAt K H x ab al M) (hb : H ab = some (.lst vb)) (hq : H q = none) (p : Pic) :
    LineAt K (upd (upd H q (.tup (picV p))) ab (.lst (vb ++ [.ref q]))) x ab al ⟨M.p, M.b ++ [p], M.l, M.r⟩ ∧ Fx [x, ab, al] H (upd (upd H q (.tup (picV p))) ab (.lst (vb ++ [.ref q]))) := by
  obtain ⟨⟨dx, hp⟩, ⟨vb', hb', pb⟩, ⟨vl, hl, pl⟩, n⟩ := R
  rw [hb] at hb'
  cases hb'
  have n1 := ne_new hb hq
  have n2 := ne_new hp hq
  have n3 := ne_new hl hq
  have n4 := ne_il hp hb
  have f : Fx [x, ab, al] H (upd (upd H q (.tup (picV p))) ab (.lst (vb ++ [.ref q]))) := Fx.up (Fx.new hq) (List.mem_cons_of_mem _ List.mem_cons_self) (nt_lst (by rw [upd_ne n1]; exact hb))
  refine ⟨⟨⟨dx, ?_⟩, ⟨_, upd_same, (pb.fx f).add ⟨q, rfl, ?_⟩⟩, ⟨vl, ?_, pl.fx f⟩, n⟩, f⟩
  · rw [upd_ne n4, upd_ne n2]
    exact hp
  · rw [upd_ne n1.symm, upd_same]
  · rw [upd_ne n.symm, upd_ne n3]
    exact hl
theorem LineAt.addL {K : PySem.W.Frag} {H : Hp} {x ab al q : Addr} {M : Ln} {vl : List V} (R : LineAt K H x ab al M) (hl : H al = some (.lst vl)) (hq : H q = none) (p : Pic) :
    LineAt K (upd (upd H q (.tup (picV p))) al (.lst (vl ++ [.ref q]))) x ab al ⟨M.p, M.b, M.l ++ [p], M.r⟩ ∧ Fx [x, ab, al] H (upd (upd H q (.tup (picV p))) al (.lst (vl ++ [.ref q]))) := by
  obtain ⟨⟨dx, hp⟩, ⟨vb, hb, pb⟩, ⟨vl', hl', pl⟩, n⟩ := R
  rw [hl] at hl'
  cases hl'
  have n1 := ne_new hb hq
  have n2 := ne_new hp hq
  have n3 := ne_new hl hq
  have n4 := ne_il hp hl
  have f : Fx [x, ab, al] H (upd (upd H q (.tup (picV p))) al (.lst (vl ++ [.ref q]))) := Fx.up (Fx.new hq) (by simp) (nt_lst (by rw [upd_ne n3]; exact hl))
  refine ⟨⟨⟨dx, ?_⟩, ⟨vb, ?_, pb.fx f⟩, ⟨_, upd_same, (pl.fx f).add ⟨q, rfl, ?_⟩⟩, n⟩, f⟩
  · rw [upd_ne n4, upd_ne n2]
    exact hp
  · rw [upd_ne n, upd_ne n1]
    exact hb
  · rw [upd_ne n3.symm, upd_same]
/-- nothing is to be done again -/
theorem LineAt.newL {K : PySem.W.Frag} {H : Hp} {x ab al q dx : Addr} {M : Ln} (R : LineAt K H x ab al M) (hq : H q = none) (p : Pic) (r : Int) :
    LineAt K (upd (upd H q (.lst [])) x (.ins (He.ga K "Line") dx (fs_Line (tv p.t) (.int p.c) (.int p.m) (.ref ab) (.ref q) (.int r)))) x ab q ⟨p, M.b, [], r⟩ ∧
      Fx [x, ab, al] H (upd (upd H q (.lst [])) x (.ins (He.ga K "Line") dx (fs_Line (tv p.t) (.int p.c) (.int p.m) (.ref ab) (.ref q) (.int r)))) := by
  obtain ⟨⟨dx', hp⟩, ⟨vb, hb, pb⟩, ⟨vl, hl, pl⟩, n⟩ := R
  have n1 := ne_new hb hq
  have n2 := ne_new hp hq
  have n4 := ne_il hp hb
  have f : Fx [x, ab, al] H (upd (upd H q (.lst [])) x (.ins (He.ga K "Line") dx (fs_Line (tv p.t) (.int p.c) (.int p.m) (.ref ab) (.ref q) (.int r)))) := Fx.up (Fx.new hq) List.mem_cons_self (nt_ins (by rw [upd_ne n2]; exact hp))
  refine ⟨⟨⟨dx, upd_same⟩, ⟨vb, ?_, pb.fx f⟩, ⟨[], ?_, .nil⟩, n1⟩, f⟩
  · rw [upd_ne n4.symm, upd_ne n1]
    exact hb
  · rw [upd_ne n2.symm, upd_same]
theorem LineAt.newB {K : PySem.W.Frag} {H : Hp} {x ab al q dx : Addr} {M : Ln} (R : LineAt K H x ab al M) (hq : H q = none) (p : Pic) (r : Int) :
    LineAt K (upd (upd H q (.lst [])) x (.ins (He.ga K "Line") dx (fs_Line (tv p.t) (.int p.c) (.int p.m) (.ref q) (.ref al) (.int r)))) x q al ⟨p, [], M.l, r⟩ ∧
      Fx [x, ab, al] H (upd (upd H q (.lst [])) x (.ins (He.ga K "Line") dx (fs_Line (tv p.t) (.int p.c) (.int p.m) (.ref q) (.ref al) (.int r)))) := by
  obtain ⟨⟨dx', hp⟩, ⟨vb, hb, pb⟩, ⟨vl, hl, pl⟩, n⟩ := R
  have n1 := ne_new hl hq
  have n2 := ne_new hp hq
  have n4 := ne_il hp hl
  have f : Fx [x, ab, al] H (upd (upd H q (.lst [])) x (.ins (He.ga K "Line") dx (fs_Line (tv p.t) (.int p.c) (.int p.m) (.ref q) (.ref al) (.int r)))) := Fx.up (Fx.new hq) List.mem_cons_self (nt_ins (by rw [upd_ne n2]; exact hp))
  refine ⟨⟨⟨dx, upd_same⟩, ⟨[], ?_, .nil⟩, ⟨vl, ?_, pl.fx f⟩, n1.symm⟩, f⟩
  · rw [upd_ne n2.symm, upd_same]
  · rw [upd_ne n4.symm, upd_ne n1]
    exact hl
/-- the last one is taken -/
theorem LineAt.popB {K : PySem.W.Frag} {H : Hp} {x ab al : Addr} {M : Ln} {vb : List V} {us : List Pic} {p : Pic} (R : LineAt K H x ab al M) (hb : H ab = some (.lst vb)) (e : M.b = us ++ [p]) :
    ∃ q, vb[vb.length - 1]? = some (.ref q) ∧ H q = some (.tup (picV p)) ∧ LineAt K (upd H ab (.lst vb.dropLast)) x ab al ⟨M.p, us, M.l, M.r⟩ ∧ Fx [x, ab, al] H (upd H ab (.lst vb.dropLast)) := by
  obtain ⟨⟨dx, hp⟩, ⟨vb', hb', pb⟩, ⟨vl, hl, pl⟩, n⟩ := R
  rw [hb] at hb'
  cases hb'
  obtain ⟨v, ws, rfl, ⟨q, rfl, hq⟩, pw⟩ := pb.last us p e
  have f : Fx [x, ab, al] H (upd H ab (.lst (ws ++ [V.ref q]).dropLast)) := Fx.upd (by simp) (nt_lst hb)
  refine ⟨q, by simp, hq, ⟨⟨dx, ?_⟩, ⟨_, upd_same, ?_⟩, ⟨vl, ?_, pl.fx f⟩, n⟩, f⟩
  · rw [upd_ne (ne_il hp hb)]
    exact hp
  · have z := pw.fx f
    rw [List.dropLast_concat] at z ⊢
    exact z
  · rw [upd_ne n.symm]
    exact hl
theorem LineAt.popL {K : PySem.W.Frag} {H : Hp} {x ab al : Addr} {M : Ln} {vl : List V} {us : List Pic} {p : Pic} (R : LineAt K H x ab al M) (hl : H al = some (.lst vl)) (e : M.l = us ++ [p]) :
    ∃ q, vl[vl.length - 1]? = some (.ref q) ∧ H q = some (.tup (picV p)) ∧ LineAt K (upd H al (.lst vl.dropLast)) x ab al ⟨M.p, M.b, us, M.r⟩ ∧ Fx [x, ab, al] H (upd H al (.lst vl.dropLast)) := by
  obtain ⟨⟨dx, hp⟩, ⟨vb, hb, pb⟩, ⟨vl', hl', pl⟩, n⟩ := R
  rw [hl] at hl'
  cases hl'
  obtain ⟨v, ws, rfl, ⟨q, rfl, hq⟩, pw⟩ := pl.last us p e
  have f : Fx [x, ab, al] H (upd H al (.lst (ws ++ [V.ref q]).dropLast)) := Fx.upd (by simp) (nt_lst hl)
  refine ⟨q, by simp, hq, ⟨⟨dx, ?_⟩, ⟨vb, ?_, pb.fx f⟩, ⟨_, upd_same, ?_⟩, n⟩, f⟩
  · rw [upd_ne (ne_il hp hl)]
    exact hp
  · rw [upd_ne n]
    exact hb
  · have z := pw.fx f
    rw [List.dropLast_concat] at z ⊢
    exact z
def spLine (K : PySem.W.Frag) : Sp := fun vs H Q E => ∃ (x dx : Addr) (t : List Nat), vs = [.ref x, tv t] ∧ H x = some (.ins (He.ga K "Line") dx []) ∧ t.length ≤ 100000 ∧
  if okText t = true then (∀ ab al H', H ab = none → H al = none → Fx [x] H H' → LineAt K H' x ab al (.new t) → Q .non H') else Rf K "BadText" E H
def spGet (K : PySem.W.Frag) (C f : Str) : Sp := fun vs H Q _ => ∃ (x dx : Addr) (fs : List (Str × V)) (v : V), vs = [.ref x] ∧ H x = some (.ins (He.ga K C) dx fs) ∧ fs.lookup f = some v ∧ Q v H
def spLGo (K : PySem.W.Frag) : Sp := fun vs H Q E => ∃ (x ab al : Addr) (M : Ln) (i : Int), vs = [.ref x, .int i] ∧ LineAt K H x ab al M ∧ M.p.t.length ≤ 100000 ∧
  if inT M.p.t i then LineTo K H x ab al (M.go i) (Q .non) else Rf K "BadPlace" E H
def spLMark (K : PySem.W.Frag) : Sp := fun vs H Q E => ∃ (x ab al : Addr) (M : Ln) (i : Int), vs = [.ref x, .int i] ∧ LineAt K H x ab al M ∧ M.p.t.length ≤ 100000 ∧
  if inT M.p.t i then LineTo K H x ab al (M.markAt i) (Q .non) else Rf K "BadPlace" E H
def spLRest (K : PySem.W.Frag) : Sp := fun vs H Q E => ∃ (x ab al : Addr) (M : Ln), vs = [.ref x] ∧ LineAt K H x ab al M ∧ LineTo K H x ab al ⟨M.p, M.b, M.l, 0⟩ (Q .non)
def spLPicture (K : PySem.W.Frag) : Sp := fun vs H Q E => ∃ (x ab al : Addr) (M : Ln), vs = [.ref x] ∧ LineAt K H x ab al M ∧ ∀ q, H q = none → Q (.ref q) (upd H q (.tup (picV M.p)))
def spLShow (K : PySem.W.Frag) : Sp := fun vs H Q E => ∃ (x ab al q : Addr) (M : Ln) (p : Pic), vs = [.ref x, .ref q] ∧ LineAt K H x ab al M ∧ H q = some (.tup (picV p)) ∧ LineTo K H x ab al ⟨p, M.b, M.l, M.r⟩ (Q .non)
def spLCheck (K : PySem.W.Frag) : Sp := fun vs H Q E => ∃ (x ab al : Addr) (M : Ln) (i j : Int) (new : List Nat), vs = [.ref x, .int i, .int j, tv new] ∧ LineAt K H x ab al M ∧ M.p.t.length ≤ 100000 ∧ new.length ≤ 100000 ∧
  Chk K M.p.t i j new E H (∀ H', Same H H' → Q .non H')
def spLReplace (K : PySem.W.Frag) : Sp := fun vs H Q E => ∃ (x ab al : Addr) (M : Ln) (i j : Int) (new : List Nat) (c : Int), vs = [.ref x, .int i, .int j, tv new, .int c] ∧ LineAt K H x ab al M ∧ M.p.t.length ≤ 100000 ∧ new.length ≤ 100000 ∧ inTs M.p.t i j ∧
  LineTo K H x ab al ⟨M.p.put i j new c, M.b, M.l, M.r⟩ (Q .non)
def spLChange (K : PySem.W.Frag) : Sp := fun vs H Q E => ∃ (x ab al : Addr) (M : Ln) (i j : Int) (new : List Nat) (c : Int), vs = [.ref x, .int i, .int j, tv new, .int c] ∧ LineAt K H x ab al M ∧ M.p.t.length ≤ 100000 ∧ new.length ≤ 100000 ∧ M.b.length ≤ 10000000 ∧
  Chk K M.p.t i j new E H (LineTo K H x ab al (M.change i j new c) (Q .non))
def spLWrite (K : PySem.W.Frag) : Sp := fun vs H Q E => ∃ (x ab al : Addr) (M : Ln) (sign : List Nat), vs = [.ref x, tv sign] ∧ LineAt K H x ab al M ∧ M.p.t.length ≤ 100000 ∧ sign.length ≤ 100000 ∧ M.b.length ≤ 10000000 ∧ inT M.p.t M.p.c ∧
  if fitsT M.p.t M.p.c M.p.c sign then LineTo K H x ab al (M.write sign) (Q .non) else Rf K "BadText" E H
def spLUndo (K : PySem.W.Frag) : Sp := fun vs H Q E => ∃ (x ab al : Addr) (M : Ln), vs = [.ref x] ∧ LineAt K H x ab al M ∧ M.l.length ≤ 10000000 ∧ LineTo K H x ab al M.undo (Q (.bl (decide (M.b ≠ []))))
def spLRedo (K : PySem.W.Frag) : Sp := fun vs H Q E => ∃ (x ab al : Addr) (M : Ln), vs = [.ref x] ∧ LineAt K H x ab al M ∧ M.b.length ≤ 10000000 ∧ LineTo K H x ab al M.redo (Q (.bl (decide (M.l ≠ []))))
def spLClear (K : PySem.W.Frag) : Sp := fun vs H Q E => ∃ (x ab al : Addr) (M : Ln), vs = [.ref x] ∧ LineAt K H x ab al M ∧ LineTo K H x ab al .zero (Q .non)
def spLGroups (K : PySem.W.Frag) : Sp := fun vs H Q E => ∃ (x ab al : Addr) (M : Ln), vs = [.ref x] ∧ LineAt K H x ab al M ∧ ∀ q, H q = none → Q (.ref q) (upd H q (.tup [.int (M.b.length : Nat), .int (M.l.length : Nat)]))
section
variable {P : Program} {w : World} {K : PySem.W.Frag} {mg : Str → Option Value} {base : Heap}
theorem d_Line_init (T : TX K mg) : Mn P w K mg base 3 "Line" (He.ga K "Line") p_Line_init (spLine K) := by
  refine mn_of (fn_Line_init T) (mk_Line T) (g_Line T) sc_Line_init bd_Line_init (fun vs H Q E h => ?_) (fun cdv A outer s H vs Q E hr h => ?_)
  · obtain ⟨x, dx, t, rfl, _⟩ := h
    rfl
  · obtain ⟨x, dx, t, rfl, hp, ht, k⟩ := h
    refine ⟨_, (pss_cons (ps_expr (pc (d_look_text T) (hr.mono (by decide)) px (pa_cons (pv 1) pa_nil))) (pss_cons (ps_fld (pv 0) (pv 1) rfl) (pss_cons (ps_fld (pv 0) (pe_callB call_len_str (by rfl) (b_len T) boot_len (pa_cons (pv 1) pa_nil)) rfl) (pss_cons (ps_fld (pv 0) pe_int rfl) (pss_cons (ps_fld (pv 0) (pe_lst pa_nil) rfl) (pss_cons (ps_fld (pv 0) (pe_lst pa_nil) rfl) (pss_one (ps_fld (pv 0) pe_int rfl)))))))), ?_⟩
    walk_at "rd"
    refine ⟨t, rfl, ht, ?_⟩
    by_cases ok : okText t = true
    · rw [if_pos ok] at k ⊢
      intro H1 s1
      have hp1 := s1 _ _ hp
      simp only [List.getElem?_cons_zero, List.getElem?_cons_succ, List.set_cons_zero, List.set_cons_succ, List.cons_append, List.nil_append, List.append_nil, Option.some.injEq, V.int.injEq, V.str.injEq, V.bl.injEq, V.ref.injEq, List.cons.injEq, HO.ins.injEq, HO.lst.injEq, HO.tup.injEq, S_inj, ofS_inj, String.reduceEq, ex_eq, ex_eq', ex_eq0, tLc_eq, tFor_eq, iStr, iRng1, iRng2, iList, iTup, tVar, tC, tOp, tCons, tNil, tCB, tFld, tCallS, tMethW, tMakeS, WE, wKeep, tLits, tLst, tTup, wipe, rI, rI0, rU, rEq, rNe, scII, scSS, scBB, scNN, scNI, scNS, scNB, scIN, scSN, scBN, scIS, scSI, if_tt, if_ff, and_true, true_and, and_assoc, exists_and_left, exists_and_right, exists_const, cxK, decide_true, decide_false, Bool.not_true, Bool.not_false, eq_self_iff_true, Bool.true_eq_false, Bool.false_eq_true, if_true, if_false, reduceCtorEq, S_len, S_one, S_tl, decide_eq_true_eq, tUn, tAndV, tOrV, tNotV, tIf, tAnd, tOr, tNot, tB, tTest, tChain, tCall, tMeth, tMake, sFld, tSeq, tNext, tAsg, gName, tIfS, tRet, tRetN, tDrop, tM0, tM1, tBM, tBM0, rAppend, rPop, tSl, tPart, tNoPart, rIxL, rIxT, rIxS, rSlS, rSlL, rCat, tRevL, tDisp, tPairs, tDGet, sDPut, gTup, gCons, gNil, gSub, gAttr, rSetL, tv, fk_Line T, lk_Line, inj_Line, hp1, mk_fs_Line, upd_same, upd_upd]
      refine ⟨sline ht, by decide, fun al hal => ?_⟩
      obtain ⟨n1, hal⟩ := un hal
      simp only [List.getElem?_cons_zero, List.getElem?_cons_succ, List.set_cons_zero, List.set_cons_succ, List.cons_append, List.nil_append, List.append_nil, Option.some.injEq, V.int.injEq, V.str.injEq, V.bl.injEq, V.ref.injEq, List.cons.injEq, HO.ins.injEq, HO.lst.injEq, HO.tup.injEq, S_inj, ofS_inj, String.reduceEq, ex_eq, ex_eq', ex_eq0, tLc_eq, tFor_eq, iStr, iRng1, iRng2, iList, iTup, tVar, tC, tOp, tCons, tNil, tCB, tFld, tCallS, tMethW, tMakeS, WE, wKeep, tLits, tLst, tTup, wipe, rI, rI0, rU, rEq, rNe, scII, scSS, scBB, scNN, scNI, scNS, scNB, scIN, scSN, scBN, scIS, scSI, if_tt, if_ff, and_true, true_and, and_assoc, exists_and_left, exists_and_right, exists_const, cxK, decide_true, decide_false, Bool.not_true, Bool.not_false, eq_self_iff_true, Bool.true_eq_false, Bool.false_eq_true, if_true, if_false, reduceCtorEq, S_len, S_one, S_tl, decide_eq_true_eq, tUn, tAndV, tOrV, tNotV, tIf, tAnd, tOr, tNot, tB, tTest, tChain, tCall, tMeth, tMake, sFld, tSeq, tNext, tAsg, gName, tIfS, tRet, tRetN, tDrop, tM0, tM1, tBM, tBM0, rAppend, rPop, tSl, tPart, tNoPart, rIxL, rIxT, rIxS, rSlS, rSlL, rCat, tRevL, tDisp, tPairs, tDGet, sDPut, gTup, gCons, gNil, gSub, gAttr, rSetL, tv, fk_Line T, lk_Line, inj_Line, hp1, mk_fs_Line, upd_same, upd_upd, upd_ne n1]
      refine ⟨by decide, fun ar har => ?_⟩
      obtain ⟨n2, har⟩ := un har
      obtain ⟨n3, har⟩ := un har
      obtain ⟨_, har⟩ := un har
      simp only [List.getElem?_cons_zero, List.getElem?_cons_succ, List.set_cons_zero, List.set_cons_succ, List.cons_append, List.nil_append, List.append_nil, Option.some.injEq, V.int.injEq, V.str.injEq, V.bl.injEq, V.ref.injEq, List.cons.injEq, HO.ins.injEq, HO.lst.injEq, HO.tup.injEq, S_inj, ofS_inj, String.reduceEq, ex_eq, ex_eq', ex_eq0, tLc_eq, tFor_eq, iStr, iRng1, iRng2, iList, iTup, tVar, tC, tOp, tCons, tNil, tCB, tFld, tCallS, tMethW, tMakeS, WE, wKeep, tLits, tLst, tTup, wipe, rI, rI0, rU, rEq, rNe, scII, scSS, scBB, scNN, scNI, scNS, scNB, scIN, scSN, scBN, scIS, scSI, if_tt, if_ff, and_true, true_and, and_assoc, exists_and_left, exists_and_right, exists_const, cxK, decide_true, decide_false, Bool.not_true, Bool.not_false, eq_self_iff_true, Bool.true_eq_false, Bool.false_eq_true, if_true, if_false, reduceCtorEq, S_len, S_one, S_tl, decide_eq_true_eq, tUn, tAndV, tOrV, tNotV, tIf, tAnd, tOr, tNot, tB, tTest, tChain, tCall, tMeth, tMake, sFld, tSeq, tNext, tAsg, gName, tIfS, tRet, tRetN, tDrop, tM0, tM1, tBM, tBM0, rAppend, rPop, tSl, tPart, tNoPart, rIxL, rIxT, rIxS, rSlS, rSlL, rCat, tRevL, tDisp, tPairs, tDGet, sDPut, gTup, gCons, gNil, gSub, gAttr, rSetL, tv, fk_Line T, lk_Line, inj_Line, hp1, mk_fs_Line, upd_same, upd_upd, upd_ne n1, upd_ne n2]
      refine k al ar _ (s1.free hal) (s1.free har) ?_ ⟨⟨dx, upd_same⟩, ⟨[], ?_, .nil⟩, ⟨[], ?_, .nil⟩, n3⟩
      · have m : x ∈ [x] := List.mem_cons_self
        refine Fx.up (Fx.nw (Fx.up (Fx.nw (Fx.up (Fx.of s1) m (nt_ins hp1)) ?_) m (nt_ins (by rw [upd_ne n1, upd_same]))) ?_) m (nt_ins (by rw [upd_ne n2, upd_same]))
        · rw [upd_ne n1.symm]
          exact hal
        · rw [upd_ne n2.symm, upd_ne n3.symm, upd_ne n2.symm]
          exact har
      · rw [upd_ne n1.symm, upd_ne n3, upd_ne n1.symm, upd_same]
      · rw [upd_ne n2.symm, upd_same]
    · rw [if_neg ok] at k ⊢
      exact k
theorem d_Line_text (T : TX K mg) : Mt P w K mg base 1 (He.ga K "Line") "text" p_Line_text (spGet K "Line" "now") := by
  refine mt_of (fn_Line_text T) (cl_Line T) (me_Line_text T) sc_Line_text bd_Line_text (fun vs H Q E h => ?_) (fun cdv A outer s H vs Q E hr h => ?_)
  · obtain ⟨x, dx, fs, v, rfl, _⟩ := h
    rfl
  · obtain ⟨x, dx, fs, v, rfl, hp, hv, q⟩ := h
    refine ⟨_, (pss_one (ps_ret (pe_fld (pv 0) rfl))), ?_⟩
    walk_at "rd"
    simp only [List.getElem?_cons_zero, List.getElem?_cons_succ, List.set_cons_zero, List.set_cons_succ, List.cons_append, List.nil_append, List.append_nil, Option.some.injEq, V.int.injEq, V.str.injEq, V.bl.injEq, V.ref.injEq, List.cons.injEq, HO.ins.injEq, HO.lst.injEq, HO.tup.injEq, S_inj, ofS_inj, String.reduceEq, ex_eq, ex_eq', ex_eq0, tLc_eq, tFor_eq, iStr, iRng1, iRng2, iList, iTup, tVar, tC, tOp, tCons, tNil, tCB, tFld, tCallS, tMethW, tMakeS, WE, wKeep, tLits, tLst, tTup, wipe, rI, rI0, rU, rEq, rNe, scII, scSS, scBB, scNN, scNI, scNS, scNB, scIN, scSN, scBN, scIS, scSI, if_tt, if_ff, and_true, true_and, and_assoc, exists_and_left, exists_and_right, exists_const, cxK, decide_true, decide_false, Bool.not_true, Bool.not_false, eq_self_iff_true, Bool.true_eq_false, Bool.false_eq_true, if_true, if_false, reduceCtorEq, S_len, S_one, S_tl, decide_eq_true_eq, tUn, tAndV, tOrV, tNotV, tIf, tAnd, tOr, tNot, tB, tTest, tChain, tCall, tMeth, tMake, sFld, tSeq, tNext, tAsg, gName, tIfS, tRet, tRetN, tDrop, tM0, tM1, tBM, tBM0, rAppend, rPop, tSl, tPart, tNoPart, rIxL, rIxT, rIxS, rSlS, rSlL, rCat, tRevL, tDisp, tPairs, tDGet, sDPut, gTup, gCons, gNil, gSub, gAttr, rSetL, tv, fk_Line T, lk_Line, inj_Line, hp, hv]
    exact q
theorem d_Line_at (T : TX K mg) : Mt P w K mg base 1 (He.ga K "Line") "at" p_Line_at (spGet K "Line" "caret") := by
  refine mt_of (fn_Line_at T) (cl_Line T) (me_Line_at T) sc_Line_at bd_Line_at (fun vs H Q E h => ?_) (fun cdv A outer s H vs Q E hr h => ?_)
  · obtain ⟨x, dx, fs, v, rfl, _⟩ := h
    rfl
  · obtain ⟨x, dx, fs, v, rfl, hp, hv, q⟩ := h
    refine ⟨_, (pss_one (ps_ret (pe_fld (pv 0) rfl))), ?_⟩
    walk_at "rd"
    simp only [List.getElem?_cons_zero, List.getElem?_cons_succ, List.set_cons_zero, List.set_cons_succ, List.cons_append, List.nil_append, List.append_nil, Option.some.injEq, V.int.injEq, V.str.injEq, V.bl.injEq, V.ref.injEq, List.cons.injEq, HO.ins.injEq, HO.lst.injEq, HO.tup.injEq, S_inj, ofS_inj, String.reduceEq, ex_eq, ex_eq', ex_eq0, tLc_eq, tFor_eq, iStr, iRng1, iRng2, iList, iTup, tVar, tC, tOp, tCons, tNil, tCB, tFld, tCallS, tMethW, tMakeS, WE, wKeep, tLits, tLst, tTup, wipe, rI, rI0, rU, rEq, rNe, scII, scSS, scBB, scNN, scNI, scNS, scNB, scIN, scSN, scBN, scIS, scSI, if_tt, if_ff, and_true, true_and, and_assoc, exists_and_left, exists_and_right, exists_const, cxK, decide_true, decide_false, Bool.not_true, Bool.not_false, eq_self_iff_true, Bool.true_eq_false, Bool.false_eq_true, if_true, if_false, reduceCtorEq, S_len, S_one, S_tl, decide_eq_true_eq, tUn, tAndV, tOrV, tNotV, tIf, tAnd, tOr, tNot, tB, tTest, tChain, tCall, tMeth, tMake, sFld, tSeq, tNext, tAsg, gName, tIfS, tRet, tRetN, tDrop, tM0, tM1, tBM, tBM0, rAppend, rPop, tSl, tPart, tNoPart, rIxL, rIxT, rIxS, rSlS, rSlL, rCat, tRevL, tDisp, tPairs, tDGet, sDPut, gTup, gCons, gNil, gSub, gAttr, rSetL, tv, fk_Line T, lk_Line, inj_Line, hp, hv]
    exact q
theorem d_Line_go (T : TX K mg) : Mt P w K mg base 2 (He.ga K "Line") "go" p_Line_go (spLGo K) := by
  refine mt_of (fn_Line_go T) (cl_Line T) (me_Line_go T) sc_Line_go bd_Line_go (fun vs H Q E h => ?_) (fun cdv A outer s H vs Q E hr h => ?_)
  · obtain ⟨x, ab, al, M, i, rfl, _⟩ := h
    rfl
  · obtain ⟨x, ab, al, M, i, rfl, R, ht, k⟩ := h
    obtain ⟨⟨dx, hp⟩, ⟨vb, hb, pb⟩, ⟨vl, hl, pl⟩, nbl⟩ := id R
    have nb := ne_il hp hb
    have nl := ne_il hp hl
    refine ⟨_, (pss_cons (ps_expr (pc (d_look_place T) (hr.mono (by decide)) px (pa_cons (pe_fld (pv 0) rfl) (pa_cons (pv 1) pa_nil)))) (pss_cons (ps_fld (pv 0) (pv 1) rfl) (pss_one (ps_fld (pv 0) pe_int rfl)))), ?_⟩
    walk_at "rd"
    simp only [List.getElem?_cons_zero, List.getElem?_cons_succ, List.set_cons_zero, List.set_cons_succ, List.cons_append, List.nil_append, List.append_nil, Option.some.injEq, V.int.injEq, V.str.injEq, V.bl.injEq, V.ref.injEq, List.cons.injEq, HO.ins.injEq, HO.lst.injEq, HO.tup.injEq, S_inj, ofS_inj, String.reduceEq, ex_eq, ex_eq', ex_eq0, tLc_eq, tFor_eq, iStr, iRng1, iRng2, iList, iTup, tVar, tC, tOp, tCons, tNil, tCB, tFld, tCallS, tMethW, tMakeS, WE, wKeep, tLits, tLst, tTup, wipe, rI, rI0, rU, rEq, rNe, scII, scSS, scBB, scNN, scNI, scNS, scNB, scIN, scSN, scBN, scIS, scSI, if_tt, if_ff, and_true, true_and, and_assoc, exists_and_left, exists_and_right, exists_const, cxK, decide_true, decide_false, Bool.not_true, Bool.not_false, eq_self_iff_true, Bool.true_eq_false, Bool.false_eq_true, if_true, if_false, reduceCtorEq, S_len, S_one, S_tl, decide_eq_true_eq, tUn, tAndV, tOrV, tNotV, tIf, tAnd, tOr, tNot, tB, tTest, tChain, tCall, tMeth, tMake, sFld, tSeq, tNext, tAsg, gName, tIfS, tRet, tRetN, tDrop, tM0, tM1, tBM, tBM0, rAppend, rPop, tSl, tPart, tNoPart, rIxL, rIxT, rIxS, rSlS, rSlL, rCat, tRevL, tDisp, tPairs, tDGet, sDPut, gTup, gCons, gNil, gSub, gAttr, rSetL, tv, upd_same, upd_upd, List.length_cons, List.length_nil, Nat.reduceAdd, Nat.zero_add, lines, fk_Line T, lk_Line, inj_Line, hp]
    refine ⟨M.p.t, i, rfl, ht, ?_⟩
    by_cases hi : inT M.p.t i
    · rw [if_pos hi] at k
      rw [if_pos (show 0 ≤ i ∧ i ≤ (M.p.t.length : Int) from hi)]
      simp only [List.getElem?_cons_zero, List.getElem?_cons_succ, List.set_cons_zero, List.set_cons_succ, List.cons_append, List.nil_append, List.append_nil, Option.some.injEq, V.int.injEq, V.str.injEq, V.bl.injEq, V.ref.injEq, List.cons.injEq, HO.ins.injEq, HO.lst.injEq, HO.tup.injEq, S_inj, ofS_inj, String.reduceEq, ex_eq, ex_eq', ex_eq0, tLc_eq, tFor_eq, iStr, iRng1, iRng2, iList, iTup, tVar, tC, tOp, tCons, tNil, tCB, tFld, tCallS, tMethW, tMakeS, WE, wKeep, tLits, tLst, tTup, wipe, rI, rI0, rU, rEq, rNe, scII, scSS, scBB, scNN, scNI, scNS, scNB, scIN, scSN, scBN, scIS, scSI, if_tt, if_ff, and_true, true_and, and_assoc, exists_and_left, exists_and_right, exists_const, cxK, decide_true, decide_false, Bool.not_true, Bool.not_false, eq_self_iff_true, Bool.true_eq_false, Bool.false_eq_true, if_true, if_false, reduceCtorEq, S_len, S_one, S_tl, decide_eq_true_eq, tUn, tAndV, tOrV, tNotV, tIf, tAnd, tOr, tNot, tB, tTest, tChain, tCall, tMeth, tMake, sFld, tSeq, tNext, tAsg, gName, tIfS, tRet, tRetN, tDrop, tM0, tM1, tBM, tBM0, rAppend, rPop, tSl, tPart, tNoPart, rIxL, rIxT, rIxS, rSlS, rSlL, rCat, tRevL, tDisp, tPairs, tDGet, sDPut, gTup, gCons, gNil, gSub, gAttr, rSetL, tv, upd_same, upd_upd, List.length_cons, List.length_nil, Nat.reduceAdd, Nat.zero_add, lines, fk_Line T, lk_Line, inj_Line, hp]
      exact k.now (R.put ⟨M.p.t, i, M.p.m⟩ 0)
    · rw [if_neg hi] at k
      rw [if_neg (show ¬ (0 ≤ i ∧ i ≤ (M.p.t.length : Int)) from hi)]
      exact k
theorem d_Line_put_mark (T : TX K mg) : Mt P w K mg base 2 (He.ga K "Line") "put_mark" p_Line_put_mark (spLMark K) := by
  refine mt_of (fn_Line_put_mark T) (cl_Line T) (me_Line_put_mark T) sc_Line_put_mark bd_Line_put_mark (fun vs H Q E h => ?_) (fun cdv A outer s H vs Q E hr h => ?_)
  · obtain ⟨x, ab, al, M, i, rfl, _⟩ := h
    rfl
  · obtain ⟨x, ab, al, M, i, rfl, R, ht, k⟩ := h
    obtain ⟨⟨dx, hp⟩, ⟨vb, hb, pb⟩, ⟨vl, hl, pl⟩, nbl⟩ := id R
    have nb := ne_il hp hb
    have nl := ne_il hp hl
    refine ⟨_, (pss_cons (ps_expr (pc (d_look_place T) (hr.mono (by decide)) px (pa_cons (pe_fld (pv 0) rfl) (pa_cons (pv 1) pa_nil)))) (pss_cons (ps_fld (pv 0) (pv 1) rfl) (pss_one (ps_fld (pv 0) pe_int rfl)))), ?_⟩
    walk_at "rd"
    simp only [List.getElem?_cons_zero, List.getElem?_cons_succ, List.set_cons_zero, List.set_cons_succ, List.cons_append, List.nil_append, List.append_nil, Option.some.injEq, V.int.injEq, V.str.injEq, V.bl.injEq, V.ref.injEq, List.cons.injEq, HO.ins.injEq, HO.lst.injEq, HO.tup.injEq, S_inj, ofS_inj, String.reduceEq, ex_eq, ex_eq', ex_eq0, tLc_eq, tFor_eq, iStr, iRng1, iRng2, iList, iTup, tVar, tC, tOp, tCons, tNil, tCB, tFld, tCallS, tMethW, tMakeS, WE, wKeep, tLits, tLst, tTup, wipe, rI, rI0, rU, rEq, rNe, scII, scSS, scBB, scNN, scNI, scNS, scNB, scIN, scSN, scBN, scIS, scSI, if_tt, if_ff, and_true, true_and, and_assoc, exists_and_left, exists_and_right, exists_const, cxK, decide_true, decide_false, Bool.not_true, Bool.not_false, eq_self_iff_true, Bool.true_eq_false, Bool.false_eq_true, if_true, if_false, reduceCtorEq, S_len, S_one, S_tl, decide_eq_true_eq, tUn, tAndV, tOrV, tNotV, tIf, tAnd, tOr, tNot, tB, tTest, tChain, tCall, tMeth, tMake, sFld, tSeq, tNext, tAsg, gName, tIfS, tRet, tRetN, tDrop, tM0, tM1, tBM, tBM0, rAppend, rPop, tSl, tPart, tNoPart, rIxL, rIxT, rIxS, rSlS, rSlL, rCat, tRevL, tDisp, tPairs, tDGet, sDPut, gTup, gCons, gNil, gSub, gAttr, rSetL, tv, upd_same, upd_upd, List.length_cons, List.length_nil, Nat.reduceAdd, Nat.zero_add, lines, fk_Line T, lk_Line, inj_Line, hp]
    refine ⟨M.p.t, i, rfl, ht, ?_⟩
    by_cases hi : inT M.p.t i
    · rw [if_pos hi] at k
      rw [if_pos (show 0 ≤ i ∧ i ≤ (M.p.t.length : Int) from hi)]
      simp only [List.getElem?_cons_zero, List.getElem?_cons_succ, List.set_cons_zero, List.set_cons_succ, List.cons_append, List.nil_append, List.append_nil, Option.some.injEq, V.int.injEq, V.str.injEq, V.bl.injEq, V.ref.injEq, List.cons.injEq, HO.ins.injEq, HO.lst.injEq, HO.tup.injEq, S_inj, ofS_inj, String.reduceEq, ex_eq, ex_eq', ex_eq0, tLc_eq, tFor_eq, iStr, iRng1, iRng2, iList, iTup, tVar, tC, tOp, tCons, tNil, tCB, tFld, tCallS, tMethW, tMakeS, WE, wKeep, tLits, tLst, tTup, wipe, rI, rI0, rU, rEq, rNe, scII, scSS, scBB, scNN, scNI, scNS, scNB, scIN, scSN, scBN, scIS, scSI, if_tt, if_ff, and_true, true_and, and_assoc, exists_and_left, exists_and_right, exists_const, cxK, decide_true, decide_false, Bool.not_true, Bool.not_false, eq_self_iff_true, Bool.true_eq_false, Bool.false_eq_true, if_true, if_false, reduceCtorEq, S_len, S_one, S_tl, decide_eq_true_eq, tUn, tAndV, tOrV, tNotV, tIf, tAnd, tOr, tNot, tB, tTest, tChain, tCall, tMeth, tMake, sFld, tSeq, tNext, tAsg, gName, tIfS, tRet, tRetN, tDrop, tM0, tM1, tBM, tBM0, rAppend, rPop, tSl, tPart, tNoPart, rIxL, rIxT, rIxS, rSlS, rSlL, rCat, tRevL, tDisp, tPairs, tDGet, sDPut, gTup, gCons, gNil, gSub, gAttr, rSetL, tv, upd_same, upd_upd, List.length_cons, List.length_nil, Nat.reduceAdd, Nat.zero_add, lines, fk_Line T, lk_Line, inj_Line, hp]
      exact k.now (R.put ⟨M.p.t, M.p.c, i⟩ 0)
    · rw [if_neg hi] at k
      rw [if_neg (show ¬ (0 ≤ i ∧ i ≤ (M.p.t.length : Int)) from hi)]
      exact k
theorem d_Line_picture (T : TX K mg) : Mt P w K mg base 1 (He.ga K "Line") "picture" p_Line_picture (spLPicture K) := by
  refine mt_of (fn_Line_picture T) (cl_Line T) (me_Line_picture T) sc_Line_picture bd_Line_picture (fun vs H Q E h => ?_) (fun cdv A outer s H vs Q E hr h => ?_)
  · obtain ⟨x, ab, al, M, rfl, _⟩ := h
    rfl
  · obtain ⟨x, ab, al, M, rfl, R, k⟩ := h
    obtain ⟨⟨dx, hp⟩, ⟨vb, hb, pb⟩, ⟨vl, hl, pl⟩, nbl⟩ := id R
    have nb := ne_il hp hb
    have nl := ne_il hp hl
    refine ⟨_, (pss_one (ps_ret (pe_tup (pa_cons (pe_fld (pv 0) rfl) (pa_cons (pe_fld (pv 0) rfl) (pa_cons (pe_fld (pv 0) rfl) pa_nil)))))), ?_⟩
    walk_at "rd"
    simp only [List.getElem?_cons_zero, List.getElem?_cons_succ, List.set_cons_zero, List.set_cons_succ, List.cons_append, List.nil_append, List.append_nil, Option.some.injEq, V.int.injEq, V.str.injEq, V.bl.injEq, V.ref.injEq, List.cons.injEq, HO.ins.injEq, HO.lst.injEq, HO.tup.injEq, S_inj, ofS_inj, String.reduceEq, ex_eq, ex_eq', ex_eq0, tLc_eq, tFor_eq, iStr, iRng1, iRng2, iList, iTup, tVar, tC, tOp, tCons, tNil, tCB, tFld, tCallS, tMethW, tMakeS, WE, wKeep, tLits, tLst, tTup, wipe, rI, rI0, rU, rEq, rNe, scII, scSS, scBB, scNN, scNI, scNS, scNB, scIN, scSN, scBN, scIS, scSI, if_tt, if_ff, and_true, true_and, and_assoc, exists_and_left, exists_and_right, exists_const, cxK, decide_true, decide_false, Bool.not_true, Bool.not_false, eq_self_iff_true, Bool.true_eq_false, Bool.false_eq_true, if_true, if_false, reduceCtorEq, S_len, S_one, S_tl, decide_eq_true_eq, tUn, tAndV, tOrV, tNotV, tIf, tAnd, tOr, tNot, tB, tTest, tChain, tCall, tMeth, tMake, sFld, tSeq, tNext, tAsg, gName, tIfS, tRet, tRetN, tDrop, tM0, tM1, tBM, tBM0, rAppend, rPop, tSl, tPart, tNoPart, rIxL, rIxT, rIxS, rSlS, rSlL, rCat, tRevL, tDisp, tPairs, tDGet, sDPut, gTup, gCons, gNil, gSub, gAttr, rSetL, tv, upd_same, upd_upd, List.length_cons, List.length_nil, Nat.reduceAdd, Nat.zero_add, lines, fk_Line T, lk_Line, inj_Line, hp]
    exact k
theorem d_Line_show (T : TX K mg) : Mt P w K mg base 1 (He.ga K "Line") "show" p_Line_show (spLShow K) := by
  refine mt_of (fn_Line_show T) (cl_Line T) (me_Line_show T) sc_Line_show bd_Line_show (fun vs H Q E h => ?_) (fun cdv A outer s H vs Q E hr h => ?_)
  · obtain ⟨x, ab, al, q, M, p, rfl, _⟩ := h
    rfl
  · obtain ⟨x, ab, al, q, M, p, rfl, R, hq, k⟩ := h
    obtain ⟨⟨dx, hp⟩, ⟨vb, hb, pb⟩, ⟨vl, hl, pl⟩, nbl⟩ := id R
    have nb := ne_il hp hb
    have nl := ne_il hp hl
    refine ⟨_, (pss_one (ps_asg (pv 1) (pg_tup (n := 3) rfl (pgs_cons (pg_attr (pv 0)) (pgs_cons (pg_attr (pv 0)) (pgs_cons (pg_attr (pv 0)) pgs_nil)))))), ?_⟩
    walk_at "rd"
    refine ⟨_, st_of hq, rfl, ?_⟩
    simp only [List.getElem?_cons_zero, List.getElem?_cons_succ, List.set_cons_zero, List.set_cons_succ, List.cons_append, List.nil_append, List.append_nil, Option.some.injEq, V.int.injEq, V.str.injEq, V.bl.injEq, V.ref.injEq, List.cons.injEq, HO.ins.injEq, HO.lst.injEq, HO.tup.injEq, S_inj, ofS_inj, String.reduceEq, ex_eq, ex_eq', ex_eq0, tLc_eq, tFor_eq, iStr, iRng1, iRng2, iList, iTup, tVar, tC, tOp, tCons, tNil, tCB, tFld, tCallS, tMethW, tMakeS, WE, wKeep, tLits, tLst, tTup, wipe, rI, rI0, rU, rEq, rNe, scII, scSS, scBB, scNN, scNI, scNS, scNB, scIN, scSN, scBN, scIS, scSI, if_tt, if_ff, and_true, true_and, and_assoc, exists_and_left, exists_and_right, exists_const, cxK, decide_true, decide_false, Bool.not_true, Bool.not_false, eq_self_iff_true, Bool.true_eq_false, Bool.false_eq_true, if_true, if_false, reduceCtorEq, S_len, S_one, S_tl, decide_eq_true_eq, tUn, tAndV, tOrV, tNotV, tIf, tAnd, tOr, tNot, tB, tTest, tChain, tCall, tMeth, tMake, sFld, tSeq, tNext, tAsg, gName, tIfS, tRet, tRetN, tDrop, tM0, tM1, tBM, tBM0, rAppend, rPop, tSl, tPart, tNoPart, rIxL, rIxT, rIxS, rSlS, rSlL, rCat, tRevL, tDisp, tPairs, tDGet, sDPut, gTup, gCons, gNil, gSub, gAttr, rSetL, tv, upd_same, upd_upd, List.length_cons, List.length_nil, Nat.reduceAdd, Nat.zero_add, lines, fk_Line T, lk_Line, inj_Line, hp]
    exact k.now (R.put p M.r)
theorem d_Line_check (T : TX K mg) : Mt P w K mg base 3 (He.ga K "Line") "check" p_Line_check (spLCheck K) := by
  refine mt_of (fn_Line_check T) (cl_Line T) (me_Line_check T) sc_Line_check bd_Line_check (fun vs H Q E h => ?_) (fun cdv A outer s H vs Q E hr h => ?_)
  · obtain ⟨x, ab, al, M, i, j, new, rfl, _⟩ := h
    rfl
  · obtain ⟨x, ab, al, M, i, j, new, rfl, R, ht, hn, k⟩ := h
    obtain ⟨⟨dx, hp⟩, ⟨vb, hb, pb⟩, ⟨vl, hl, pl⟩, nbl⟩ := id R
    have nb := ne_il hp hb
    have nl := ne_il hp hl
    refine ⟨_, (pss_cons (ps_expr (pc (d_look_place T) (hr.mono (by decide)) px (pa_cons (pe_fld (pv 0) rfl) (pa_cons (pv 1) pa_nil)))) (pss_cons (ps_expr (pc (d_look_place T) (hr.mono (by decide)) px (pa_cons (pe_fld (pv 0) rfl) (pa_cons (pv 2) pa_nil)))) (pss_cons (ps_expr (pc (d_look_text T) (hr.mono (by decide)) px (pa_cons (pv 3) pa_nil))) (pss_one (ps_if (pt_cmpR op_gt (pe_op op_add (pe_op op_sub (pe_callB call_len_str (by rfl) (b_len T) boot_len (pa_cons (pe_fld (pv 0) rfl) pa_nil)) (pe_op op_sub (pv 2) (pv 1))) (pe_callB call_len_str (by rfl) (b_len T) boot_len (pa_cons (pv 3) pa_nil))) (pgi (i_MOST_TEXT T)) (nomark _)) (pss_one (ps_raise rfl (takes_of rfl rfl rfl rfl) (pmk_own PySem.F.excBase_ValueError (xc_BadText T).1 (g_BadText T) (xc_BadText T).2.1 (raises_own (xc_BadText T).2.2.1 (xc_BadText T).2.2.2) rfl))) pss_nil))))), ?_⟩
    walk_at "rd"
    simp only [List.getElem?_cons_zero, List.getElem?_cons_succ, List.set_cons_zero, List.set_cons_succ, List.cons_append, List.nil_append, List.append_nil, Option.some.injEq, V.int.injEq, V.str.injEq, V.bl.injEq, V.ref.injEq, List.cons.injEq, HO.ins.injEq, HO.lst.injEq, HO.tup.injEq, S_inj, ofS_inj, String.reduceEq, ex_eq, ex_eq', ex_eq0, tLc_eq, tFor_eq, iStr, iRng1, iRng2, iList, iTup, tVar, tC, tOp, tCons, tNil, tCB, tFld, tCallS, tMethW, tMakeS, WE, wKeep, tLits, tLst, tTup, wipe, rI, rI0, rU, rEq, rNe, scII, scSS, scBB, scNN, scNI, scNS, scNB, scIN, scSN, scBN, scIS, scSI, if_tt, if_ff, and_true, true_and, and_assoc, exists_and_left, exists_and_right, exists_const, cxK, decide_true, decide_false, Bool.not_true, Bool.not_false, eq_self_iff_true, Bool.true_eq_false, Bool.false_eq_true, if_true, if_false, reduceCtorEq, S_len, S_one, S_tl, decide_eq_true_eq, tUn, tAndV, tOrV, tNotV, tIf, tAnd, tOr, tNot, tB, tTest, tChain, tCall, tMeth, tMake, sFld, tSeq, tNext, tAsg, gName, tIfS, tRet, tRetN, tDrop, tM0, tM1, tBM, tBM0, rAppend, rPop, tSl, tPart, tNoPart, rIxL, rIxT, rIxS, rSlS, rSlL, rCat, tRevL, tDisp, tPairs, tDGet, sDPut, gTup, gCons, gNil, gSub, gAttr, rSetL, tv, upd_same, upd_upd, List.length_cons, List.length_nil, Nat.reduceAdd, Nat.zero_add, lines, fk_Line T, lk_Line, inj_Line, hp]
    refine ⟨M.p.t, i, rfl, ht, ?_⟩
    unfold Chk at k
    by_cases hi : inT M.p.t i
    · rw [if_pos (show 0 ≤ i ∧ i ≤ (M.p.t.length : Int) from hi)]
      simp only [List.getElem?_cons_zero, List.getElem?_cons_succ, List.set_cons_zero, List.set_cons_succ, List.cons_append, List.nil_append, List.append_nil, Option.some.injEq, V.int.injEq, V.str.injEq, V.bl.injEq, V.ref.injEq, List.cons.injEq, HO.ins.injEq, HO.lst.injEq, HO.tup.injEq, S_inj, ofS_inj, String.reduceEq, ex_eq, ex_eq', ex_eq0, tLc_eq, tFor_eq, iStr, iRng1, iRng2, iList, iTup, tVar, tC, tOp, tCons, tNil, tCB, tFld, tCallS, tMethW, tMakeS, WE, wKeep, tLits, tLst, tTup, wipe, rI, rI0, rU, rEq, rNe, scII, scSS, scBB, scNN, scNI, scNS, scNB, scIN, scSN, scBN, scIS, scSI, if_tt, if_ff, and_true, true_and, and_assoc, exists_and_left, exists_and_right, exists_const, cxK, decide_true, decide_false, Bool.not_true, Bool.not_false, eq_self_iff_true, Bool.true_eq_false, Bool.false_eq_true, if_true, if_false, reduceCtorEq, S_len, S_one, S_tl, decide_eq_true_eq, tUn, tAndV, tOrV, tNotV, tIf, tAnd, tOr, tNot, tB, tTest, tChain, tCall, tMeth, tMake, sFld, tSeq, tNext, tAsg, gName, tIfS, tRet, tRetN, tDrop, tM0, tM1, tBM, tBM0, rAppend, rPop, tSl, tPart, tNoPart, rIxL, rIxT, rIxS, rSlS, rSlL, rCat, tRevL, tDisp, tPairs, tDGet, sDPut, gTup, gCons, gNil, gSub, gAttr, rSetL, tv, upd_same, upd_upd, List.length_cons, List.length_nil, Nat.reduceAdd, Nat.zero_add, lines, fk_Line T, lk_Line, inj_Line, hp]
      refine ⟨M.p.t, j, rfl, ht, ?_⟩
      by_cases hj : inT M.p.t j
      · rw [if_pos (show 0 ≤ j ∧ j ≤ (M.p.t.length : Int) from hj)]
        rw [if_pos (show inTs M.p.t i j from ⟨hi, hj⟩)] at k
        refine ⟨new, rfl, hn, ?_⟩
        by_cases ok : okText new = true
        · rw [if_pos ok]
          intro H1 s1
          simp only [List.getElem?_cons_zero, List.getElem?_cons_succ, List.set_cons_zero, List.set_cons_succ, List.cons_append, List.nil_append, List.append_nil, Option.some.injEq, V.int.injEq, V.str.injEq, V.bl.injEq, V.ref.injEq, List.cons.injEq, HO.ins.injEq, HO.lst.injEq, HO.tup.injEq, S_inj, ofS_inj, String.reduceEq, ex_eq, ex_eq', ex_eq0, tLc_eq, tFor_eq, iStr, iRng1, iRng2, iList, iTup, tVar, tC, tOp, tCons, tNil, tCB, tFld, tCallS, tMethW, tMakeS, WE, wKeep, tLits, tLst, tTup, wipe, rI, rI0, rU, rEq, rNe, scII, scSS, scBB, scNN, scNI, scNS, scNB, scIN, scSN, scBN, scIS, scSI, if_tt, if_ff, and_true, true_and, and_assoc, exists_and_left, exists_and_right, exists_const, cxK, decide_true, decide_false, Bool.not_true, Bool.not_false, eq_self_iff_true, Bool.true_eq_false, Bool.false_eq_true, if_true, if_false, reduceCtorEq, S_len, S_one, S_tl, decide_eq_true_eq, tUn, tAndV, tOrV, tNotV, tIf, tAnd, tOr, tNot, tB, tTest, tChain, tCall, tMeth, tMake, sFld, tSeq, tNext, tAsg, gName, tIfS, tRet, tRetN, tDrop, tM0, tM1, tBM, tBM0, rAppend, rPop, tSl, tPart, tNoPart, rIxL, rIxT, rIxS, rSlS, rSlL, rCat, tRevL, tDisp, tPairs, tDGet, sDPut, gTup, gCons, gNil, gSub, gAttr, rSetL, tv, upd_same, upd_upd, List.length_cons, List.length_nil, Nat.reduceAdd, Nat.zero_add, lines, fk_Line T, lk_Line, inj_Line, s1 _ _ hp]
          refine ⟨sline ht, sline hn, ?_⟩
          by_cases fit : fitsT M.p.t i j new
          · rw [if_pos fit] at k
            rw [if_neg (by have := fit.2; omega)]
            exact k H1 s1
          · rw [if_neg fit] at k
            rw [if_pos (by
              have : ¬ ((M.p.t.length : Int) - (j - i) + new.length ≤ 400) := fun h => fit ⟨ok, h⟩
              omega)]
            exact k H1 s1
        · rw [if_neg ok]
          rw [if_neg (fun h : fitsT M.p.t i j new => ok h.1)] at k
          exact k
      · rw [if_neg (show ¬ (0 ≤ j ∧ j ≤ (M.p.t.length : Int)) from hj)]
        rw [if_neg (fun h : inTs M.p.t i j => hj h.2)] at k
        exact k
    · rw [if_neg (show ¬ (0 ≤ i ∧ i ≤ (M.p.t.length : Int)) from hi)]
      rw [if_neg (fun h : inTs M.p.t i j => hi h.1)] at k
      exact k
theorem d_Line_replace (T : TX K mg) : Mt P w K mg base 1 (He.ga K "Line") "replace" p_Line_replace (spLReplace K) := by
  refine mt_of (fn_Line_replace T) (cl_Line T) (me_Line_replace T) sc_Line_replace bd_Line_replace (fun vs H Q E h => ?_) (fun cdv A outer s H vs Q E hr h => ?_)
  · obtain ⟨x, ab, al, M, i, j, new, c, rfl, _⟩ := h
    rfl
  · obtain ⟨x, ab, al, M, i, j, new, c, rfl, R, ht, hn, hij, k⟩ := h
    obtain ⟨⟨dx, hp⟩, ⟨vb, hb, pb⟩, ⟨vl, hl, pl⟩, nbl⟩ := id R
    have nb := ne_il hp hb
    have nl := ne_il hp hl
    refine ⟨_, (pss_cons (ps_fld (pv 0) (pe_op op_add_str (pe_op op_add_str (pe_slice sl_str (pe_fld (pv 0) rfl) po_none (po_some (pv 1))) (pv 3)) (pe_slice sl_str (pe_fld (pv 0) rfl) (po_some (pv 2)) po_none)) rfl) (pss_cons (ps_fld (pv 0) (pv 4) rfl) (pss_one (ps_if (PW.pt (pw_and (pt_cmpR op_ge (pe_fld (pv 0) rfl) (pv 2) (nomark _)) (pw_and1 (pt_cmpR op_gt (pe_fld (pv 0) rfl) (pv 1) (nomark _))))) (pss_one (ps_fld (pv 0) (pe_op op_add (pe_op op_sub (pe_fld (pv 0) rfl) (pe_op op_sub (pv 2) (pv 1))) (pe_callB call_len_str (by rfl) (b_len T) boot_len (pa_cons (pv 3) pa_nil))) rfl)) (pss_one (ps_if (pt_cmpR op_gt (pe_fld (pv 0) rfl) (pv 1) (nomark _)) (pss_one (ps_fld (pv 0) (pe_op op_add (pv 1) (pe_callB call_len_str (by rfl) (b_len T) boot_len (pa_cons (pv 3) pa_nil))) rfl)) pss_nil)))))), ?_⟩
    walk_at "rd"
    have c1 := cut_to M.p.t i hij.1.1
    have c2 := cut_from M.p.t j hij.2.1
    simp only [List.getElem?_cons_zero, List.getElem?_cons_succ, List.set_cons_zero, List.set_cons_succ, List.cons_append, List.nil_append, List.append_nil, Option.some.injEq, V.int.injEq, V.str.injEq, V.bl.injEq, V.ref.injEq, List.cons.injEq, HO.ins.injEq, HO.lst.injEq, HO.tup.injEq, S_inj, ofS_inj, String.reduceEq, ex_eq, ex_eq', ex_eq0, tLc_eq, tFor_eq, iStr, iRng1, iRng2, iList, iTup, tVar, tC, tOp, tCons, tNil, tCB, tFld, tCallS, tMethW, tMakeS, WE, wKeep, tLits, tLst, tTup, wipe, rI, rI0, rU, rEq, rNe, scII, scSS, scBB, scNN, scNI, scNS, scNB, scIN, scSN, scBN, scIS, scSI, if_tt, if_ff, and_true, true_and, and_assoc, exists_and_left, exists_and_right, exists_const, cxK, decide_true, decide_false, Bool.not_true, Bool.not_false, eq_self_iff_true, Bool.true_eq_false, Bool.false_eq_true, if_true, if_false, reduceCtorEq, S_len, S_one, S_tl, decide_eq_true_eq, tUn, tAndV, tOrV, tNotV, tIf, tAnd, tOr, tNot, tB, tTest, tChain, tCall, tMeth, tMake, sFld, tSeq, tNext, tAsg, gName, tIfS, tRet, tRetN, tDrop, tM0, tM1, tBM, tBM0, rAppend, rPop, tSl, tPart, tNoPart, rIxL, rIxT, rIxS, rSlS, rSlL, rCat, tRevL, tDisp, tPairs, tDGet, sDPut, gTup, gCons, gNil, gSub, gAttr, rSetL, tv, upd_same, upd_upd, List.length_cons, List.length_nil, Nat.reduceAdd, Nat.zero_add, lines, fk_Line T, lk_Line, inj_Line, hp, c1, c2, S_app]
    have l1 : (M.p.t.take i.toNat).length ≤ 100000 := by
      rw [List.length_take]
      omega
    have l2 : (M.p.t.drop j.toNat).length ≤ 100000 := by
      rw [List.length_drop]
      omega
    have z := k.now (R.put (dx := dx) (M.p.put i j new c) M.r)
    have big : ∀ n : Nat, n ≤ 1000000 → n ≤ sizeLine := fun n h => Nat.le_trans h (by decide)
    refine ⟨sline ht, big _ (by omega), sline ht, big _ (by rw [List.length_append]; omega), ?_⟩
    by_cases h1 : j ≤ M.p.m
    · rw [if_pos h1]
      by_cases h2 : i < M.p.m
      · rw [if_pos h2]
        refine ⟨sline hn, ?_⟩
        have e : (M.p.put i j new c).m = M.p.m - (j - i) + new.length := if_pos ⟨h1, h2⟩
        rw [e] at z
        exact z
      · rw [if_neg h2, if_neg h2]
        have e : (M.p.put i j new c).m = M.p.m := by
          show (if _ then _ else if _ then _ else _) = _
          rw [if_neg (fun h => h2 h.2), if_neg h2]
        rw [e] at z
        exact z
    · rw [if_neg h1]
      by_cases h2 : i < M.p.m
      · rw [if_pos h2]
        refine ⟨sline hn, ?_⟩
        have e : (M.p.put i j new c).m = i + new.length := by
          show (if _ then _ else if _ then _ else _) = _
          rw [if_neg (fun h => h1 h.1), if_pos h2]
        rw [e] at z
        exact z
      · rw [if_neg h2]
        have e : (M.p.put i j new c).m = M.p.m := by
          show (if _ then _ else if _ then _ else _) = _
          rw [if_neg (fun h => h1 h.1), if_neg h2]
        rw [e] at z
        exact z
theorem d_Line_change (T : TX K mg) : Mt P w K mg base 4 (He.ga K "Line") "change" p_Line_change (spLChange K) := by
  refine mt_of (fn_Line_change T) (cl_Line T) (me_Line_change T) sc_Line_change bd_Line_change (fun vs H Q E h => ?_) (fun cdv A outer s H vs Q E hr h => ?_)
  · obtain ⟨x, ab, al, M, i, j, new, c, rfl, _⟩ := h
    rfl
  · obtain ⟨x, ab, al, M, i, j, new, c, rfl, R, ht, hn, hbl, k⟩ := h
    obtain ⟨⟨dx, hp⟩, ⟨vb, hb, pb⟩, ⟨vl, hl, pl⟩, nbl⟩ := id R
    have nb := ne_il hp hb
    have nl := ne_il hp hl
    refine ⟨_, (pss_cons (ps_expr (pm (d_Line_check T) (hr.mono (by decide)) px (pv 0) (pa_cons (pv 1) (pa_cons (pv 2) (pa_cons (pv 3) pa_nil))))) (pss_cons (ps_expr (pe_bm PySem.F.plainAttrs_list PySem.F.slot_list_append PySem.F.type_list_append mt_append (pe_fld (pv 0) rfl) (pa_cons (pm0 (d_Line_picture T) (hr.mono (by decide)) px (pv 0)) pa_nil))) (pss_cons (ps_fld (pv 0) (pe_lst pa_nil) rfl) (pss_cons (ps_fld (pv 0) pe_int rfl) (pss_one (ps_expr (pm (d_Line_replace T) (hr.mono (by decide)) px (pv 0) (pa_cons (pv 1) (pa_cons (pv 2) (pa_cons (pv 3) (pa_cons (pv 4) pa_nil))))))))))), ?_⟩
    walk_at "rd"
    simp only [List.getElem?_cons_zero, List.getElem?_cons_succ, List.set_cons_zero, List.set_cons_succ, List.cons_append, List.nil_append, List.append_nil, Option.some.injEq, V.int.injEq, V.str.injEq, V.bl.injEq, V.ref.injEq, List.cons.injEq, HO.ins.injEq, HO.lst.injEq, HO.tup.injEq, S_inj, ofS_inj, String.reduceEq, ex_eq, ex_eq', ex_eq0, tLc_eq, tFor_eq, iStr, iRng1, iRng2, iList, iTup, tVar, tC, tOp, tCons, tNil, tCB, tFld, tCallS, tMethW, tMakeS, WE, wKeep, tLits, tLst, tTup, wipe, rI, rI0, rU, rEq, rNe, scII, scSS, scBB, scNN, scNI, scNS, scNB, scIN, scSN, scBN, scIS, scSI, if_tt, if_ff, and_true, true_and, and_assoc, exists_and_left, exists_and_right, exists_const, cxK, decide_true, decide_false, Bool.not_true, Bool.not_false, eq_self_iff_true, Bool.true_eq_false, Bool.false_eq_true, if_true, if_false, reduceCtorEq, S_len, S_one, S_tl, decide_eq_true_eq, tUn, tAndV, tOrV, tNotV, tIf, tAnd, tOr, tNot, tB, tTest, tChain, tCall, tMeth, tMake, sFld, tSeq, tNext, tAsg, gName, tIfS, tRet, tRetN, tDrop, tM0, tM1, tBM, tBM0, rAppend, rPop, tSl, tPart, tNoPart, rIxL, rIxT, rIxS, rSlS, rSlL, rCat, tRevL, tDisp, tPairs, tDGet, sDPut, gTup, gCons, gNil, gSub, gAttr, rSetL, tv, upd_same, upd_upd, List.length_cons, List.length_nil, Nat.reduceAdd, Nat.zero_add, lines, fk_Line T, lk_Line, inj_Line, hp]
    refine ⟨x, ab, al, M, i, j, new, rfl, R, ht, hn, k.imp fun hij fit k H1 s1 => ?_⟩
    have R1 := R.same s1
    have k1 := k.same s1
    have hp1 := s1 _ _ hp
    have hb1 := s1 _ _ hb
    have hl1 := s1 _ _ hl
    simp only [List.getElem?_cons_zero, List.getElem?_cons_succ, List.set_cons_zero, List.set_cons_succ, List.cons_append, List.nil_append, List.append_nil, Option.some.injEq, V.int.injEq, V.str.injEq, V.bl.injEq, V.ref.injEq, List.cons.injEq, HO.ins.injEq, HO.lst.injEq, HO.tup.injEq, S_inj, ofS_inj, String.reduceEq, ex_eq, ex_eq', ex_eq0, tLc_eq, tFor_eq, iStr, iRng1, iRng2, iList, iTup, tVar, tC, tOp, tCons, tNil, tCB, tFld, tCallS, tMethW, tMakeS, WE, wKeep, tLits, tLst, tTup, wipe, rI, rI0, rU, rEq, rNe, scII, scSS, scBB, scNN, scNI, scNS, scNB, scIN, scSN, scBN, scIS, scSI, if_tt, if_ff, and_true, true_and, and_assoc, exists_and_left, exists_and_right, exists_const, cxK, decide_true, decide_false, Bool.not_true, Bool.not_false, eq_self_iff_true, Bool.true_eq_false, Bool.false_eq_true, if_true, if_false, reduceCtorEq, S_len, S_one, S_tl, decide_eq_true_eq, tUn, tAndV, tOrV, tNotV, tIf, tAnd, tOr, tNot, tB, tTest, tChain, tCall, tMeth, tMake, sFld, tSeq, tNext, tAsg, gName, tIfS, tRet, tRetN, tDrop, tM0, tM1, tBM, tBM0, rAppend, rPop, tSl, tPart, tNoPart, rIxL, rIxT, rIxS, rSlS, rSlL, rCat, tRevL, tDisp, tPairs, tDGet, sDPut, gTup, gCons, gNil, gSub, gAttr, rSetL, tv, upd_same, upd_upd, List.length_cons, List.length_nil, Nat.reduceAdd, Nat.zero_add, lines, fk_Line T, lk_Line, inj_Line, hp1]
    refine ⟨.inl ⟨rfl, _, sq_of hb1⟩, x, ab, al, M, rfl, R1, fun q hq => ?_⟩
    have n1 := ne_new hp1 hq
    simp only [List.getElem?_cons_zero, List.getElem?_cons_succ, List.set_cons_zero, List.set_cons_succ, List.cons_append, List.nil_append, List.append_nil, Option.some.injEq, V.int.injEq, V.str.injEq, V.bl.injEq, V.ref.injEq, List.cons.injEq, HO.ins.injEq, HO.lst.injEq, HO.tup.injEq, S_inj, ofS_inj, String.reduceEq, ex_eq, ex_eq', ex_eq0, tLc_eq, tFor_eq, iStr, iRng1, iRng2, iList, iTup, tVar, tC, tOp, tCons, tNil, tCB, tFld, tCallS, tMethW, tMakeS, WE, wKeep, tLits, tLst, tTup, wipe, rI, rI0, rU, rEq, rNe, scII, scSS, scBB, scNN, scNI, scNS, scNB, scIN, scSN, scBN, scIS, scSI, if_tt, if_ff, and_true, true_and, and_assoc, exists_and_left, exists_and_right, exists_const, cxK, decide_true, decide_false, Bool.not_true, Bool.not_false, eq_self_iff_true, Bool.true_eq_false, Bool.false_eq_true, if_true, if_false, reduceCtorEq, S_len, S_one, S_tl, decide_eq_true_eq, tUn, tAndV, tOrV, tNotV, tIf, tAnd, tOr, tNot, tB, tTest, tChain, tCall, tMeth, tMake, sFld, tSeq, tNext, tAsg, gName, tIfS, tRet, tRetN, tDrop, tM0, tM1, tBM, tBM0, rAppend, rPop, tSl, tPart, tNoPart, rIxL, rIxT, rIxS, rSlS, rSlL, rCat, tRevL, tDisp, tPairs, tDGet, sDPut, gTup, gCons, gNil, gSub, gAttr, rSetL, tv, upd_same, upd_upd, List.length_cons, List.length_nil, Nat.reduceAdd, Nat.zero_add, lines, fk_Line T, lk_Line, inj_Line, hp1, upd_ne n1]
    have n2 := ne_new hb1 hq
    refine ⟨vb, by rw [upd_ne n2]; exact hb1, Nat.lt_of_le_of_lt (by rw [pb.len]; exact hbl) (by decide), fun p0 hp0 => ?_⟩
    obtain ⟨R2, f2⟩ := R1.addB hb1 hq M.p
    obtain ⟨⟨dx2, hp2⟩, _⟩ := id R2
    have n3 := ne_new hp2 hp0
    simp only [List.getElem?_cons_zero, List.getElem?_cons_succ, List.set_cons_zero, List.set_cons_succ, List.cons_append, List.nil_append, List.append_nil, Option.some.injEq, V.int.injEq, V.str.injEq, V.bl.injEq, V.ref.injEq, List.cons.injEq, HO.ins.injEq, HO.lst.injEq, HO.tup.injEq, S_inj, ofS_inj, String.reduceEq, ex_eq, ex_eq', ex_eq0, tLc_eq, tFor_eq, iStr, iRng1, iRng2, iList, iTup, tVar, tC, tOp, tCons, tNil, tCB, tFld, tCallS, tMethW, tMakeS, WE, wKeep, tLits, tLst, tTup, wipe, rI, rI0, rU, rEq, rNe, scII, scSS, scBB, scNN, scNI, scNS, scNB, scIN, scSN, scBN, scIS, scSI, if_tt, if_ff, and_true, true_and, and_assoc, exists_and_left, exists_and_right, exists_const, cxK, decide_true, decide_false, Bool.not_true, Bool.not_false, eq_self_iff_true, Bool.true_eq_false, Bool.false_eq_true, if_true, if_false, reduceCtorEq, S_len, S_one, S_tl, decide_eq_true_eq, tUn, tAndV, tOrV, tNotV, tIf, tAnd, tOr, tNot, tB, tTest, tChain, tCall, tMeth, tMake, sFld, tSeq, tNext, tAsg, gName, tIfS, tRet, tRetN, tDrop, tM0, tM1, tBM, tBM0, rAppend, rPop, tSl, tPart, tNoPart, rIxL, rIxT, rIxS, rSlS, rSlL, rCat, tRevL, tDisp, tPairs, tDGet, sDPut, gTup, gCons, gNil, gSub, gAttr, rSetL, tv, upd_same, upd_upd, List.length_cons, List.length_nil, Nat.reduceAdd, Nat.zero_add, lines, fk_Line T, lk_Line, inj_Line, upd_ne n3, hp2]
    obtain ⟨R3, f3⟩ := R2.newL (dx := dx2) hp0 M.p 0
    exact ⟨x, ab, p0, _, i, j, new, c, rfl, R3, ht, hn, hij, (k1.trans (f2.trans f3) (.inl rfl) (.inr (f2.free hp0)))⟩
theorem d_Line_write (T : TX K mg) : Mt P w K mg base 4 (He.ga K "Line") "write" p_Line_write (spLWrite K) := by
  refine mt_of (fn_Line_write T) (cl_Line T) (me_Line_write T) sc_Line_write bd_Line_write (fun vs H Q E h => ?_) (fun cdv A outer s H vs Q E hr h => ?_)
  · obtain ⟨x, ab, al, M, sign, rfl, _⟩ := h
    rfl
  · obtain ⟨x, ab, al, M, sign, rfl, R, ht, hn, hbl, hc, k⟩ := h
    obtain ⟨⟨dx, hp⟩, ⟨vb, hb, pb⟩, ⟨vl, hl, pl⟩, nbl⟩ := id R
    have nb := ne_il hp hb
    have nl := ne_il hp hl
    refine ⟨_, (pss_cons (ps_expr (pm (d_Line_check T) (hr.mono (by decide)) px (pv 0) (pa_cons (pe_fld (pv 0) rfl) (pa_cons (pe_fld (pv 0) rfl) (pa_cons (pv 1) pa_nil))))) (Evl.pss_cut (ps_if (PW.pt (pw_or (pt_cmpR op_eq (pe_fld (pv 0) rfl) pe_int (nomark _)) (pw_or1 (pt_cmpR op_eq (pe_fld (pv 0) rfl) (pgi (i_MOST_RUN T)) (nomark _))))) (pss_cons (ps_expr (pe_bm PySem.F.plainAttrs_list PySem.F.slot_list_append PySem.F.type_list_append mt_append (pe_fld (pv 0) rfl) (pa_cons (pm0 (d_Line_picture T) (hr.mono (by decide)) px (pv 0)) pa_nil))) (pss_one (ps_fld (pv 0) pe_int rfl))) pss_nil) (pss_cons (ps_fld (pv 0) (pe_lst pa_nil) rfl) (pss_cons (ps_fld (pv 0) (pe_op op_add (pe_fld (pv 0) rfl) pe_int) rfl) (pss_one (ps_expr (pm (d_Line_replace T) (hr.mono (by decide)) px (pv 0) (pa_cons (pe_fld (pv 0) rfl) (pa_cons (pe_fld (pv 0) rfl) (pa_cons (pv 1) (pa_cons (pe_op op_add (pe_fld (pv 0) rfl) (pe_callB call_len_str (by rfl) (b_len T) boot_len (pa_cons (pv 1) pa_nil))) pa_nil))))))))))), ?_⟩
    walk_at "rd"
    simp only [List.getElem?_cons_zero, List.getElem?_cons_succ, List.set_cons_zero, List.set_cons_succ, List.cons_append, List.nil_append, List.append_nil, Option.some.injEq, V.int.injEq, V.str.injEq, V.bl.injEq, V.ref.injEq, List.cons.injEq, HO.ins.injEq, HO.lst.injEq, HO.tup.injEq, S_inj, ofS_inj, String.reduceEq, ex_eq, ex_eq', ex_eq0, tLc_eq, tFor_eq, iStr, iRng1, iRng2, iList, iTup, tVar, tC, tOp, tCons, tNil, tCB, tFld, tCallS, tMethW, tMakeS, WE, wKeep, tLits, tLst, tTup, wipe, rI, rI0, rU, rEq, rNe, scII, scSS, scBB, scNN, scNI, scNS, scNB, scIN, scSN, scBN, scIS, scSI, if_tt, if_ff, and_true, true_and, and_assoc, exists_and_left, exists_and_right, exists_const, cxK, decide_true, decide_false, Bool.not_true, Bool.not_false, eq_self_iff_true, Bool.true_eq_false, Bool.false_eq_true, if_true, if_false, reduceCtorEq, S_len, S_one, S_tl, decide_eq_true_eq, tUn, tAndV, tOrV, tNotV, tIf, tAnd, tOr, tNot, tB, tTest, tChain, tCall, tMeth, tMake, sFld, tSeq, tNext, tAsg, gName, tIfS, tRet, tRetN, tDrop, tM0, tM1, tBM, tBM0, rAppend, rPop, tSl, tPart, tNoPart, rIxL, rIxT, rIxS, rSlS, rSlL, rCat, tRevL, tDisp, tPairs, tDGet, sDPut, gTup, gCons, gNil, gSub, gAttr, rSetL, tv, upd_same, upd_upd, List.length_cons, List.length_nil, Nat.reduceAdd, Nat.zero_add, lines, fk_Line T, lk_Line, inj_Line, hp]
    refine ⟨x, ab, al, M, M.p.c, M.p.c, sign, rfl, R, ht, hn, ?_⟩
    unfold Chk
    rw [if_pos ⟨hc, hc⟩]
    by_cases fit : fitsT M.p.t M.p.c M.p.c sign
    · rw [if_pos fit] at k ⊢
      intro H1 s1
      have R1 := R.same s1
      have k1 := k.same s1
      have hp1 := s1 _ _ hp
      have hb1 := s1 _ _ hb
      have hl1 := s1 _ _ hl
      let M1 : Ln := ⟨M.p, if M.r = 0 ∨ M.r = 20 then M.b ++ [M.p] else M.b, M.l, if M.r = 0 ∨ M.r = 20 then 0 else M.r⟩
      refine ⟨fun σ' H' => σ' = [some (.ref x), some (tv sign)] ∧ LineAt K H' x ab al M1 ∧ Fx [x, ab, al] H1 H', ?_, ?_⟩
      · walk_at "rd"
        simp only [List.getElem?_cons_zero, List.getElem?_cons_succ, List.set_cons_zero, List.set_cons_succ, List.cons_append, List.nil_append, List.append_nil, Option.some.injEq, V.int.injEq, V.str.injEq, V.bl.injEq, V.ref.injEq, List.cons.injEq, HO.ins.injEq, HO.lst.injEq, HO.tup.injEq, S_inj, ofS_inj, String.reduceEq, ex_eq, ex_eq', ex_eq0, tLc_eq, tFor_eq, iStr, iRng1, iRng2, iList, iTup, tVar, tC, tOp, tCons, tNil, tCB, tFld, tCallS, tMethW, tMakeS, WE, wKeep, tLits, tLst, tTup, wipe, rI, rI0, rU, rEq, rNe, scII, scSS, scBB, scNN, scNI, scNS, scNB, scIN, scSN, scBN, scIS, scSI, if_tt, if_ff, and_true, true_and, and_assoc, exists_and_left, exists_and_right, exists_const, cxK, decide_true, decide_false, Bool.not_true, Bool.not_false, eq_self_iff_true, Bool.true_eq_false, Bool.false_eq_true, if_true, if_false, reduceCtorEq, S_len, S_one, S_tl, decide_eq_true_eq, tUn, tAndV, tOrV, tNotV, tIf, tAnd, tOr, tNot, tB, tTest, tChain, tCall, tMeth, tMake, sFld, tSeq, tNext, tAsg, gName, tIfS, tRet, tRetN, tDrop, tM0, tM1, tBM, tBM0, rAppend, rPop, tSl, tPart, tNoPart, rIxL, rIxT, rIxS, rSlS, rSlL, rCat, tRevL, tDisp, tPairs, tDGet, sDPut, gTup, gCons, gNil, gSub, gAttr, rSetL, tv, upd_same, upd_upd, List.length_cons, List.length_nil, Nat.reduceAdd, Nat.zero_add, lines, fk_Line T, lk_Line, inj_Line, hp1]
        have grp : (M.r = 0 ∨ M.r = 20) → ∀ q, H1 q = none → LineAt K (upd (upd (upd H1 q (.tup (picV M.p))) ab (.lst (vb ++ [.ref q]))) x (.ins (He.ga K "Line") dx (fs_Line (tv M.p.t) (.int M.p.c) (.int M.p.m) (.ref ab) (.ref al) (.int 0)))) x ab al M1 ∧
            Fx [x, ab, al] H1 (upd (upd (upd H1 q (.tup (picV M.p))) ab (.lst (vb ++ [.ref q]))) x (.ins (He.ga K "Line") dx (fs_Line (tv M.p.t) (.int M.p.c) (.int M.p.m) (.ref ab) (.ref al) (.int 0)))) := fun r q hq => by
          obtain ⟨R2, f2⟩ := R1.addB hb1 hq M.p
          obtain ⟨R3, f3⟩ := R2.put (dx := dx) M.p 0
          refine ⟨?_, f2.trans f3⟩
          show LineAt K _ x ab al ⟨M.p, if M.r = 0 ∨ M.r = 20 then M.b ++ [M.p] else M.b, M.l, if M.r = 0 ∨ M.r = 20 then 0 else M.r⟩
          rw [if_pos r, if_pos r]
          exact R3
        by_cases r0 : M.r = 0
        · rw [if_pos r0]
          refine ⟨.inl ⟨rfl, _, sq_of hb1⟩, x, ab, al, M, rfl, R1, fun q hq => ?_⟩
          have n2 := ne_new hb1 hq
          have n1 := ne_new hp1 hq
          have n4 := ne_il hp1 hb1
          refine ⟨vb, by rw [upd_ne n2]; exact hb1, Nat.lt_of_le_of_lt (by rw [pb.len]; exact hbl) (by decide), ?_⟩
          simp only [List.getElem?_cons_zero, List.getElem?_cons_succ, List.set_cons_zero, List.set_cons_succ, List.cons_append, List.nil_append, List.append_nil, Option.some.injEq, V.int.injEq, V.str.injEq, V.bl.injEq, V.ref.injEq, List.cons.injEq, HO.ins.injEq, HO.lst.injEq, HO.tup.injEq, S_inj, ofS_inj, String.reduceEq, ex_eq, ex_eq', ex_eq0, tLc_eq, tFor_eq, iStr, iRng1, iRng2, iList, iTup, tVar, tC, tOp, tCons, tNil, tCB, tFld, tCallS, tMethW, tMakeS, WE, wKeep, tLits, tLst, tTup, wipe, rI, rI0, rU, rEq, rNe, scII, scSS, scBB, scNN, scNI, scNS, scNB, scIN, scSN, scBN, scIS, scSI, if_tt, if_ff, and_true, true_and, and_assoc, exists_and_left, exists_and_right, exists_const, cxK, decide_true, decide_false, Bool.not_true, Bool.not_false, eq_self_iff_true, Bool.true_eq_false, Bool.false_eq_true, if_true, if_false, reduceCtorEq, S_len, S_one, S_tl, decide_eq_true_eq, tUn, tAndV, tOrV, tNotV, tIf, tAnd, tOr, tNot, tB, tTest, tChain, tCall, tMeth, tMake, sFld, tSeq, tNext, tAsg, gName, tIfS, tRet, tRetN, tDrop, tM0, tM1, tBM, tBM0, rAppend, rPop, tSl, tPart, tNoPart, rIxL, rIxT, rIxS, rSlS, rSlL, rCat, tRevL, tDisp, tPairs, tDGet, sDPut, gTup, gCons, gNil, gSub, gAttr, rSetL, tv, upd_same, upd_upd, List.length_cons, List.length_nil, Nat.reduceAdd, Nat.zero_add, lines, fk_Line T, lk_Line, inj_Line, upd_ne n1, upd_ne n4, hp1]
          exact grp (.inl r0) q hq
        · rw [if_neg r0]
          by_cases r20 : M.r = 20
          · rw [if_pos r20]
            refine ⟨.inl ⟨rfl, _, sq_of hb1⟩, x, ab, al, M, rfl, R1, fun q hq => ?_⟩
            have n2 := ne_new hb1 hq
            have n1 := ne_new hp1 hq
            have n4 := ne_il hp1 hb1
            refine ⟨vb, by rw [upd_ne n2]; exact hb1, Nat.lt_of_le_of_lt (by rw [pb.len]; exact hbl) (by decide), ?_⟩
            simp only [List.getElem?_cons_zero, List.getElem?_cons_succ, List.set_cons_zero, List.set_cons_succ, List.cons_append, List.nil_append, List.append_nil, Option.some.injEq, V.int.injEq, V.str.injEq, V.bl.injEq, V.ref.injEq, List.cons.injEq, HO.ins.injEq, HO.lst.injEq, HO.tup.injEq, S_inj, ofS_inj, String.reduceEq, ex_eq, ex_eq', ex_eq0, tLc_eq, tFor_eq, iStr, iRng1, iRng2, iList, iTup, tVar, tC, tOp, tCons, tNil, tCB, tFld, tCallS, tMethW, tMakeS, WE, wKeep, tLits, tLst, tTup, wipe, rI, rI0, rU, rEq, rNe, scII, scSS, scBB, scNN, scNI, scNS, scNB, scIN, scSN, scBN, scIS, scSI, if_tt, if_ff, and_true, true_and, and_assoc, exists_and_left, exists_and_right, exists_const, cxK, decide_true, decide_false, Bool.not_true, Bool.not_false, eq_self_iff_true, Bool.true_eq_false, Bool.false_eq_true, if_true, if_false, reduceCtorEq, S_len, S_one, S_tl, decide_eq_true_eq, tUn, tAndV, tOrV, tNotV, tIf, tAnd, tOr, tNot, tB, tTest, tChain, tCall, tMeth, tMake, sFld, tSeq, tNext, tAsg, gName, tIfS, tRet, tRetN, tDrop, tM0, tM1, tBM, tBM0, rAppend, rPop, tSl, tPart, tNoPart, rIxL, rIxT, rIxS, rSlS, rSlL, rCat, tRevL, tDisp, tPairs, tDGet, sDPut, gTup, gCons, gNil, gSub, gAttr, rSetL, tv, upd_same, upd_upd, List.length_cons, List.length_nil, Nat.reduceAdd, Nat.zero_add, lines, fk_Line T, lk_Line, inj_Line, upd_ne n1, upd_ne n4, hp1]
            exact grp (.inr r20) q hq
          · rw [if_neg r20]
            refine ⟨?_, Fx.refl _ _⟩
            show LineAt K _ x ab al ⟨M.p, if M.r = 0 ∨ M.r = 20 then M.b ++ [M.p] else M.b, M.l, if M.r = 0 ∨ M.r = 20 then 0 else M.r⟩
            have r : ¬ (M.r = 0 ∨ M.r = 20) := fun h => h.elim r0 r20
            rw [if_neg r, if_neg r]
            exact R1
      · rintro σ' H2 ⟨rfl, R2, f2⟩
        walk_at "rd"
        obtain ⟨⟨dx2, hp2⟩, _⟩ := id R2
        refine ⟨by decide, fun q hq => ?_⟩
        have n1 := ne_new hp2 hq
        obtain ⟨R3, f3⟩ := R2.newL (dx := dx2) hq M.p (M1.r + 1)
        simp only [List.getElem?_cons_zero, List.getElem?_cons_succ, List.set_cons_zero, List.set_cons_succ, List.cons_append, List.nil_append, List.append_nil, Option.some.injEq, V.int.injEq, V.str.injEq, V.bl.injEq, V.ref.injEq, List.cons.injEq, HO.ins.injEq, HO.lst.injEq, HO.tup.injEq, S_inj, ofS_inj, String.reduceEq, ex_eq, ex_eq', ex_eq0, tLc_eq, tFor_eq, iStr, iRng1, iRng2, iList, iTup, tVar, tC, tOp, tCons, tNil, tCB, tFld, tCallS, tMethW, tMakeS, WE, wKeep, tLits, tLst, tTup, wipe, rI, rI0, rU, rEq, rNe, scII, scSS, scBB, scNN, scNI, scNS, scNB, scIN, scSN, scBN, scIS, scSI, if_tt, if_ff, and_true, true_and, and_assoc, exists_and_left, exists_and_right, exists_const, cxK, decide_true, decide_false, Bool.not_true, Bool.not_false, eq_self_iff_true, Bool.true_eq_false, Bool.false_eq_true, if_true, if_false, reduceCtorEq, S_len, S_one, S_tl, decide_eq_true_eq, tUn, tAndV, tOrV, tNotV, tIf, tAnd, tOr, tNot, tB, tTest, tChain, tCall, tMeth, tMake, sFld, tSeq, tNext, tAsg, gName, tIfS, tRet, tRetN, tDrop, tM0, tM1, tBM, tBM0, rAppend, rPop, tSl, tPart, tNoPart, rIxL, rIxT, rIxS, rSlS, rSlL, rCat, tRevL, tDisp, tPairs, tDGet, sDPut, gTup, gCons, gNil, gSub, gAttr, rSetL, tv, upd_same, upd_upd, List.length_cons, List.length_nil, Nat.reduceAdd, Nat.zero_add, lines, fk_Line T, lk_Line, inj_Line, upd_ne n1, hp2]
        refine ⟨sline hn, x, ab, q, _, M.p.c, M.p.c, sign, M.p.c + sign.length, rfl, R3, ht, hn, ⟨hc, hc⟩, ?_⟩
        have e : M.write sign = ⟨M.p.put M.p.c M.p.c sign (M.p.c + sign.length), M1.b, [], M1.r + 1⟩ := by
          show (⟨_, _, _, _⟩ : Ln) = ⟨_, if M.r = 0 ∨ M.r = 20 then M.b ++ [M.p] else M.b, _, (if M.r = 0 ∨ M.r = 20 then 0 else M.r) + 1⟩
          by_cases r : M.r = 0 ∨ M.r = 20
          · rw [if_pos r, if_pos r, if_pos r]
            rfl
          · rw [if_neg r, if_neg r, if_neg r]
        rw [e] at k1
        exact k1.trans (f2.trans f3) (.inl rfl) (.inr (f2.free hq))
    · rw [if_neg fit] at k ⊢
      exact k
theorem d_Line_undo (T : TX K mg) : Mt P w K mg base 2 (He.ga K "Line") "undo" p_Line_undo (spLUndo K) := by
  refine mt_of (fn_Line_undo T) (cl_Line T) (me_Line_undo T) sc_Line_undo bd_Line_undo (fun vs H Q E h => ?_) (fun cdv A outer s H vs Q E hr h => ?_)
  · obtain ⟨x, ab, al, M, rfl, _⟩ := h
    rfl
  · obtain ⟨x, ab, al, M, rfl, R, hll, k⟩ := h
    obtain ⟨⟨dx, hp⟩, ⟨vb, hb, pb⟩, ⟨vl, hl, pl⟩, nbl⟩ := id R
    have nb := ne_il hp hb
    have nl := ne_il hp hl
    refine ⟨_, (pss_cons (ps_fld (pv 0) pe_int rfl) (pss_cons (ps_if (pt_not (pt_truth (pe_fld (pv 0) rfl) (by intro _; rfl))) (pss_one (ps_ret pe_bl)) pss_nil) (pss_cons (ps_expr (pe_bm PySem.F.plainAttrs_list PySem.F.slot_list_append PySem.F.type_list_append mt_append (pe_fld (pv 0) rfl) (pa_cons (pm0 (d_Line_picture T) (hr.mono (by decide)) px (pv 0)) pa_nil))) (pss_cons (ps_expr (pm (d_Line_show T) (hr.mono (by decide)) px (pv 0) (pa_cons (pe_bm0 PySem.F.plainAttrs_list PySem.F.slot_list_pop PySem.F.type_list_pop mt_pop (pe_fld (pv 0) rfl)) pa_nil))) (pss_one (ps_ret pe_bl)))))), ?_⟩
    walk_at "rd"
    simp only [List.getElem?_cons_zero, List.getElem?_cons_succ, List.set_cons_zero, List.set_cons_succ, List.cons_append, List.nil_append, List.append_nil, Option.some.injEq, V.int.injEq, V.str.injEq, V.bl.injEq, V.ref.injEq, List.cons.injEq, HO.ins.injEq, HO.lst.injEq, HO.tup.injEq, S_inj, ofS_inj, String.reduceEq, ex_eq, ex_eq', ex_eq0, tLc_eq, tFor_eq, iStr, iRng1, iRng2, iList, iTup, tVar, tC, tOp, tCons, tNil, tCB, tFld, tCallS, tMethW, tMakeS, WE, wKeep, tLits, tLst, tTup, wipe, rI, rI0, rU, rEq, rNe, scII, scSS, scBB, scNN, scNI, scNS, scNB, scIN, scSN, scBN, scIS, scSI, if_tt, if_ff, and_true, true_and, and_assoc, exists_and_left, exists_and_right, exists_const, cxK, decide_true, decide_false, Bool.not_true, Bool.not_false, eq_self_iff_true, Bool.true_eq_false, Bool.false_eq_true, if_true, if_false, reduceCtorEq, S_len, S_one, S_tl, decide_eq_true_eq, tUn, tAndV, tOrV, tNotV, tIf, tAnd, tOr, tNot, tB, tTest, tChain, tCall, tMeth, tMake, sFld, tSeq, tNext, tAsg, gName, tIfS, tRet, tRetN, tDrop, tM0, tM1, tBM, tBM0, rAppend, rPop, tSl, tPart, tNoPart, rIxL, rIxT, rIxS, rSlS, rSlL, rCat, tRevL, tDisp, tPairs, tDGet, sDPut, gTup, gCons, gNil, gSub, gAttr, rSetL, tv, upd_same, upd_upd, List.length_cons, List.length_nil, Nat.reduceAdd, Nat.zero_add, lines, fk_Line T, lk_Line, inj_Line, hp]
    refine ⟨_, tru_lst (by rw [upd_ne nb.symm]; exact hb), ?_⟩
    have R1 := R.put (dx := dx) M.p 0
    by_cases e : M.b = []
    · have ev : vb = [] := by
        have := pb.len
        rw [e] at this
        exact List.length_eq_zero_iff.mp this
      rw [if_pos (by rw [ev]; decide)]
      have e1 : M.undo = ⟨M.p, M.b, M.l, 0⟩ := by
        unfold Ln.undo
        rw [e]
        rfl
      rw [e1, e] at k
      have := k.now (by rw [← e]; exact R1)
      exact this
    · have ev : vb ≠ [] := fun z => e (by
        have := pb.len
        rw [z] at this
        exact List.length_eq_zero_iff.mp this.symm)
      rw [if_neg (by rw [decide_eq_true ev]; decide)]
      obtain ⟨us, p, eb⟩ : ∃ us p, M.b = us ++ [p] := ⟨M.b.dropLast, M.b.getLast e, (List.dropLast_concat_getLast e).symm⟩
      have hl1 : upd H x (.ins (He.ga K "Line") dx (fs_Line (tv M.p.t) (.int M.p.c) (.int M.p.m) (.ref ab) (.ref al) (.int 0))) al = some (.lst vl) := by
        rw [upd_ne nl.symm]
        exact hl
      refine ⟨.inl ⟨rfl, _, sq_of hl1⟩, x, ab, al, _, rfl, R1.1, fun q hq => ?_⟩
      have n1 := ne_new hl1 hq
      refine ⟨vl, by rw [upd_ne n1]; exact hl1, Nat.lt_of_le_of_lt (by rw [pl.len]; exact hll) (by decide), ?_⟩
      obtain ⟨R2, f2⟩ := R1.1.addL hl1 hq M.p
      obtain ⟨⟨dx2, hp2⟩, ⟨vb2, hb2, pb2⟩, _⟩ := id R2
      simp only [List.getElem?_cons_zero, List.getElem?_cons_succ, List.set_cons_zero, List.set_cons_succ, List.cons_append, List.nil_append, List.append_nil, Option.some.injEq, V.int.injEq, V.str.injEq, V.bl.injEq, V.ref.injEq, List.cons.injEq, HO.ins.injEq, HO.lst.injEq, HO.tup.injEq, S_inj, ofS_inj, String.reduceEq, ex_eq, ex_eq', ex_eq0, tLc_eq, tFor_eq, iStr, iRng1, iRng2, iList, iTup, tVar, tC, tOp, tCons, tNil, tCB, tFld, tCallS, tMethW, tMakeS, WE, wKeep, tLits, tLst, tTup, wipe, rI, rI0, rU, rEq, rNe, scII, scSS, scBB, scNN, scNI, scNS, scNB, scIN, scSN, scBN, scIS, scSI, if_tt, if_ff, and_true, true_and, and_assoc, exists_and_left, exists_and_right, exists_const, cxK, decide_true, decide_false, Bool.not_true, Bool.not_false, eq_self_iff_true, Bool.true_eq_false, Bool.false_eq_true, if_true, if_false, reduceCtorEq, S_len, S_one, S_tl, decide_eq_true_eq, tUn, tAndV, tOrV, tNotV, tIf, tAnd, tOr, tNot, tB, tTest, tChain, tCall, tMeth, tMake, sFld, tSeq, tNext, tAsg, gName, tIfS, tRet, tRetN, tDrop, tM0, tM1, tBM, tBM0, rAppend, rPop, tSl, tPart, tNoPart, rIxL, rIxT, rIxS, rSlS, rSlL, rCat, tRevL, tDisp, tPairs, tDGet, sDPut, gTup, gCons, gNil, gSub, gAttr, rSetL, tv, upd_same, upd_upd, List.length_cons, List.length_nil, Nat.reduceAdd, Nat.zero_add, lines, fk_Line T, lk_Line, inj_Line, hp2]
      obtain ⟨q2, e3, hq2, R3, f3⟩ := R2.popB hb2 eb
      refine ⟨.inl ⟨rfl, _, sq_of hb2⟩, _, hb2, _, e3, ?_⟩
      refine ⟨x, ab, al, q2, _, p, rfl, R3, f3.tup hq2, ?_⟩
      have e4 : M.undo = ⟨p, us, M.l ++ [M.p], 0⟩ := by
        unfold Ln.undo
        rw [eb, List.getLast?_concat, List.dropLast_concat]
      rw [decide_eq_true e, e4] at k
      exact k.trans ((R1.2.trans f2).trans f3) (.inl rfl) (.inl rfl)
theorem d_Line_redo (T : TX K mg) : Mt P w K mg base 2 (He.ga K "Line") "redo" p_Line_redo (spLRedo K) := by
  refine mt_of (fn_Line_redo T) (cl_Line T) (me_Line_redo T) sc_Line_redo bd_Line_redo (fun vs H Q E h => ?_) (fun cdv A outer s H vs Q E hr h => ?_)
  · obtain ⟨x, ab, al, M, rfl, _⟩ := h
    rfl
  · obtain ⟨x, ab, al, M, rfl, R, hll, k⟩ := h
    obtain ⟨⟨dx, hp⟩, ⟨vb, hb, pb⟩, ⟨vl, hl, pl⟩, nbl⟩ := id R
    have nb := ne_il hp hb
    have nl := ne_il hp hl
    refine ⟨_, (pss_cons (ps_fld (pv 0) pe_int rfl) (pss_cons (ps_if (pt_not (pt_truth (pe_fld (pv 0) rfl) (by intro _; rfl))) (pss_one (ps_ret pe_bl)) pss_nil) (pss_cons (ps_expr (pe_bm PySem.F.plainAttrs_list PySem.F.slot_list_append PySem.F.type_list_append mt_append (pe_fld (pv 0) rfl) (pa_cons (pm0 (d_Line_picture T) (hr.mono (by decide)) px (pv 0)) pa_nil))) (pss_cons (ps_expr (pm (d_Line_show T) (hr.mono (by decide)) px (pv 0) (pa_cons (pe_bm0 PySem.F.plainAttrs_list PySem.F.slot_list_pop PySem.F.type_list_pop mt_pop (pe_fld (pv 0) rfl)) pa_nil))) (pss_one (ps_ret pe_bl)))))), ?_⟩
    walk_at "rd"
    simp only [List.getElem?_cons_zero, List.getElem?_cons_succ, List.set_cons_zero, List.set_cons_succ, List.cons_append, List.nil_append, List.append_nil, Option.some.injEq, V.int.injEq, V.str.injEq, V.bl.injEq, V.ref.injEq, List.cons.injEq, HO.ins.injEq, HO.lst.injEq, HO.tup.injEq, S_inj, ofS_inj, String.reduceEq, ex_eq, ex_eq', ex_eq0, tLc_eq, tFor_eq, iStr, iRng1, iRng2, iList, iTup, tVar, tC, tOp, tCons, tNil, tCB, tFld, tCallS, tMethW, tMakeS, WE, wKeep, tLits, tLst, tTup, wipe, rI, rI0, rU, rEq, rNe, scII, scSS, scBB, scNN, scNI, scNS, scNB, scIN, scSN, scBN, scIS, scSI, if_tt, if_ff, and_true, true_and, and_assoc, exists_and_left, exists_and_right, exists_const, cxK, decide_true, decide_false, Bool.not_true, Bool.not_false, eq_self_iff_true, Bool.true_eq_false, Bool.false_eq_true, if_true, if_false, reduceCtorEq, S_len, S_one, S_tl, decide_eq_true_eq, tUn, tAndV, tOrV, tNotV, tIf, tAnd, tOr, tNot, tB, tTest, tChain, tCall, tMeth, tMake, sFld, tSeq, tNext, tAsg, gName, tIfS, tRet, tRetN, tDrop, tM0, tM1, tBM, tBM0, rAppend, rPop, tSl, tPart, tNoPart, rIxL, rIxT, rIxS, rSlS, rSlL, rCat, tRevL, tDisp, tPairs, tDGet, sDPut, gTup, gCons, gNil, gSub, gAttr, rSetL, tv, upd_same, upd_upd, List.length_cons, List.length_nil, Nat.reduceAdd, Nat.zero_add, lines, fk_Line T, lk_Line, inj_Line, hp]
    refine ⟨_, tru_lst (by rw [upd_ne nl.symm]; exact hl), ?_⟩
    have R1 := R.put (dx := dx) M.p 0
    by_cases e : M.l = []
    · have ev : vl = [] := by
        have := pl.len
        rw [e] at this
        exact List.length_eq_zero_iff.mp this
      rw [if_pos (by rw [ev]; decide)]
      have e1 : M.redo = ⟨M.p, M.b, M.l, 0⟩ := by
        unfold Ln.redo
        rw [e]
        rfl
      rw [e1, e] at k
      have := k.now (by rw [← e]; exact R1)
      exact this
    · have ev : vl ≠ [] := fun z => e (by
        have := pl.len
        rw [z] at this
        exact List.length_eq_zero_iff.mp this.symm)
      rw [if_neg (by rw [decide_eq_true ev]; decide)]
      obtain ⟨us, p, eb⟩ : ∃ us p, M.l = us ++ [p] := ⟨M.l.dropLast, M.l.getLast e, (List.dropLast_concat_getLast e).symm⟩
      have hb1 : upd H x (.ins (He.ga K "Line") dx (fs_Line (tv M.p.t) (.int M.p.c) (.int M.p.m) (.ref ab) (.ref al) (.int 0))) ab = some (.lst vb) := by
        rw [upd_ne nb.symm]
        exact hb
      refine ⟨.inl ⟨rfl, _, sq_of hb1⟩, x, ab, al, _, rfl, R1.1, fun q hq => ?_⟩
      have n1 := ne_new hb1 hq
      refine ⟨vb, by rw [upd_ne n1]; exact hb1, Nat.lt_of_le_of_lt (by rw [pb.len]; exact hll) (by decide), ?_⟩
      obtain ⟨R2, f2⟩ := R1.1.addB hb1 hq M.p
      obtain ⟨⟨dx2, hp2⟩, _, ⟨vl2, hl2, pl2⟩, _⟩ := id R2
      simp only [List.getElem?_cons_zero, List.getElem?_cons_succ, List.set_cons_zero, List.set_cons_succ, List.cons_append, List.nil_append, List.append_nil, Option.some.injEq, V.int.injEq, V.str.injEq, V.bl.injEq, V.ref.injEq, List.cons.injEq, HO.ins.injEq, HO.lst.injEq, HO.tup.injEq, S_inj, ofS_inj, String.reduceEq, ex_eq, ex_eq', ex_eq0, tLc_eq, tFor_eq, iStr, iRng1, iRng2, iList, iTup, tVar, tC, tOp, tCons, tNil, tCB, tFld, tCallS, tMethW, tMakeS, WE, wKeep, tLits, tLst, tTup, wipe, rI, rI0, rU, rEq, rNe, scII, scSS, scBB, scNN, scNI, scNS, scNB, scIN, scSN, scBN, scIS, scSI, if_tt, if_ff, and_true, true_and, and_assoc, exists_and_left, exists_and_right, exists_const, cxK, decide_true, decide_false, Bool.not_true, Bool.not_false, eq_self_iff_true, Bool.true_eq_false, Bool.false_eq_true, if_true, if_false, reduceCtorEq, S_len, S_one, S_tl, decide_eq_true_eq, tUn, tAndV, tOrV, tNotV, tIf, tAnd, tOr, tNot, tB, tTest, tChain, tCall, tMeth, tMake, sFld, tSeq, tNext, tAsg, gName, tIfS, tRet, tRetN, tDrop, tM0, tM1, tBM, tBM0, rAppend, rPop, tSl, tPart, tNoPart, rIxL, rIxT, rIxS, rSlS, rSlL, rCat, tRevL, tDisp, tPairs, tDGet, sDPut, gTup, gCons, gNil, gSub, gAttr, rSetL, tv, upd_same, upd_upd, List.length_cons, List.length_nil, Nat.reduceAdd, Nat.zero_add, lines, fk_Line T, lk_Line, inj_Line, hp2]
      obtain ⟨q2, e3, hq2, R3, f3⟩ := R2.popL hl2 eb
      refine ⟨.inl ⟨rfl, _, sq_of hl2⟩, _, hl2, _, e3, ?_⟩
      refine ⟨x, ab, al, q2, _, p, rfl, R3, f3.tup hq2, ?_⟩
      have e4 : M.redo = ⟨p, M.b ++ [M.p], us, 0⟩ := by
        unfold Ln.redo
        rw [eb, List.getLast?_concat, List.dropLast_concat]
      rw [decide_eq_true e, e4] at k
      exact k.trans ((R1.2.trans f2).trans f3) (.inl rfl) (.inl rfl)
theorem d_Line_groups (T : TX K mg) : Mt P w K mg base 1 (He.ga K "Line") "groups" p_Line_groups (spLGroups K) := by
  refine mt_of (fn_Line_groups T) (cl_Line T) (me_Line_groups T) sc_Line_groups bd_Line_groups (fun vs H Q E h => ?_) (fun cdv A outer s H vs Q E hr h => ?_)
  · obtain ⟨x, ab, al, M, rfl, _⟩ := h
    rfl
  · obtain ⟨x, ab, al, M, rfl, R, k⟩ := h
    obtain ⟨⟨dx, hp⟩, ⟨vb, hb, pb⟩, ⟨vl, hl, pl⟩, nbl⟩ := id R
    have nb := ne_il hp hb
    have nl := ne_il hp hl
    refine ⟨_, (pss_one (ps_ret (pe_tup (pa_cons (pe_callB call_len_seq (by rfl) (b_len T) boot_len (pa_cons (pe_fld (pv 0) rfl) pa_nil)) (pa_cons (pe_callB call_len_seq (by rfl) (b_len T) boot_len (pa_cons (pe_fld (pv 0) rfl) pa_nil)) pa_nil))))), ?_⟩
    walk_at "rd"
    simp only [List.getElem?_cons_zero, List.getElem?_cons_succ, List.set_cons_zero, List.set_cons_succ, List.cons_append, List.nil_append, List.append_nil, Option.some.injEq, V.int.injEq, V.str.injEq, V.bl.injEq, V.ref.injEq, List.cons.injEq, HO.ins.injEq, HO.lst.injEq, HO.tup.injEq, S_inj, ofS_inj, String.reduceEq, ex_eq, ex_eq', ex_eq0, tLc_eq, tFor_eq, iStr, iRng1, iRng2, iList, iTup, tVar, tC, tOp, tCons, tNil, tCB, tFld, tCallS, tMethW, tMakeS, WE, wKeep, tLits, tLst, tTup, wipe, rI, rI0, rU, rEq, rNe, scII, scSS, scBB, scNN, scNI, scNS, scNB, scIN, scSN, scBN, scIS, scSI, if_tt, if_ff, and_true, true_and, and_assoc, exists_and_left, exists_and_right, exists_const, cxK, decide_true, decide_false, Bool.not_true, Bool.not_false, eq_self_iff_true, Bool.true_eq_false, Bool.false_eq_true, if_true, if_false, reduceCtorEq, S_len, S_one, S_tl, decide_eq_true_eq, tUn, tAndV, tOrV, tNotV, tIf, tAnd, tOr, tNot, tB, tTest, tChain, tCall, tMeth, tMake, sFld, tSeq, tNext, tAsg, gName, tIfS, tRet, tRetN, tDrop, tM0, tM1, tBM, tBM0, rAppend, rPop, tSl, tPart, tNoPart, rIxL, rIxT, rIxS, rSlS, rSlL, rCat, tRevL, tDisp, tPairs, tDGet, sDPut, gTup, gCons, gNil, gSub, gAttr, rSetL, tv, upd_same, upd_upd, List.length_cons, List.length_nil, Nat.reduceAdd, Nat.zero_add, lines, fk_Line T, lk_Line, inj_Line, hp]
    refine ⟨_, .inl (sq_of hb), _, .inl (sq_of hl), ?_⟩
    simp only [List.getElem?_cons_zero, List.getElem?_cons_succ, List.set_cons_zero, List.set_cons_succ, List.cons_append, List.nil_append, List.append_nil, Option.some.injEq, V.int.injEq, V.str.injEq, V.bl.injEq, V.ref.injEq, List.cons.injEq, HO.ins.injEq, HO.lst.injEq, HO.tup.injEq, S_inj, ofS_inj, String.reduceEq, ex_eq, ex_eq', ex_eq0, tLc_eq, tFor_eq, iStr, iRng1, iRng2, iList, iTup, tVar, tC, tOp, tCons, tNil, tCB, tFld, tCallS, tMethW, tMakeS, WE, wKeep, tLits, tLst, tTup, wipe, rI, rI0, rU, rEq, rNe, scII, scSS, scBB, scNN, scNI, scNS, scNB, scIN, scSN, scBN, scIS, scSI, if_tt, if_ff, and_true, true_and, and_assoc, exists_and_left, exists_and_right, exists_const, cxK, decide_true, decide_false, Bool.not_true, Bool.not_false, eq_self_iff_true, Bool.true_eq_false, Bool.false_eq_true, if_true, if_false, reduceCtorEq, S_len, S_one, S_tl, decide_eq_true_eq, tUn, tAndV, tOrV, tNotV, tIf, tAnd, tOr, tNot, tB, tTest, tChain, tCall, tMeth, tMake, sFld, tSeq, tNext, tAsg, gName, tIfS, tRet, tRetN, tDrop, tM0, tM1, tBM, tBM0, rAppend, rPop, tSl, tPart, tNoPart, rIxL, rIxT, rIxS, rSlS, rSlL, rCat, tRevL, tDisp, tPairs, tDGet, sDPut, gTup, gCons, gNil, gSub, gAttr, rSetL, tv, upd_same, upd_upd, List.length_cons, List.length_nil, Nat.reduceAdd, Nat.zero_add, lines, fk_Line T, lk_Line, inj_Line, pb.len, pl.len]
    exact k
end
end LH
/-! ## A law's own line: a dict of what is there -/
namespace LH
open PySem PySem.Spec PyProof.Rows L2
/-- the dict at d tells a line: its pictures by tuples, two lists, the run -/
structure StAt (H : Hp) (d : Addr) (kvs : List (Key × V)) (ab al : Addr) (L : Ln) : Prop where
  e : H d = some (.dK kvs)
  n : ∃ qn, valV kvs (.inr "now") = some (.ref qn) ∧ H qn = some (.tup (picV L.p))
  vb : valV kvs (.inr "before") = some (.ref ab)
  b : ∃ xs, H ab = some (.lst xs) ∧ PicsAt H xs L.b
  vl : valV kvs (.inr "later") = some (.ref al)
  l : ∃ xs, H al = some (.lst xs) ∧ PicsAt H xs L.l
  r : valV kvs (.inr "run") = some (.int L.r)
  ne : ab ≠ al
  len : kvs.length ≤ 100
def lineKeys : List Key := [.inr "now", .inr "before", .inr "later", .inr "run"]
/-- other keys are as they were -/
def KeyFx (kvs kvs' : List (Key × V)) : Prop := ∀ k, k ∉ lineKeys → valV kvs' k = valV kvs k
def StTo (H : Hp) (d : Addr) (kvs : List (Key × V)) (ab al : Addr) (L : Ln) (Q : Hp → Prop) : Prop :=
  ∀ kvs' ab' al' H', KeyFx kvs kvs' → New H ab ab' → New H al al' → Fx [d, ab, al] H H' → StAt H' d kvs' ab' al' L → Q H'
theorem putK_there {kvs : List (Key × V)} {k : Key} {u v : V} (h : valV kvs k = some u) : (putK kvs k v).length = kvs.length := by
  have a : (kvs.any fun kv => decide (kv.1 = k)) = true := by
    cases e : kvs.any fun kv => decide (kv.1 = k) with
    | true => rfl
    | false =>
      rw [List.any_eq_false] at e
      have z : valV kvs k = none := by
        unfold valV
        rw [List.find?_eq_none.mpr fun x hx => e x hx]
        rfl
      rw [z] at h
      cases h
  unfold putK
  rw [if_pos a, List.length_map]
theorem StAt.setN {H : Hp} {d ab al : Addr} {kvs : List (Key × V)} {L : Ln} (S : StAt H d kvs ab al L) {q : Addr} {p : Pic} (hq : H q = some (.tup (picV p))) :
    StAt (upd H d (.dK (putK kvs (.inr "now") (.ref q)))) d (putK kvs (.inr "now") (.ref q)) ab al ⟨p, L.b, L.l, L.r⟩ ∧ Fx [d, ab, al] H (upd H d (.dK (putK kvs (.inr "now") (.ref q)))) ∧ KeyFx kvs (putK kvs (.inr "now") (.ref q)) := by
  have z : ∀ j : Key, valV (putK kvs (.inr "now") (.ref q)) j = if j = .inr "now" then some (.ref q) else valV kvs j := fun j => valV_put kvs _ j _
  have f : Fx [d, ab, al] H (upd H d (.dK (putK kvs (.inr "now") (.ref q)))) := Fx.upd List.mem_cons_self (nt_dK S.e)
  obtain ⟨vb, hb, pb⟩ := S.b
  obtain ⟨vl, hl, pl⟩ := S.l
  obtain ⟨qn, vn, hn⟩ := S.n
  have db : d ≠ ab := ne_of2 S.e hb (by intro z; cases z)
  have dl : d ≠ al := ne_of2 S.e hl (by intro z; cases z)
  have len : (putK kvs (.inr "now") (.ref q)).length ≤ 100 := by
    rw [putK_there vn]
    exact S.len
  refine ⟨⟨upd_same, ?_, ?_, ?_, ?_, ?_, ?_, S.ne, len⟩, f, fun k hk => ?_⟩
  · exact ⟨q, by rw [z]; simp only [Sum.inr.injEq, ofS_inj, String.reduceEq, if_true, if_false, reduceIte], f.tup hq⟩
  · rw [z]
    simp only [Sum.inr.injEq, ofS_inj, String.reduceEq, if_true, if_false, reduceIte]
    exact S.vb
  · exact ⟨vb, by rw [upd_ne db.symm]; exact hb, pb.fx f⟩
  · rw [z]
    simp only [Sum.inr.injEq, ofS_inj, String.reduceEq, if_true, if_false, reduceIte]
    exact S.vl
  · exact ⟨vl, by rw [upd_ne dl.symm]; exact hl, pl.fx f⟩
  · rw [z]
    simp only [Sum.inr.injEq, ofS_inj, String.reduceEq, if_true, if_false, reduceIte]
    exact S.r
  · rw [z, if_neg fun e => hk (by rw [e]; simp [lineKeys])]
theorem StAt.setR {H : Hp} {d ab al : Addr} {kvs : List (Key × V)} {L : Ln} (S : StAt H d kvs ab al L) (r : Int) :
    StAt (upd H d (.dK (putK kvs (.inr "run") (.int r)))) d (putK kvs (.inr "run") (.int r)) ab al ⟨L.p, L.b, L.l, r⟩ ∧ Fx [d, ab, al] H (upd H d (.dK (putK kvs (.inr "run") (.int r)))) ∧ KeyFx kvs (putK kvs (.inr "run") (.int r)) := by
  have z : ∀ j : Key, valV (putK kvs (.inr "run") (.int r)) j = if j = .inr "run" then some (.int r) else valV kvs j := fun j => valV_put kvs _ j _
  have f : Fx [d, ab, al] H (upd H d (.dK (putK kvs (.inr "run") (.int r)))) := Fx.upd List.mem_cons_self (nt_dK S.e)
  obtain ⟨vb, hb, pb⟩ := S.b
  obtain ⟨vl, hl, pl⟩ := S.l
  obtain ⟨qn, vn, hn⟩ := S.n
  have db : d ≠ ab := ne_of2 S.e hb (by intro z; cases z)
  have dl : d ≠ al := ne_of2 S.e hl (by intro z; cases z)
  have len : (putK kvs (.inr "run") (.int r)).length ≤ 100 := by
    rw [putK_there S.r]
    exact S.len
  refine ⟨⟨upd_same, ?_, ?_, ?_, ?_, ?_, ?_, S.ne, len⟩, f, fun k hk => ?_⟩
  · exact ⟨qn, by rw [z]; simp only [Sum.inr.injEq, ofS_inj, String.reduceEq, if_true, if_false, reduceIte]; exact vn, f.tup hn⟩
  · rw [z]
    simp only [Sum.inr.injEq, ofS_inj, String.reduceEq, if_true, if_false, reduceIte]
    exact S.vb
  · exact ⟨vb, by rw [upd_ne db.symm]; exact hb, pb.fx f⟩
  · rw [z]
    simp only [Sum.inr.injEq, ofS_inj, String.reduceEq, if_true, if_false, reduceIte]
    exact S.vl
  · exact ⟨vl, by rw [upd_ne dl.symm]; exact hl, pl.fx f⟩
  · rw [z]
    simp only [Sum.inr.injEq, ofS_inj, String.reduceEq, if_true, if_false, reduceIte]
  · rw [z, if_neg fun e => hk (by rw [e]; simp [lineKeys])]
theorem StAt.setLater {H : Hp} {d ab al : Addr} {kvs : List (Key × V)} {L : Ln} (S : StAt H d kvs ab al L) {q : Addr} (hq : H q = some (.lst [])) (nq : ab ≠ q) :
    StAt (upd H d (.dK (putK kvs (.inr "later") (.ref q)))) d (putK kvs (.inr "later") (.ref q)) ab q ⟨L.p, L.b, [], L.r⟩ ∧ Fx [d, ab, al] H (upd H d (.dK (putK kvs (.inr "later") (.ref q)))) ∧ KeyFx kvs (putK kvs (.inr "later") (.ref q)) := by
  have z : ∀ j : Key, valV (putK kvs (.inr "later") (.ref q)) j = if j = .inr "later" then some (.ref q) else valV kvs j := fun j => valV_put kvs _ j _
  have f : Fx [d, ab, al] H (upd H d (.dK (putK kvs (.inr "later") (.ref q)))) := Fx.upd List.mem_cons_self (nt_dK S.e)
  obtain ⟨vb, hb, pb⟩ := S.b
  obtain ⟨vl, hl, pl⟩ := S.l
  obtain ⟨qn, vn, hn⟩ := S.n
  have db : d ≠ ab := ne_of2 S.e hb (by intro z; cases z)
  have dl : d ≠ al := ne_of2 S.e hl (by intro z; cases z)
  have len : (putK kvs (.inr "later") (.ref q)).length ≤ 100 := by
    rw [putK_there S.vl]
    exact S.len
  refine ⟨⟨upd_same, ?_, ?_, ?_, ?_, ?_, ?_, nq, len⟩, f, fun k hk => ?_⟩
  · exact ⟨qn, by rw [z]; simp only [Sum.inr.injEq, ofS_inj, String.reduceEq, if_true, if_false, reduceIte]; exact vn, f.tup hn⟩
  · rw [z]
    simp only [Sum.inr.injEq, ofS_inj, String.reduceEq, if_true, if_false, reduceIte]
    exact S.vb
  · exact ⟨vb, by rw [upd_ne db.symm]; exact hb, pb.fx f⟩
  · rw [z]
    simp only [Sum.inr.injEq, ofS_inj, String.reduceEq, if_true, if_false, reduceIte]
  · exact ⟨[], by rw [upd_ne (ne_of2 S.e hq (by intro z; cases z)).symm]; exact hq, .nil⟩
  · rw [z]
    simp only [Sum.inr.injEq, ofS_inj, String.reduceEq, if_true, if_false, reduceIte]
    exact S.r
  · rw [z, if_neg fun e => hk (by rw [e]; simp [lineKeys])]
theorem StAt.setBefore {H : Hp} {d ab al : Addr} {kvs : List (Key × V)} {L : Ln} (S : StAt H d kvs ab al L) {q : Addr} (hq : H q = some (.lst [])) (nq : q ≠ al) :
    StAt (upd H d (.dK (putK kvs (.inr "before") (.ref q)))) d (putK kvs (.inr "before") (.ref q)) q al ⟨L.p, [], L.l, L.r⟩ ∧ Fx [d, ab, al] H (upd H d (.dK (putK kvs (.inr "before") (.ref q)))) ∧ KeyFx kvs (putK kvs (.inr "before") (.ref q)) := by
  have z : ∀ j : Key, valV (putK kvs (.inr "before") (.ref q)) j = if j = .inr "before" then some (.ref q) else valV kvs j := fun j => valV_put kvs _ j _
  have f : Fx [d, ab, al] H (upd H d (.dK (putK kvs (.inr "before") (.ref q)))) := Fx.upd List.mem_cons_self (nt_dK S.e)
  obtain ⟨vb, hb, pb⟩ := S.b
  obtain ⟨vl, hl, pl⟩ := S.l
  obtain ⟨qn, vn, hn⟩ := S.n
  have db : d ≠ ab := ne_of2 S.e hb (by intro z; cases z)
  have dl : d ≠ al := ne_of2 S.e hl (by intro z; cases z)
  have len : (putK kvs (.inr "before") (.ref q)).length ≤ 100 := by
    rw [putK_there S.vb]
    exact S.len
  refine ⟨⟨upd_same, ?_, ?_, ?_, ?_, ?_, ?_, nq, len⟩, f, fun k hk => ?_⟩
  · exact ⟨qn, by rw [z]; simp only [Sum.inr.injEq, ofS_inj, String.reduceEq, if_true, if_false, reduceIte]; exact vn, f.tup hn⟩
  · rw [z]
    simp only [Sum.inr.injEq, ofS_inj, String.reduceEq, if_true, if_false, reduceIte]
  · exact ⟨[], by rw [upd_ne (ne_of2 S.e hq (by intro z; cases z)).symm]; exact hq, .nil⟩
  · rw [z]
    simp only [Sum.inr.injEq, ofS_inj, String.reduceEq, if_true, if_false, reduceIte]
    exact S.vl
  · exact ⟨vl, by rw [upd_ne dl.symm]; exact hl, pl.fx f⟩
  · rw [z]
    simp only [Sum.inr.injEq, ofS_inj, String.reduceEq, if_true, if_false, reduceIte]
    exact S.r
  · rw [z, if_neg fun e => hk (by rw [e]; simp [lineKeys])]
theorem StAt.addB {H : Hp} {d ab al q : Addr} {kvs : List (Key × V)} {L : Ln} {xs : List V} {p : Pic} (S : StAt H d kvs ab al L) (hb : H ab = some (.lst xs)) (hq : H q = some (.tup (picV p))) :
    StAt (upd H ab (.lst (xs ++ [.ref q]))) d kvs ab al ⟨L.p, L.b ++ [p], L.l, L.r⟩ ∧ Fx [d, ab, al] H (upd H ab (.lst (xs ++ [.ref q]))) := by
  have f : Fx [d, ab, al] H (upd H ab (.lst (xs ++ [.ref q]))) := Fx.upd (by simp) (nt_lst hb)
  obtain ⟨vb, hb', pb⟩ := S.b
  obtain ⟨vl, hl, pl⟩ := S.l
  obtain ⟨qn, vn, hn⟩ := S.n
  rw [hb] at hb'
  cases hb'
  have db : d ≠ ab := ne_of2 S.e hb (by intro z; cases z)
  exact ⟨⟨by rw [upd_ne db]; exact S.e, ⟨qn, vn, f.tup hn⟩, S.vb, ⟨_, upd_same, (pb.fx f).add ⟨q, rfl, f.tup hq⟩⟩, S.vl, ⟨vl, by rw [upd_ne S.ne.symm]; exact hl, pl.fx f⟩, S.r, S.ne, S.len⟩, f⟩
theorem StAt.addL {H : Hp} {d ab al q : Addr} {kvs : List (Key × V)} {L : Ln} {xs : List V} {p : Pic} (S : StAt H d kvs ab al L) (hl : H al = some (.lst xs)) (hq : H q = some (.tup (picV p))) :
    StAt (upd H al (.lst (xs ++ [.ref q]))) d kvs ab al ⟨L.p, L.b, L.l ++ [p], L.r⟩ ∧ Fx [d, ab, al] H (upd H al (.lst (xs ++ [.ref q]))) := by
  have f : Fx [d, ab, al] H (upd H al (.lst (xs ++ [.ref q]))) := Fx.upd (by simp) (nt_lst hl)
  obtain ⟨vb, hb, pb⟩ := S.b
  obtain ⟨vl, hl', pl⟩ := S.l
  obtain ⟨qn, vn, hn⟩ := S.n
  rw [hl] at hl'
  cases hl'
  have dl : d ≠ al := ne_of2 S.e hl (by intro z; cases z)
  exact ⟨⟨by rw [upd_ne dl]; exact S.e, ⟨qn, vn, f.tup hn⟩, S.vb, ⟨vb, by rw [upd_ne S.ne]; exact hb, pb.fx f⟩, S.vl, ⟨_, upd_same, (pl.fx f).add ⟨q, rfl, f.tup hq⟩⟩, S.r, S.ne, S.len⟩, f⟩
theorem StAt.popB {H : Hp} {d ab al : Addr} {kvs : List (Key × V)} {L : Ln} {xs : List V} {us : List Pic} {p : Pic} (S : StAt H d kvs ab al L) (hb : H ab = some (.lst xs)) (e : L.b = us ++ [p]) :
    ∃ q, xs[xs.length - 1]? = some (.ref q) ∧ H q = some (.tup (picV p)) ∧ StAt (upd H ab (.lst xs.dropLast)) d kvs ab al ⟨L.p, us, L.l, L.r⟩ ∧ Fx [d, ab, al] H (upd H ab (.lst xs.dropLast)) := by
  obtain ⟨vb, hb', pb⟩ := S.b
  obtain ⟨vl, hl, pl⟩ := S.l
  obtain ⟨qn, vn, hn⟩ := S.n
  rw [hb] at hb'
  cases hb'
  have db : d ≠ ab := ne_of2 S.e hb (by intro z; cases z)
  obtain ⟨v, ws, rfl, ⟨q, rfl, hq⟩, pw⟩ := pb.last us p e
  have f : Fx [d, ab, al] H (upd H ab (.lst (ws ++ [V.ref q]).dropLast)) := Fx.upd (by simp) (nt_lst hb)
  refine ⟨q, by simp, hq, ⟨by rw [upd_ne db]; exact S.e, ⟨qn, vn, f.tup hn⟩, S.vb, ⟨_, upd_same, ?_⟩, S.vl, ⟨vl, by rw [upd_ne S.ne.symm]; exact hl, pl.fx f⟩, S.r, S.ne, S.len⟩, f⟩
  have z := pw.fx f
  rw [List.dropLast_concat] at z ⊢
  exact z
theorem StAt.popL {H : Hp} {d ab al : Addr} {kvs : List (Key × V)} {L : Ln} {xs : List V} {us : List Pic} {p : Pic} (S : StAt H d kvs ab al L) (hl : H al = some (.lst xs)) (e : L.l = us ++ [p]) :
    ∃ q, xs[xs.length - 1]? = some (.ref q) ∧ H q = some (.tup (picV p)) ∧ StAt (upd H al (.lst xs.dropLast)) d kvs ab al ⟨L.p, L.b, us, L.r⟩ ∧ Fx [d, ab, al] H (upd H al (.lst xs.dropLast)) := by
  obtain ⟨vb, hb, pb⟩ := S.b
  obtain ⟨vl, hl', pl⟩ := S.l
  obtain ⟨qn, vn, hn⟩ := S.n
  rw [hl] at hl'
  cases hl'
  have dl : d ≠ al := ne_of2 S.e hl (by intro z; cases z)
  obtain ⟨v, ws, rfl, ⟨q, rfl, hq⟩, pw⟩ := pl.last us p e
  have f : Fx [d, ab, al] H (upd H al (.lst (ws ++ [V.ref q]).dropLast)) := Fx.upd (by simp) (nt_lst hl)
  refine ⟨q, by simp, hq, ⟨by rw [upd_ne dl]; exact S.e, ⟨qn, vn, f.tup hn⟩, S.vb, ⟨vb, by rw [upd_ne S.ne]; exact hb, pb.fx f⟩, S.vl, ⟨_, upd_same, ?_⟩, S.r, S.ne, S.len⟩, f⟩
  have z := pw.fx f
  rw [List.dropLast_concat] at z ⊢
  exact z
theorem StAt.fx {F : List Addr} {H H' : Hp} {d ab al : Addr} {kvs : List (Key × V)} {L : Ln} (S : StAt H d kvs ab al L) (f : Fx F H H') (h1 : d ∉ F) (h2 : ab ∉ F) (h3 : al ∉ F) : StAt H' d kvs ab al L := by
  obtain ⟨vb, hb, pb⟩ := S.b
  obtain ⟨vl, hl, pl⟩ := S.l
  obtain ⟨qn, vn, hn⟩ := S.n
  exact ⟨f.at S.e h1, ⟨qn, vn, f.tup hn⟩, S.vb, ⟨vb, f.at hb h2, pb.fx f⟩, S.vl, ⟨vl, f.at hl h3, pl.fx f⟩, S.r, S.ne, S.len⟩
theorem StAt.same {H H' : Hp} {d ab al : Addr} {kvs : List (Key × V)} {L : Ln} (S : StAt H d kvs ab al L) (s : Same H H') : StAt H' d kvs ab al L :=
  S.fx (Fx.of (F := []) s) List.not_mem_nil List.not_mem_nil List.not_mem_nil
/-- what is read -/
theorem StAt.getN {H : Hp} {d ab al : Addr} {kvs : List (Key × V)} {L : Ln} (S : StAt H d kvs ab al L) : ∃ qn, DGet H d (.str "now") (some (.ref qn)) ∧ H qn = some (.tup (picV L.p)) := by
  obtain ⟨qn, vn, hn⟩ := S.n
  have z := DGet.k (k := .inr "now") S.e
  rw [vn] at z
  exact ⟨qn, z, hn⟩
theorem StAt.getB {H : Hp} {d ab al : Addr} {kvs : List (Key × V)} {L : Ln} (S : StAt H d kvs ab al L) : DGet H d (.str "before") (some (.ref ab)) := by
  have z := DGet.k (k := .inr "before") S.e
  rw [S.vb] at z
  exact z
theorem StAt.getL {H : Hp} {d ab al : Addr} {kvs : List (Key × V)} {L : Ln} (S : StAt H d kvs ab al L) : DGet H d (.str "later") (some (.ref al)) := by
  have z := DGet.k (k := .inr "later") S.e
  rw [S.vl] at z
  exact z
theorem StAt.getR {H : Hp} {d ab al : Addr} {kvs : List (Key × V)} {L : Ln} (S : StAt H d kvs ab al L) : DGet H d (.str "run") (some (.int L.r)) := by
  have z := DGet.k (k := .inr "run") S.e
  rw [S.r] at z
  exact z
theorem StAt.dput {H : Hp} {d ab al : Addr} {kvs : List (Key × V)} {L : Ln} (S : StAt H d kvs ab al L) (k : Str) (v : V) : DPut H d (.str k) v (upd H d (.dK (putK kvs (.inr k) v))) :=
  DPut.k (k := .inr k) S.e (Nat.lt_of_le_of_lt S.len (by decide))
theorem KeyFx.refl {kvs : List (Key × V)} : KeyFx kvs kvs := fun _ _ => rfl
theorem KeyFx.trans {a b c : List (Key × V)} (x : KeyFx a b) (y : KeyFx b c) : KeyFx a c := fun k h => (y k h).trans (x k h)
theorem StTo.trans {H H1 : Hp} {d ab al ab1 al1 : Addr} {kvs kvs1 : List (Key × V)} {L : Ln} {Q : Hp → Prop} (k : StTo H d kvs ab al L Q) (f : Fx [d, ab, al] H H1) (kf : KeyFx kvs kvs1) (n1 : New H ab ab1) (n2 : New H al al1) : StTo H1 d kvs1 ab1 al1 L Q := fun kvs' ab' al' H' kg m1 m2 g S => by
  refine k kvs' ab' al' H' (kf.trans kg) ?_ ?_ (f.comp g fun c hc => ?_) S
  · rcases m1 with rfl | m1
    · exact n1
    · exact .inr (f.free m1)
  · rcases m2 with rfl | m2
    · exact n2
    · exact .inr (f.free m2)
  · simp only [List.mem_cons, List.not_mem_nil, or_false] at hc ⊢
    rcases hc with q | q | q
    · exact .inl (.inl q)
    · rcases n1 with n | n
      · exact .inl (.inr (.inl (by rw [q, n])))
      · exact .inr (by rw [q]; exact n)
    · rcases n2 with n | n
      · exact .inl (.inr (.inr (by rw [q, n])))
      · exact .inr (by rw [q]; exact n)
theorem StTo.same {H H1 : Hp} {d ab al : Addr} {kvs : List (Key × V)} {L : Ln} {Q : Hp → Prop} (k : StTo H d kvs ab al L Q) (s : Same H H1) : StTo H1 d kvs ab al L Q := k.trans (Fx.of s) .refl (.inl rfl) (.inl rfl)
theorem StTo.now {H H' : Hp} {d ab al : Addr} {kvs kvs' : List (Key × V)} {L : Ln} {Q : Hp → Prop} (k : StTo H d kvs ab al L Q) (S : StAt H' d kvs' ab al L) (f : Fx [d, ab, al] H H') (kf : KeyFx kvs kvs') : Q H' := k kvs' ab al H' kf (.inl rfl) (.inl rfl) f S
abbrev kNow : Key := .inr "now"
abbrev kBefore : Key := .inr "before"
abbrev kLater : Key := .inr "later"
abbrev kRun : Key := .inr "run"
/-- a dict of a new line -/
abbrev newKvs (q b l : Addr) : List (Key × V) := mergeK [] [(.inr "now", .ref q), (.inr "before", .ref b), (.inr "later", .ref l), (.inr "run", .int 0)]
theorem newKvs_val (q b l : Addr) (j : Key) : valV (newKvs q b l) j = if j = .inr "run" then some (.int 0) else if j = .inr "later" then some (.ref l) else if j = .inr "before" then some (.ref b) else if j = .inr "now" then some (.ref q) else none := by
  show valV (putK (putK (putK (putK [] kNow (.ref q)) kBefore (.ref b)) kLater (.ref l)) kRun (.int 0)) j = _
  rw [valV_put, valV_put, valV_put, valV_put]
  rfl
theorem StAt.make {H : Hp} {d q b l : Addr} {p : Pic} (hd : H d = some (.dK [])) (hq : H q = some (.tup (picV p))) (hb : H b = some (.lst [])) (hl : H l = some (.lst [])) (n : b ≠ l) :
    StAt (upd H d (.dK (newKvs q b l))) d (newKvs q b l) b l ⟨p, [], [], 0⟩ := by
  have f : Fx [d] H (upd H d (.dK (newKvs q b l))) := Fx.upd List.mem_cons_self (nt_dK hd)
  have db : b ≠ d := ne_of2 hb hd (by intro z; cases z)
  have dl : l ≠ d := ne_of2 hl hd (by intro z; cases z)
  refine ⟨upd_same, ⟨q, ?_, f.tup hq⟩, ?_, ⟨[], by rw [upd_ne db]; exact hb, .nil⟩, ?_, ⟨[], by rw [upd_ne dl]; exact hl, .nil⟩, ?_, n, ?_⟩
  · rw [newKvs_val]
    simp only [Sum.inr.injEq, ofS_inj, String.reduceEq, if_true, if_false, reduceIte]
  · rw [newKvs_val]
    simp only [Sum.inr.injEq, ofS_inj, String.reduceEq, if_true, if_false, reduceIte]
  · rw [newKvs_val]
    simp only [Sum.inr.injEq, ofS_inj, String.reduceEq, if_true, if_false, reduceIte]
  · rw [newKvs_val]
    simp only [Sum.inr.injEq, ofS_inj, String.reduceEq, if_true, if_false, reduceIte]
  · show (putK (putK (putK (putK [] kNow (.ref q)) kBefore (.ref b)) kLater (.ref l)) kRun (.int 0)).length ≤ 100
    have h1 := length_putK (putK (putK (putK [] kNow (.ref q)) kBefore (.ref b)) kLater (.ref l)) kRun (.int 0)
    have h2 := length_putK (putK (putK [] kNow (.ref q)) kBefore (.ref b)) kLater (.ref l)
    have h3 := length_putK (putK [] kNow (.ref q)) kBefore (.ref b)
    have h4 := length_putK ([] : List (Key × V)) kNow (.ref q)
    rw [List.length_nil] at h4
    omega
/-! ### pictures as data -/
def Ln.asc (L : Ln) : Prop := Asc L.p.t ∧ (∀ p ∈ L.b, Asc p.t) ∧ ∀ p ∈ L.l, Asc p.t
abbrev picD (p : Pic) : PyData := .tuple [.str (S p.t), .int p.c, .int p.m]
theorem dp_pic {K : PySem.W.Frag} {H : Hp} {q : Addr} {p : Pic} (h : H q = some (.tup (picV p))) : Dp K H (.ref q) (picD p) := .tup (st_of h) (.cons (.str _) (.cons (.int _) (.cons (.int _) .nil)))
theorem dp_pics {K : PySem.W.Frag} {H : Hp} : ∀ {vs : List V} {ps : List Pic}, PicsAt H vs ps → DpAll K H vs (ps.map picD)
  | _, _, .nil => .nil
  | _, _, .cons ⟨q, e, h⟩ t => .cons (by rw [e]; exact dp_pic h) (dp_pics t)
theorem can_pic {p : Pic} (h : Asc p.t) : PyData.canLay0 (picD p) = true := by
  show PyData.canLay0 (.tuple [.str (S p.t), .int p.c, .int p.m]) = true
  simp only [PyData.canLay0, PyData.canLayAll0, strOk_asc h, Bool.and_self]
theorem depth_pic {p : Pic} : PyData.depth (picD p) = 1 := by
  show PyData.depth (.tuple [.str (S p.t), .int p.c, .int p.m]) = 1
  simp only [PyData.depth, PyData.depthAll, Nat.max_self]
theorem shaped_pic {p : Pic} (h : Asc p.t) : SeqAt.shaped (picD p) = true := by
  show (PyData.canLay0 _ && decide (PyData.depth _ ≤ 64)) = true
  rw [can_pic h, depth_pic]
  rfl
theorem can_pics : ∀ {ps : List Pic}, (∀ p ∈ ps, Asc p.t) → PyData.canLayAll0 (ps.map picD) = true
  | [], _ => by simp [PyData.canLayAll0]
  | p :: ps, h => by
    have h2 := can_pics (ps := ps) fun x hx => h x (List.mem_cons_of_mem _ hx)
    show PyData.canLayAll0 (picD p :: ps.map picD) = true
    rw [PyData.canLayAll0, can_pic (h p List.mem_cons_self), h2]
    rfl
theorem depth_pics : ∀ (ps : List Pic), PyData.depthAll (ps.map picD) ≤ 1
  | [] => by simp [PyData.depthAll]
  | p :: ps => by
    have h2 := depth_pics ps
    show PyData.depthAll (picD p :: ps.map picD) ≤ 1
    rw [PyData.depthAll, depth_pic]
    omega
theorem shaped_pics {ps : List Pic} (h : ∀ p ∈ ps, Asc p.t) : SeqAt.shaped (.list (ps.map picD)) = true := by
  show (PyData.canLay0 _ && decide (PyData.depth _ ≤ 64)) = true
  have e1 : PyData.canLay0 (.list (ps.map picD)) = true := by
    simp only [PyData.canLay0]
    exact can_pics h
  have e2 : PyData.depth (.list (ps.map picD)) ≤ 2 := by
    simp only [PyData.depth]
    have := depth_pics ps
    omega
  rw [e1, decide_eq_true (by omega)]
  rfl
theorem eqv_nil_pics {ps : List Pic} : PyData.eqv (.list (ps.map picD)) (.list []) = decide (ps = []) := by
  cases ps with
  | nil => rfl
  | cons u us => rfl
theorem eq_noPics {K : PySem.W.Frag} {H : Hp} {t q : Addr} {vs : List V} {ps : List Pic} {Q : VK} (e : H t = some (.lst vs)) (pv : PicsAt H vs ps) (f : H q = some (.lst [])) (h : ∀ p ∈ ps, Asc p.t) (k : Q (.bl (decide (ps = []))) H) : rEqD K (.ref t) (.ref q) H Q := by
  refine eq_data' (.lst (sq_of e) (dp_pics pv)) (.lst (sq_of f) .nil) (shaped_pics h) (by decide +kernel) ?_
  rw [eqv_nil_pics]
  exact k
theorem ne_noPics {K : PySem.W.Frag} {H : Hp} {t q : Addr} {vs : List V} {ps : List Pic} {Q : VK} (e : H t = some (.lst vs)) (pv : PicsAt H vs ps) (f : H q = some (.lst [])) (h : ∀ p ∈ ps, Asc p.t) (k : Q (.bl (decide (ps ≠ []))) H) : rNeD K (.ref t) (.ref q) H Q := by
  refine ne_data (.lst (sq_of e) (dp_pics pv)) (.lst (sq_of f) .nil) (shaped_pics h) (by decide +kernel) ?_
  rw [eqv_nil_pics]
  have e2 : (!decide (ps = [])) = decide (ps ≠ []) := by
    by_cases z : ps = [] <;> simp [z]
  rw [e2]
  exact k
end LH
/-! ## Lines that are in order -/
namespace LH
open PySem PySem.Spec PyProof.Rows L2
/-- a picture in order: not too long, caret and mark in it -/
structure PicOk (B : Nat) (p : Pic) : Prop where
  len : p.t.length ≤ B
  asc : Asc p.t
  c : inT p.t p.c
  m : inT p.t p.m
structure LnOk (B : Nat) (M : Ln) : Prop where
  p : PicOk B M.p
  b : ∀ p ∈ M.b, PicOk B p
  l : ∀ p ∈ M.l, PicOk B p
theorem PicOk.mono {B C : Nat} {p : Pic} (h : PicOk B p) (le : B ≤ C) : PicOk C p := ⟨Nat.le_trans h.len le, h.asc, h.c, h.m⟩
theorem LnOk.mono {B C : Nat} {M : Ln} (h : LnOk B M) (le : B ≤ C) : LnOk C M := ⟨h.p.mono le, fun p q => (h.b p q).mono le, fun p q => (h.l p q).mono le⟩
theorem LnOk.ascL {B : Nat} {M : Ln} (h : LnOk B M) : M.asc := ⟨h.p.asc, fun p q => (h.b p q).asc, fun p q => (h.l p q).asc⟩
theorem put_len {p : Pic} {i j c : Int} {new : List Nat} (hij : inTs p.t i j) (ij : i ≤ j) : ((p.put i j new c).t.length : Int) = p.t.length - (j - i) + new.length := by
  have h1 : 0 ≤ i ∧ i ≤ (p.t.length : Int) := hij.1
  have h2 : 0 ≤ j ∧ j ≤ (p.t.length : Int) := hij.2
  show (((p.t.take i.toNat ++ new ++ p.t.drop j.toNat).length : Nat) : Int) = _
  rw [List.length_append, List.length_append, List.length_take, List.length_drop]
  omega
theorem put_m {p : Pic} {i j c : Int} {new : List Nat} : (p.put i j new c).m = if p.m ≥ j ∧ p.m > i then p.m - (j - i) + new.length else if p.m > i then i + new.length else p.m := rfl
theorem PicOk.put {B C : Nat} {p : Pic} {i j c : Int} {new : List Nat} (h : PicOk B p) (hij : inTs p.t i j) (ij : i ≤ j) (hn : Asc new) (hc : 0 ≤ c ∧ c ≤ (p.t.length : Int) - (j - i) + new.length) (hl : (p.t.length : Int) - (j - i) + new.length ≤ C) : PicOk C (p.put i j new c) := by
  have e := put_len (c := c) (new := new) hij ij
  have h1 : 0 ≤ i ∧ i ≤ (p.t.length : Int) := hij.1
  have h2 : 0 ≤ j ∧ j ≤ (p.t.length : Int) := hij.2
  have hm : 0 ≤ p.m ∧ p.m ≤ (p.t.length : Int) := h.m
  refine ⟨by omega, ?_, ?_, ?_⟩
  · intro x hx
    rcases List.mem_append.mp hx with q | q
    · rcases List.mem_append.mp q with q | q
      · exact h.asc x (List.mem_of_mem_take q)
      · exact hn x q
    · exact h.asc x (List.mem_of_mem_drop q)
  · show 0 ≤ c ∧ c ≤ ((p.put i j new c).t.length : Int)
    omega
  · show 0 ≤ (p.put i j new c).m ∧ (p.put i j new c).m ≤ ((p.put i j new c).t.length : Int)
    rw [e, put_m]
    split
    · omega
    · split
      · omega
      · omega
section
variable {B : Nat} {M : Ln}
theorem LnOk.go {i : Int} (h : LnOk B M) (hi : inT M.p.t i) : LnOk B (M.go i) := ⟨⟨h.p.len, h.p.asc, hi, h.p.m⟩, h.b, h.l⟩
theorem LnOk.markAt {i : Int} (h : LnOk B M) (hi : inT M.p.t i) : LnOk B (M.markAt i) := ⟨⟨h.p.len, h.p.asc, h.p.c, hi⟩, h.b, h.l⟩
theorem LnOk.change {C : Nat} {i j c : Int} {new : List Nat} (h : LnOk B M) (hij : inTs M.p.t i j) (ij : i ≤ j) (hn : Asc new) (hc : 0 ≤ c ∧ c ≤ (M.p.t.length : Int) - (j - i) + new.length) (hl : (M.p.t.length : Int) - (j - i) + new.length ≤ C) (le : B ≤ C) :
    LnOk C (M.change i j new c) := by
  refine ⟨h.p.put hij ij hn hc hl, fun p q => ?_, fun p q => absurd q List.not_mem_nil⟩
  rcases List.mem_append.mp q with q | q
  · exact (h.b p q).mono le
  · rw [List.mem_singleton.mp q]
    exact h.p.mono le
theorem LnOk.write {C : Nat} {s : List Nat} (h : LnOk B M) (hn : Asc s) (hl : M.p.t.length + s.length ≤ C) (le : B ≤ C) : LnOk C (M.write s) := by
  have hc : 0 ≤ M.p.c ∧ M.p.c ≤ (M.p.t.length : Int) := h.p.c
  refine ⟨h.p.put ⟨hc, hc⟩ (Int.le_refl _) hn (by omega) (by omega), fun p q => ?_, fun p q => absurd q List.not_mem_nil⟩
  have q2 : p ∈ (if M.r = 0 ∨ M.r = 20 then M.b ++ [M.p] else M.b) := q
  split at q2
  · rcases List.mem_append.mp q2 with q | q
    · exact (h.b p q).mono le
    · rw [List.mem_singleton.mp q]
      exact h.p.mono le
  · exact (h.b p q2).mono le
theorem LnOk.undo (h : LnOk B M) : LnOk B M.undo := by
  unfold Ln.undo
  cases e : M.b.getLast? with
  | none => exact ⟨h.p, h.b, h.l⟩
  | some p =>
    refine ⟨h.b p (List.mem_of_getLast? e), fun x q => h.b x (List.mem_of_mem_take (by rw [← List.dropLast_eq_take]; exact q)), fun x q => ?_⟩
    rcases List.mem_append.mp q with q | q
    · exact h.l x q
    · rw [List.mem_singleton.mp q]
      exact h.p
theorem LnOk.redo (h : LnOk B M) : LnOk B M.redo := by
  unfold Ln.redo
  cases e : M.l.getLast? with
  | none => exact ⟨h.p, h.b, h.l⟩
  | some p =>
    refine ⟨h.l p (List.mem_of_getLast? e), fun x q => ?_, fun x q => h.l x (List.mem_of_mem_take (by rw [← List.dropLast_eq_take]; exact q))⟩
    rcases List.mem_append.mp q with q | q
    · exact h.b x q
    · rw [List.mem_singleton.mp q]
      exact h.p
theorem LnOk.zero : LnOk B .zero := by
  refine ⟨⟨Nat.zero_le _, fun _ h => absurd h List.not_mem_nil, ?_, ?_⟩, fun _ h => absurd h List.not_mem_nil, fun _ h => absurd h List.not_mem_nil⟩
  · exact ⟨Int.le_refl _, Int.le_refl _⟩
  · exact ⟨Int.le_refl _, Int.le_refl _⟩
theorem LnOk.new {t : List Nat} (h : t.length ≤ B) (a : Asc t) : LnOk B (.new t) := by
  refine ⟨⟨h, a, ?_, ?_⟩, fun _ h => absurd h List.not_mem_nil, fun _ h => absurd h List.not_mem_nil⟩
  · show 0 ≤ (t.length : Int) ∧ (t.length : Int) ≤ t.length
    omega
  · show (0 : Int) ≤ 0 ∧ (0 : Int) ≤ t.length
    omega
/-- how many pictures are kept -/
def Ln.many (M : Ln) : Nat := M.b.length + M.l.length
theorem many_undo : M.undo.many ≤ M.many + 1 := by
  unfold Ln.undo
  cases e : M.b.getLast? with
  | none => exact Nat.le_succ _
  | some p =>
    show M.b.dropLast.length + (M.l ++ [M.p]).length ≤ M.b.length + M.l.length + 1
    rw [List.length_dropLast, List.length_append, List.length_singleton]
    omega
theorem many_redo : M.redo.many ≤ M.many + 1 := by
  unfold Ln.redo
  cases e : M.l.getLast? with
  | none => exact Nat.le_succ _
  | some p =>
    show (M.b ++ [M.p]).length + M.l.dropLast.length ≤ M.b.length + M.l.length + 1
    rw [List.length_dropLast, List.length_append, List.length_singleton]
    omega
theorem many_change {i j c : Int} {new : List Nat} : (M.change i j new c).many ≤ M.many + 1 := by
  show (M.b ++ [M.p]).length + 0 ≤ M.b.length + M.l.length + 1
  rw [List.length_append, List.length_singleton]
  omega
theorem many_write {s : List Nat} : (M.write s).many ≤ M.many + 1 := by
  show (if M.r = 0 ∨ M.r = 20 then M.b ++ [M.p] else M.b).length + 0 ≤ M.b.length + M.l.length + 1
  split
  · rw [List.length_append, List.length_singleton]
    omega
  · omega
end
end LH
/-! ## L21: the law of runs -/
namespace LH
open PySem PySem.Spec PyProof.Rows L2
theorem Ap.app {K : PySem.W.Frag} {a : Addr} {ns : List Int} {F G : List Addr} (h : Ap K a ns F) (g : Ap K a ns G) : Ap K a ns (F ++ G) := by
  rcases h with h | h
  · exact .inl h
  · rcases g with g | g
    · exact .inl g
    · exact .inr fun m => (List.mem_append.mp m).elim h g
theorem Ap.new {K : PySem.W.Frag} {H : Hp} {a p l l' : Addr} {ns : List Int} {z : Nat} (D : Dr K H a p ns z) (n : New H l l') (h : Ap K a ns [l]) : Ap K a ns [l'] := by
  rcases n with rfl | n
  · exact h
  · exact D.new n
/-- the line, the list of texts beside it -/
structure J21 (K : PySem.W.Frag) (H : Hp) (a p x ab al t : Addr) (ns : List Int) (z : Nat) (M : Ln) (us : List (List Nat)) : Prop where
  D : Dr K H a p ns z
  R : LineAt K H x ab al M
  e : H t = some (.lst (tvs us))
  ap : Ap K a ns [x, ab, al, t]
  pn : p ∉ [x, ab, al, t]
  tn : t ∉ [x, ab, al]
section
variable {K : PySem.W.Frag} {H H' : Hp} {a p x ab al t ab' al' : Addr} {ns : List Int} {z z' : Nat} {M M' : Ln} {us vs : List (List Nat)}
theorem J21.draw (J : J21 K H a p x ab al t ns z M us) (f : Fx [p] H H') (D : Dr K H' a p ns z') : J21 K H' a p x ab al t ns z' M us := by
  have n : ∀ c ∈ [x, ab, al, t], c ∉ [p] := fun c hc h => J.pn (by rw [← List.mem_singleton.mp h]; exact hc)
  exact ⟨D, J.R.fx f (n _ (by simp)) (n _ (by simp)) (n _ (by simp)), f.at J.e (n _ (by simp)), J.ap, J.pn, J.tn⟩
theorem J21.same (J : J21 K H a p x ab al t ns z M us) (s : Same H H') : J21 K H' a p x ab al t ns z M us := J.draw (Fx.of s) (J.D.same s)
theorem J21.mono (J : J21 K H a p x ab al t ns z M us) (h : z ≤ z') : J21 K H a p x ab al t ns z' M us := ⟨J.D.mono h, J.R, J.e, J.ap, J.pn, J.tn⟩
theorem J21.put (J : J21 K H a p x ab al t ns z M us) : J21 K (upd H t (.lst (tvs vs))) a p x ab al t ns z M vs := by
  have f : Fx [t] H (upd H t (.lst (tvs vs))) := Fx.upd List.mem_cons_self (nt_lst J.e)
  have tn := J.tn
  have n : ∀ c ∈ [x, ab, al], c ∉ [t] := fun c hc h => tn (by rw [← List.mem_singleton.mp h]; exact hc)
  have pt : p ≠ t := fun e => J.pn (by simp [e])
  exact ⟨J.D.fy f (J.ap.mono (by simp)) (by simp [pt]), J.R.fx f (n _ (by simp)) (n _ (by simp)) (n _ (by simp)), upd_same, J.ap, J.pn, J.tn⟩
theorem J21.line (J : J21 K H a p x ab al t ns z M us) (n1 : New H ab ab') (n2 : New H al al') (f : Fx [x, ab, al] H H') (R : LineAt K H' x ab' al' M') : J21 K H' a p x ab' al' t ns z M' us := by
  have pn := J.pn
  have tn := J.tn
  have D := J.D.fy f (J.ap.mono (by simp +contextual)) (fun h => pn (by simp only [List.mem_cons, List.not_mem_nil, or_false] at h ⊢; rcases h with h | h | h <;> simp [h]))
  refine ⟨D, R, f.at J.e tn, ?_, ?_, ?_⟩
  · have h1 := Ap.new J.D n1 (J.ap.mono (F := [ab]) (by simp))
    have h2 := Ap.new J.D n2 (J.ap.mono (F := [al]) (by simp))
    exact ((J.ap.mono (F := [x]) (by simp)).app (h1.app (h2.app (J.ap.mono (F := [t]) (by simp)))))
  · have e1 : p ≠ ab' := by
      rcases n1 with rfl | n
      · exact fun e => pn (by simp [e])
      · exact J.D.ne n
    have e2 : p ≠ al' := by
      rcases n2 with rfl | n
      · exact fun e => pn (by simp [e])
      · exact J.D.ne n
    simp only [List.mem_cons, List.not_mem_nil, or_false, not_or] at pn ⊢
    exact ⟨pn.1, e1, e2, pn.2.2.2⟩
  · have e1 : t ≠ ab' := by
      rcases n1 with rfl | n
      · exact fun e => tn (by simp [e])
      · exact ne_new J.e n
    have e2 : t ≠ al' := by
      rcases n2 with rfl | n
      · exact fun e => tn (by simp [e])
      · exact ne_new J.e n
    simp only [List.mem_cons, List.not_mem_nil, or_false, not_or] at tn ⊢
    exact ⟨tn.1, e1, e2⟩
end
/-- the texts that are to be found: ahead of each group, and now -/
abbrev txs (M : Ln) : List (List Nat) := (M.b ++ [M.p]).map (·.t)
theorem txs_eq (M : Ln) : txs M = M.b.map (·.t) ++ [M.p.t] := List.map_append
/-- where k of the pictures ss are behind one, one is there, the others to be done again -/
def stL (ss : List Pic) (k : Nat) : Ln := ⟨ss.getD k ⟨[], 0, 0⟩, ss.take k, (ss.drop (k + 1)).reverse, 0⟩
theorem getD_get {ss : List Pic} {k : Nat} (h : k < ss.length) : ss[k]? = some (ss.getD k ⟨[], 0, 0⟩) := by
  rw [List.getD_eq_getElem?_getD, List.getElem?_eq_getElem h]
  rfl
theorem stL_undo {ss : List Pic} {k : Nat} (h : k + 1 < ss.length) : (stL ss (k + 1)).undo = stL ss k ∧ (stL ss (k + 1)).b ≠ [] := by
  have e : ss.take (k + 1) = ss.take k ++ [ss.getD k ⟨[], 0, 0⟩] := by
    rw [List.take_add_one, getD_get (by omega)]
    rfl
  have e2 : (ss.drop (k + 1)).reverse = (ss.drop (k + 1 + 1)).reverse ++ [ss.getD (k + 1) ⟨[], 0, 0⟩] := by
    have g := getD_get h
    rw [List.drop_eq_getElem_cons h, List.reverse_cons]
    rw [List.getElem?_eq_getElem h] at g
    rw [Option.some.inj g]
  refine ⟨?_, fun z => ?_⟩
  · show (match (ss.take (k + 1)).getLast? with | none => _ | some p => (⟨p, (ss.take (k + 1)).dropLast, (ss.drop (k + 1 + 1)).reverse ++ [ss.getD (k + 1) ⟨[], 0, 0⟩], 0⟩ : Ln)) = _
    rw [e, List.getLast?_concat, List.dropLast_concat, ← e2]
    rfl
  · have z2 : ss.take (k + 1) = [] := z
    rw [e] at z2
    simp at z2
theorem stL_redo {ss : List Pic} {k : Nat} (h : k + 1 < ss.length) : (stL ss k).redo = stL ss (k + 1) ∧ (stL ss k).l ≠ [] := by
  have e : ss.take (k + 1) = ss.take k ++ [ss.getD k ⟨[], 0, 0⟩] := by
    rw [List.take_add_one, getD_get (by omega)]
    rfl
  have e2 : (ss.drop (k + 1)).reverse = (ss.drop (k + 1 + 1)).reverse ++ [ss.getD (k + 1) ⟨[], 0, 0⟩] := by
    have g := getD_get h
    rw [List.drop_eq_getElem_cons h, List.reverse_cons]
    rw [List.getElem?_eq_getElem h] at g
    rw [Option.some.inj g]
  refine ⟨?_, fun z => ?_⟩
  · show (match (ss.drop (k + 1)).reverse.getLast? with | none => _ | some p => (⟨p, ss.take k ++ [ss.getD k ⟨[], 0, 0⟩], (ss.drop (k + 1)).reverse.dropLast, 0⟩ : Ln)) = _
    rw [e2, List.getLast?_concat, List.dropLast_concat, ← e]
    rfl
  · have z2 : (ss.drop (k + 1)).reverse = [] := z
    rw [e2] at z2
    simp at z2
theorem stL_first {ss : List Pic} : (stL ss 0).undo = stL ss 0 := rfl
theorem stL_last {ss : List Pic} {k : Nat} (h : ss.length = k + 1) : (stL ss k).redo = stL ss k ∧ (stL ss k).l = [] := by
  have e : (ss.drop (k + 1)).reverse = [] := by
    rw [List.drop_eq_nil_of_le (by omega)]
    rfl
  refine ⟨?_, e⟩
  show (match (ss.drop (k + 1)).reverse.getLast? with | none => (⟨_, _, (ss.drop (k + 1)).reverse, 0⟩ : Ln) | some p => _) = _
  rw [e]
  show (⟨ss.getD k ⟨[], 0, 0⟩, ss.take k, [], 0⟩ : Ln) = ⟨_, _, (ss.drop (k + 1)).reverse, 0⟩
  rw [e]
theorem stL_now {M : Ln} (r : M.r = 0) (l : M.l = []) : M = stL (M.b ++ [M.p]) M.b.length := by
  have e1 : (M.b ++ [M.p]).getD M.b.length ⟨[], 0, 0⟩ = M.p := by
    rw [List.getD_eq_getElem?_getD, List.getElem?_append_right (Nat.le_refl _), Nat.sub_self]
    rfl
  have e2 : (M.b ++ [M.p]).take M.b.length = M.b := by
    rw [List.take_append_of_le_length (Nat.le_refl _), List.take_length]
  have e3 : ((M.b ++ [M.p]).drop (M.b.length + 1)).reverse = [] := by
    rw [List.drop_eq_nil_of_le (by rw [List.length_append]; exact Nat.le_refl _)]
    rfl
  show M = ⟨_, _, _, 0⟩
  rw [e1, e2, e3, ← l, ← r]
/-- a sign written at the end -/
theorem write_end {M : Ln} {c : Nat} (h : M.p.c = M.p.t.length) : (M.write [c]).p.t = M.p.t ++ [c] ∧ (M.write [c]).p.c = ((M.write [c]).p.t.length : Nat) := by
  have e : (M.write [c]).p.t = M.p.t ++ [c] := by
    show M.p.t.take M.p.c.toNat ++ [c] ++ M.p.t.drop M.p.c.toNat = _
    rw [h, Int.toNat_natCast, List.take_length, List.drop_length, List.append_nil]
  refine ⟨e, ?_⟩
  rw [e]
  show M.p.c + ([c].length : Int) = _
  rw [h, List.length_append]
  rfl
theorem sign10 {j : Nat} (h : j < 10) : (("abcdefghij" : Str).cps.toList)[j]? = some (97 + j) := by
  have : ∀ j : Fin 10, (("abcdefghij" : Str).cps.toList)[(j : Nat)]? = some (97 + (j : Nat)) := by decide +kernel
  exact this ⟨j, h⟩
theorem sign10_ok {j : Nat} (h : j < 10) : okText [97 + j] = true := by
  have : ∀ j : Fin 10, okText [97 + (j : Nat)] = true := by decide +kernel
  exact this ⟨j, h⟩
theorem notin_new {H : Hp} {q x ab al ab' al' : Addr} {o : HO} (e : H q = some o) (qn : q ∉ [x, ab, al]) (n1 : New H ab ab') (n2 : New H al al') : q ∉ [x, ab', al'] := by
  have e1 : q ≠ ab' := by
    rcases n1 with rfl | n
    · exact fun e => qn (by simp [e])
    · exact ne_new e n
  have e2 : q ≠ al' := by
    rcases n2 with rfl | n
    · exact fun e => qn (by simp [e])
    · exact ne_new e n
  simp only [List.mem_cons, List.not_mem_nil, or_false, not_or] at qn ⊢
  exact ⟨qn.1, e1, e2⟩
theorem notin_fresh {K : PySem.W.Frag} {H : Hp} {q x ab al : Addr} {M : Ln} (R : LineAt K H x ab al M) (h : H q = none) : q ∉ [x, ab, al] := by
  obtain ⟨⟨dx, g1⟩, ⟨_, g2, _⟩, ⟨_, g3, _⟩, _⟩ := R
  simp [(ne_new g1 h).symm, (ne_new g2 h).symm, (ne_new g3 h).symm]
def spLaw (K : PySem.W.Frag) : Sp := fun vs H Q _ => ∃ (a : Addr) (ns : List Int), vs = [.ref a] ∧ SqL K H a (ns.map V.int) ∧ ns.length ≤ 63 ∧ ∀ H', Q (.bl true) H'
theorem len_law {K : PySem.W.Frag} (vs : List V) (H : Hp) (Q : VK) (E : XK) (h : spLaw K vs H Q E) : vs.length = p_law.length := by
  obtain ⟨a, ns, rfl, _⟩ := h
  rfl
section
variable {P : Program} {w : World} {K : PySem.W.Frag} {mg : Str → Option Value} {base : Heap}
theorem d_law (T : TX K mg) : BodyOk P w K mg base n_law "law" s_law (He.fAd K ("law", none)) 4 (spLaw K) := by
  intro cdv A outer s H vs Q E hr h
  · obtain ⟨a, ns, rfl, hS, hl, K0⟩ := h
    refine ⟨_, (pss_cons (ps_set (i := 1) sc_law.nd rfl (Or.inl rfl) (pe_lst pa_nil)) (pss_cons (ps_set (i := 2) sc_law.nd rfl (Or.inl rfl) (pn (d_Line_init T) (hr.mono (by decide)) px (pa_cons pe_str pa_nil))) (pss_cons (ps_set (i := 3) sc_law.nd rfl (Or.inl rfl) (pe_lst (pa_cons pe_str pa_nil))) (Evl.pss_cut (ps_for (passes_of rfl) rfl (pi_range1 rfl (b_range T) (pa_cons (pe_op op_add pe_int (pc (d_l_draw T) (hr.mono (by decide)) px (pa_cons (pv 0) (pa_cons (pv 1) (pa_cons pe_int pa_nil))))) pa_nil)) (pg_name (i := 4) sc_law.nd rfl (Or.inl rfl)) (pss_cons (ps_set (i := 5) sc_law.nd rfl (Or.inl rfl) (pc (d_l_pick T) (hr.mono (by decide)) px (pa_cons (pv 0) (pa_cons (pv 1) (pa_cons (pe_lst (pa_cons pe_int (pa_cons pe_int (pa_cons pe_int (pa_cons pe_int (pa_cons pe_int (pa_cons pe_int (pa_cons (pc (d_l_draw T) (hr.mono (by decide)) px (pa_cons (pv 0) (pa_cons (pv 1) (pa_cons pe_int pa_nil)))) pa_nil)))))))) pa_nil))))) (Evl.pss_cut (ps_for (passes_of rfl) rfl (pi_range1 rfl (b_range T) (pa_cons (pv 5) pa_nil)) (pg_name (i := 6) sc_law.nd rfl (Or.inl rfl)) (pss_cons (ps_expr (pm (d_Line_write T) (hr.mono (by decide)) px (pv 2) (pa_cons (pe_ix ix_str pe_str (pe_op op_modN (pv 6) pe_int) (fun _ _ => rfl)) pa_nil))) (pss_one (ps_if (PW.pt (pw_and (pt_cmpR op_eq (pe_op op_modN (pv 6) pe_int) pe_int (nomark _)) (pw_and1 (pt_cmpR op_gt (pv 6) pe_int (nomark _))))) (pss_one (ps_expr (pe_bm PySem.F.plainAttrs_list PySem.F.slot_list_append PySem.F.type_list_append mt_append (pv 3) (pa_cons (pe_slice sl_str (pm0 (d_Line_text T) (hr.mono (by decide)) px (pv 2)) po_none (po_some (pe_un un_neg pe_int))) pa_nil)))) pss_nil)))) (Evl.pss_cut (ps_if (pt_cmpR op_gt (pv 5) pe_int (nomark _)) (pss_one (ps_expr (pe_bm PySem.F.plainAttrs_list PySem.F.slot_list_append PySem.F.type_list_append mt_append (pv 3) (pa_cons (pm0 (d_Line_text T) (hr.mono (by decide)) px (pv 2)) pa_nil)))) pss_nil) (pss_cons (ps_set (i := 7) sc_law.nd rfl (Or.inl rfl) (pc (d_l_draw T) (hr.mono (by decide)) px (pa_cons (pv 0) (pa_cons (pv 1) (pa_cons pe_int pa_nil))))) (pss_one (ps_if (pt_cmpR op_eq (pv 7) pe_int (nomark _)) (pss_one (ps_expr (pm (d_Line_go T) (hr.mono (by decide)) px (pv 2) (pa_cons (pm0 (d_Line_at T) (hr.mono (by decide)) px (pv 2)) pa_nil)))) (pss_one (ps_if (pt_cmpR op_eq (pv 7) pe_int (nomark _)) (pss_one (ps_expr (pm (d_Line_put_mark T) (hr.mono (by decide)) px (pv 2) (pa_cons pe_int pa_nil)))) (pss_cons (ps_expr (pm (d_Line_change T) (hr.mono (by decide)) px (pv 2) (pa_cons pe_int (pa_cons pe_int (pa_cons pe_str (pa_cons (pe_op op_add (pe_callB call_len_str (by rfl) (b_len T) boot_len (pa_cons (pm0 (d_Line_text T) (hr.mono (by decide)) px (pv 2)) pa_nil)) pe_int) pa_nil)))))) (pss_one (ps_expr (pe_bm PySem.F.plainAttrs_list PySem.F.slot_list_append PySem.F.type_list_append mt_append (pv 3) (pa_cons (pm0 (d_Line_text T) (hr.mono (by decide)) px (pv 2)) pa_nil)))))))))))))) (Evl.pss_cut (ps_if (pt_cmpR (op_neD hr.units) (pm0 (d_Line_groups T) (hr.mono (by decide)) px (pv 2)) (pe_tup (pa_cons (pe_op op_sub (pe_callB call_len_seq (by rfl) (b_len T) boot_len (pa_cons (pv 3) pa_nil)) pe_int) (pa_cons pe_int pa_nil))) (nomark _)) (pss_one (ps_ret pe_bl)) pss_nil) (Evl.pss_cut (ps_for (passes_of rfl) rfl (pi_list (pe_slice sl_list (pe_revL (pv 3)) (po_some pe_int) po_none)) (pg_name (i := 8) sc_law.nd rfl (Or.inl rfl)) (pss_one (ps_if (PW.pt (pw_or (pt_not (pt_val (pm0 (d_Line_undo T) (hr.mono (by decide)) px (pv 2)))) (pw_or1 (pt_cmpR op_ne (pm0 (d_Line_text T) (hr.mono (by decide)) px (pv 2)) (pv 8) (nomark _))))) (pss_one (ps_ret pe_bl)) pss_nil))) (Evl.pss_cut (ps_if (PW.pt (pw_or (pt_val (pm0 (d_Line_undo T) (hr.mono (by decide)) px (pv 2))) (pw_or1 (pt_cmpR (op_neD hr.units) (pm0 (d_Line_groups T) (hr.mono (by decide)) px (pv 2)) (pe_tup (pa_cons pe_int (pa_cons (pe_op op_sub (pe_callB call_len_seq (by rfl) (b_len T) boot_len (pa_cons (pv 3) pa_nil)) pe_int) pa_nil))) (nomark _))))) (pss_one (ps_ret pe_bl)) pss_nil) (Evl.pss_cut (ps_for (passes_of rfl) rfl (pi_list (pe_slice sl_list (pv 3) (po_some pe_int) po_none)) (pg_name (i := 8) sc_law.nd rfl (Or.inl rfl)) (pss_one (ps_if (PW.pt (pw_or (pt_not (pt_val (pm0 (d_Line_redo T) (hr.mono (by decide)) px (pv 2)))) (pw_or1 (pt_cmpR op_ne (pm0 (d_Line_text T) (hr.mono (by decide)) px (pv 2)) (pv 8) (nomark _))))) (pss_one (ps_ret pe_bl)) pss_nil))) (pss_one (ps_ret (pe_and (pe_not (pm0 (d_Line_redo T) (hr.mono (by decide)) px (pv 2))) (pe_one (pe_cmpR op_eq (pm0 (d_Line_at T) (hr.mono (by decide)) px (pv 2)) (pe_callB call_len_str (by rfl) (b_len T) boot_len (pa_cons (pm0 (d_Line_text T) (hr.mono (by decide)) px (pv 2)) pa_nil)) (nomark _)))))))))))))), ?_⟩
    walk_at "rd"
    refine ⟨by decide, fun p hp x xd hx hxd nxd => ⟨x, xd, [], rfl, upd_same, by decide, ?_⟩⟩
    have D0 : Dr K (upd H p (.lst [])) a p ns 0 := Dr.start hS hl hp
    rw [if_pos (by decide +kernel)]
    intro ab al H2 hab hal F2 R2
    refine ⟨rfl, by decide, fun t ht => ?_⟩
    have sm : Same (upd H p (.lst [])) (upd (upd (upd H p (.lst [])) xd (.own x)) x (.ins (He.ga K "Line") xd [])) := (same_new hxd).trans (same_new (by rw [upd_ne nxd.symm]; exact hx))
    have hab1 := sm.free hab
    have hal1 := sm.free hal
    have D2 : Dr K H2 a p ns 0 := (D0.same sm).fy F2 (D0.new hx) (by simp [D0.ne hx])
    have st := same_new (o := .lst (tvs [[]])) ht
    have J0 : J21 K (upd H2 t (.lst (tvs [[]]))) a p x ab al t ns 0 (.new []) [[]] := by
      obtain ⟨⟨dx, g1⟩, ⟨_, g2, _⟩, ⟨_, g3, _⟩, _⟩ := id R2
      exact ⟨D2.same st, R2.same st, upd_same, (D0.new hx).cons ((D0.new hab1).cons ((D0.new hal1).cons (D2.new ht))), by simp [D0.ne hx, D0.ne hab1, D0.ne hal1, D2.ne ht], by simp [(ne_new g1 ht).symm, (ne_new g2 ht).symm, (ne_new g3 ht).symm]⟩
    let Inv : Nat → L2.St → Hp → Prop := fun i σ' H' => ∃ (ab al : Addr) (M : Ln) (v4 v5 v6 v7 : Option V), σ' = [some (.ref a), some (.ref p), some (.ref x), some (.ref t), v4, v5, v6, v7, none] ∧
      J21 K H' a p x ab al t ns (1 + 3 * i) M (txs M) ∧ M.r = 0 ∧ M.l = [] ∧ M.p.c = M.p.t.length ∧ LnOk (50 * i) M ∧ M.many ≤ 100 * i
    refine ⟨Inv 5, ?_, ?_⟩
    · walk_at "rd"
      refine ⟨a, p, 5, ns, 0, rfl, J0.D, by omega, by omega, by omega, fun n H3 n0 n1 F3 D3 => ?_⟩
      have J1 := J0.draw F3 D3
      obtain ⟨n, rfl⟩ : ∃ j : Nat, n = (j : Int) := ⟨n.toNat, by omega⟩
      refine ⟨_, rfl, by omega, by omega, ?_⟩
      rw [show (1 + (n : Int)).toNat = 1 + n by omega]
      refine forb_rng Inv ⟨ab, al, .new [], _, _, _, _, rfl, J1.mono (by omega), rfl, rfl, rfl, LnOk.new (Nat.zero_le _) (fun _ h => absurd h List.not_mem_nil), Nat.zero_le _⟩ ?_ ?_
      · rintro i σ' H' hi ⟨ab, al, M, v4, v5, v6, v7, rfl, J, r0, l0, ce, ok, hm⟩
        rw [Int.zero_add]
        walk_at "rd"
        refine ⟨a, p, 50, ns, _, rfl, J.D, by omega, by omega, by omega, fun d H4 d0 d1 F4 D4 => ?_⟩
        have J4 := J.draw F4 D4
        refine pick_new (xs := [.int 1, .int 19, .int 20, .int 21, .int 40, .int 41, .int d]) D4 (by omega) (by simp) (by simp) fun j v H5 hj F5 D5 => ?_
        have J5 := J4.draw F5 D5
        obtain ⟨m, rfl, hm50⟩ : ∃ m : Nat, v = .int m ∧ m < 50 := by
          match j, hj with
          | 0, hj => exact ⟨1, (Option.some.inj hj).symm, by omega⟩
          | 1, hj => exact ⟨19, (Option.some.inj hj).symm, by omega⟩
          | 2, hj => exact ⟨20, (Option.some.inj hj).symm, by omega⟩
          | 3, hj => exact ⟨21, (Option.some.inj hj).symm, by omega⟩
          | 4, hj => exact ⟨40, (Option.some.inj hj).symm, by omega⟩
          | 5, hj => exact ⟨41, (Option.some.inj hj).symm, by omega⟩
          | 6, hj => exact ⟨d.toNat, by rw [← Option.some.inj hj, Int.toNat_of_nonneg d0], by omega⟩
          | j + 7, hj => simp at hj
        let In : Nat → L2.St → Hp → Prop := fun j σ' H' => ∃ (ab al : Addr) (M' : Ln) (v6 : Option V), σ' = [some (.ref a), some (.ref p), some (.ref x), some (.ref t), some (.int (i : Nat)), some (.int (m : Nat)), v6, v7, none] ∧
          J21 K H' a p x ab al t ns (1 + 3 * i + 1 + 1) M' (if j = 0 then txs M' else M'.b.map (·.t)) ∧ M'.r = (if j = 0 then 0 else ((j - 1) % 20 + 1 : Nat)) ∧ M'.l = [] ∧ M'.p.c = M'.p.t.length ∧ LnOk (50 * i + j) M' ∧ M'.many ≤ 100 * i + j
        refine ⟨In m, ?_, ?_⟩
        · walk_at "rd"
          refine ⟨by omega, by omega, ?_⟩
          rw [Int.toNat_natCast]
          refine forb_rng In ⟨ab, al, M, _, rfl, by rw [if_pos rfl]; exact J5, by rw [if_pos rfl]; exact r0, l0, ce, ok, hm⟩ ?_ (fun _ _ h => h)
          rintro j σ' H6 hjm ⟨ab, al, M', v6, rfl, J6, r6, l6, c6, ok6, m6⟩
          rw [Int.zero_add]
          obtain ⟨⟨dx6, hp6⟩, _⟩ := id J6.R
          walk_at "rd"
          simp only [List.getElem?_cons_zero, List.getElem?_cons_succ, List.set_cons_zero, List.set_cons_succ, List.cons_append, List.nil_append, List.append_nil, Option.some.injEq, V.int.injEq, V.str.injEq, V.bl.injEq, V.ref.injEq, List.cons.injEq, HO.ins.injEq, HO.lst.injEq, HO.tup.injEq, S_inj, ofS_inj, String.reduceEq, ex_eq, ex_eq', ex_eq0, tLc_eq, tFor_eq, iStr, iRng1, iRng2, iList, iTup, tVar, tC, tOp, tCons, tNil, tCB, tFld, tCallS, tMethW, tMakeS, WE, wKeep, tLits, tLst, tTup, wipe, rI, rI0, rU, rEq, rNe, scII, scSS, scBB, scNN, scNI, scNS, scNB, scIN, scSN, scBN, scIS, scSI, if_tt, if_ff, and_true, true_and, and_assoc, exists_and_left, exists_and_right, exists_const, cxK, decide_true, decide_false, Bool.not_true, Bool.not_false, eq_self_iff_true, Bool.true_eq_false, Bool.false_eq_true, if_true, if_false, reduceCtorEq, S_len, S_one, S_tl, decide_eq_true_eq, tUn, tAndV, tOrV, tNotV, tIf, tAnd, tOr, tNot, tB, tTest, tChain, tCall, tMeth, tMake, sFld, tSeq, tNext, tAsg, gName, tIfS, tRet, tRetN, tDrop, tM0, tM1, tBM, tBM0, rAppend, rPop, tSl, tPart, tNoPart, rIxL, rIxT, rIxS, rSlS, rSlL, rCat, tRevL, tDisp, tPairs, tDGet, sDPut, gTup, gCons, gNil, gSub, gAttr, rSetL, tv, upd_same, upd_upd, List.length_cons, List.length_nil, Nat.reduceAdd, Nat.zero_add, lines, fk_Line T, lk_Line, inj_Line, hp6]
          have hj10 : j % 10 < 10 := Nat.mod_lt _ (by omega)
          have okc := sign10_ok hj10
          have lt6 := ok6.p.len
          have sz6 : M'.b.length ≤ 1000 := by
            unfold Ln.many at m6
            omega
          have hc6 : inT M'.p.t M'.p.c := ok6.p.c
          have fit : fitsT M'.p.t M'.p.c M'.p.c [97 + j % 10] := ⟨okc, by show _ + ((1 : Nat) : Int) ≤ 400; omega⟩
          refine ⟨by omega, by decide +kernel, 97 + j % 10, ?_, x, ab, al, M', [97 + j % 10], rfl, J6.R, by omega, by show 1 ≤ 100000; omega, by omega, hc6, ?_⟩
          · have e : ((j : Int)).fmod 10 = ((j % 10 : Nat) : Int) := by
              rw [Int.fmod_eq_emod_of_nonneg _ (by omega)]
              rfl
            rw [e, atI_in (by omega) (by show ((j % 10 : Nat) : Int) < (("abcdefghij" : Str).cps.toList.length : Int); rw [show ("abcdefghij" : Str).cps.toList.length = 10 by decide +kernel]; omega), Int.toNat_natCast]
            exact sign10 hj10
          rw [if_pos fit]
          intro ab' al' H7 n1 n2 f7 R7
          have J7 := J6.line n1 n2 f7 R7
          obtain ⟨wt, wc⟩ := write_end (c := 97 + j % 10) c6
          have ok7 : LnOk (50 * i + (j + 1)) (M'.write [97 + j % 10]) := ok6.write (okText_lt okc) (by show M'.p.t.length + 1 ≤ _; omega) (by omega)
          have m7 := many_write (M := M') (s := [97 + j % 10])
          have r7 : (M'.write [97 + j % 10]).r = ((if j + 1 = 0 then 0 else (j + 1 - 1) % 20 + 1 : Nat) : Int) := by
            show (if M'.r = 0 ∨ M'.r = 20 then (1 : Int) else M'.r + 1) = _
            rw [if_neg (show ¬ (j + 1 = 0) by omega), r6]
            by_cases z : j = 0
            · rw [if_pos z, if_pos (.inl rfl), z]
              rfl
            · rw [if_neg z]
              by_cases e : j % 20 = 0
              · rw [if_pos (by omega)]
                omega
              · rw [if_neg (by omega)]
                omega
          have b7 : (M'.write [97 + j % 10]).b = if j % 20 = 0 then M'.b ++ [M'.p] else M'.b := by
            show (if M'.r = 0 ∨ M'.r = 20 then M'.b ++ [M'.p] else M'.b) = _
            rw [r6]
            by_cases z : j = 0
            · rw [if_pos z, if_pos (.inl rfl), if_pos (by omega)]
            · rw [if_neg z]
              by_cases e : j % 20 = 0
              · rw [if_pos (by omega), if_pos e]
              · rw [if_neg (by omega), if_neg e]
          have em : ((j : Int)).fmod 20 = ((j % 20 : Nat) : Int) := by
            rw [Int.fmod_eq_emod_of_nonneg _ (by omega)]
            rfl
          have fin : ∀ H8, J21 K H8 a p x ab' al' t ns (1 + 3 * i + 1 + 1) (M'.write [97 + j % 10]) ((M'.write [97 + j % 10]).b.map (·.t)) →
              In (j + 1) [some (.ref a), some (.ref p), some (.ref x), some (.ref t), some (.int (i : Nat)), some (.int (m : Nat)), some (.int (j : Nat)), v7, none] H8 := fun H8 J8 =>
            ⟨ab', al', _, _, rfl, by rw [if_neg (by omega)]; exact J8, r7, rfl, wc, ok7, by omega⟩
          refine ⟨by omega, ?_⟩
          by_cases e20 : j % 20 = 0
          · rw [if_pos (by rw [em, e20]; rfl)]
            rw [if_pos e20] at b7
            by_cases z : j = 0
            · rw [if_neg (by omega)]
              refine fin _ ?_
              rw [if_pos z] at J7
              rw [b7]
              exact J7
            · rw [if_pos (by omega)]
              rw [if_neg z] at J7
              obtain ⟨⟨dx7, hp7⟩, _⟩ := id J7.R
              refine ⟨.inl ⟨rfl, _, sq_of J7.e⟩, ?_⟩
              simp only [List.getElem?_cons_zero, List.getElem?_cons_succ, List.set_cons_zero, List.set_cons_succ, List.cons_append, List.nil_append, List.append_nil, Option.some.injEq, V.int.injEq, V.str.injEq, V.bl.injEq, V.ref.injEq, List.cons.injEq, HO.ins.injEq, HO.lst.injEq, HO.tup.injEq, S_inj, ofS_inj, String.reduceEq, ex_eq, ex_eq', ex_eq0, tLc_eq, tFor_eq, iStr, iRng1, iRng2, iList, iTup, tVar, tC, tOp, tCons, tNil, tCB, tFld, tCallS, tMethW, tMakeS, WE, wKeep, tLits, tLst, tTup, wipe, rI, rI0, rU, rEq, rNe, scII, scSS, scBB, scNN, scNI, scNS, scNB, scIN, scSN, scBN, scIS, scSI, if_tt, if_ff, and_true, true_and, and_assoc, exists_and_left, exists_and_right, exists_const, cxK, decide_true, decide_false, Bool.not_true, Bool.not_false, eq_self_iff_true, Bool.true_eq_false, Bool.false_eq_true, if_true, if_false, reduceCtorEq, S_len, S_one, S_tl, decide_eq_true_eq, tUn, tAndV, tOrV, tNotV, tIf, tAnd, tOr, tNot, tB, tTest, tChain, tCall, tMeth, tMake, sFld, tSeq, tNext, tAsg, gName, tIfS, tRet, tRetN, tDrop, tM0, tM1, tBM, tBM0, rAppend, rPop, tSl, tPart, tNoPart, rIxL, rIxT, rIxS, rSlS, rSlL, rCat, tRevL, tDisp, tPairs, tDGet, sDPut, gTup, gCons, gNil, gSub, gAttr, rSetL, tv, upd_same, upd_upd, List.length_cons, List.length_nil, Nat.reduceAdd, Nat.zero_add, lines, fk_Line T, lk_Line, inj_Line, hp7, spGet]
              refine ⟨sline (by have := ok7.p.len; omega), _, J7.e, slt (by rw [List.length_map, List.length_map]; omega), ?_⟩
              rw [cut_last, wt, List.dropLast_concat]
              refine fin _ ?_
              rw [b7, List.map_append]
              have J8 := J7.put (vs := M'.b.map (·.t) ++ [M'.p.t])
              have e8 : tvs (M'.b.map (·.t) ++ [M'.p.t]) = tvs (M'.b.map (·.t)) ++ [tv M'.p.t] := tvs_add _ _
              rw [e8] at J8
              exact J8
          · rw [if_neg (by rw [em]; omega)]
            rw [if_neg e20] at b7
            rw [if_neg (by omega)] at J7
            refine fin _ ?_
            rw [b7]
            exact J7
        · rintro σ' H6 ⟨ab, al, M', v6, rfl, J6, r6, l6, c6, ok6, m6⟩
          walk_at "rd"
          have lt6 := ok6.p.len
          have sz6 : M'.b.length ≤ 1000 := by
            unfold Ln.many at m6
            omega
          let Mid : L2.St → Hp → Prop := fun σ' H' => σ' = [some (.ref a), some (.ref p), some (.ref x), some (.ref t), some (.int (i : Nat)), some (.int (m : Nat)), v6, v7, none] ∧ J21 K H' a p x ab al t ns (1 + 3 * i + 1 + 1) M' (txs M')
          refine ⟨Mid, ?_, ?_⟩
          · walk_at "rd"
            by_cases z : m = 0
            · rw [if_neg (by omega)]
              rw [if_pos z] at J6
              exact ⟨rfl, J6⟩
            · rw [if_pos (by omega)]
              rw [if_neg z] at J6
              obtain ⟨⟨dx6, hp6⟩, _⟩ := id J6.R
              refine ⟨.inl ⟨rfl, _, sq_of J6.e⟩, ?_⟩
              simp only [List.getElem?_cons_zero, List.getElem?_cons_succ, List.set_cons_zero, List.set_cons_succ, List.cons_append, List.nil_append, List.append_nil, Option.some.injEq, V.int.injEq, V.str.injEq, V.bl.injEq, V.ref.injEq, List.cons.injEq, HO.ins.injEq, HO.lst.injEq, HO.tup.injEq, S_inj, ofS_inj, String.reduceEq, ex_eq, ex_eq', ex_eq0, tLc_eq, tFor_eq, iStr, iRng1, iRng2, iList, iTup, tVar, tC, tOp, tCons, tNil, tCB, tFld, tCallS, tMethW, tMakeS, WE, wKeep, tLits, tLst, tTup, wipe, rI, rI0, rU, rEq, rNe, scII, scSS, scBB, scNN, scNI, scNS, scNB, scIN, scSN, scBN, scIS, scSI, if_tt, if_ff, and_true, true_and, and_assoc, exists_and_left, exists_and_right, exists_const, cxK, decide_true, decide_false, Bool.not_true, Bool.not_false, eq_self_iff_true, Bool.true_eq_false, Bool.false_eq_true, if_true, if_false, reduceCtorEq, S_len, S_one, S_tl, decide_eq_true_eq, tUn, tAndV, tOrV, tNotV, tIf, tAnd, tOr, tNot, tB, tTest, tChain, tCall, tMeth, tMake, sFld, tSeq, tNext, tAsg, gName, tIfS, tRet, tRetN, tDrop, tM0, tM1, tBM, tBM0, rAppend, rPop, tSl, tPart, tNoPart, rIxL, rIxT, rIxS, rSlS, rSlL, rCat, tRevL, tDisp, tPairs, tDGet, sDPut, gTup, gCons, gNil, gSub, gAttr, rSetL, tv, upd_same, upd_upd, List.length_cons, List.length_nil, Nat.reduceAdd, Nat.zero_add, lines, fk_Line T, lk_Line, inj_Line, hp6, spGet]
              refine ⟨_, J6.e, slt (by rw [List.length_map, List.length_map]; omega), rfl, ?_⟩
              have J8 := J6.put (vs := M'.b.map (·.t) ++ [M'.p.t])
              have e8 : tvs (M'.b.map (·.t) ++ [M'.p.t]) = tvs (M'.b.map (·.t)) ++ [tv M'.p.t] := tvs_add _ _
              have e9 : txs M' = M'.b.map (·.t) ++ [M'.p.t] := by
                show (M'.b ++ [M'.p]).map (·.t) = _
                rw [List.map_append]
                rfl
              rw [e8] at J8
              rw [e9]
              exact J8
          · rintro σ' H7 ⟨rfl, J7⟩
            walk_at "rd"
            refine ⟨a, p, 3, ns, _, rfl, J7.D, by omega, by omega, by omega, fun n H8 n0 n1 F8 D8 => ⟨rfl, ?_⟩⟩
            have J8 := J7.draw F8 D8
            obtain ⟨⟨dx8, hp8⟩, _⟩ := id J8.R
            have fin : ∀ (ab9 al9 : Addr) (M9 : Ln) (H9 : Hp), J21 K H9 a p x ab9 al9 t ns (1 + 3 * i + 1 + 1 + 1) M9 (txs M9) → M9.r = 0 → M9.l = [] → M9.p.c = M9.p.t.length → LnOk (50 * (i + 1)) M9 → M9.many ≤ 100 * (i + 1) →
                Inv (i + 1) [some (.ref a), some (.ref p), some (.ref x), some (.ref t), some (.int (i : Nat)), some (.int (m : Nat)), v6, some (.int n), none] H9 := fun ab9 al9 M9 H9 J9 r9 l9 c9 ok9 m9 =>
              ⟨ab9, al9, M9, _, _, _, _, rfl, J9.mono (by omega), r9, l9, c9, ok9, m9⟩
            have hc : inT M'.p.t M'.p.c := ok6.p.c
            by_cases z0 : n = 0
            · rw [if_pos (by rw [z0])]
              simp only [List.getElem?_cons_zero, List.getElem?_cons_succ, List.set_cons_zero, List.set_cons_succ, List.cons_append, List.nil_append, List.append_nil, Option.some.injEq, V.int.injEq, V.str.injEq, V.bl.injEq, V.ref.injEq, List.cons.injEq, HO.ins.injEq, HO.lst.injEq, HO.tup.injEq, S_inj, ofS_inj, String.reduceEq, ex_eq, ex_eq', ex_eq0, tLc_eq, tFor_eq, iStr, iRng1, iRng2, iList, iTup, tVar, tC, tOp, tCons, tNil, tCB, tFld, tCallS, tMethW, tMakeS, WE, wKeep, tLits, tLst, tTup, wipe, rI, rI0, rU, rEq, rNe, scII, scSS, scBB, scNN, scNI, scNS, scNB, scIN, scSN, scBN, scIS, scSI, if_tt, if_ff, and_true, true_and, and_assoc, exists_and_left, exists_and_right, exists_const, cxK, decide_true, decide_false, Bool.not_true, Bool.not_false, eq_self_iff_true, Bool.true_eq_false, Bool.false_eq_true, if_true, if_false, reduceCtorEq, S_len, S_one, S_tl, decide_eq_true_eq, tUn, tAndV, tOrV, tNotV, tIf, tAnd, tOr, tNot, tB, tTest, tChain, tCall, tMeth, tMake, sFld, tSeq, tNext, tAsg, gName, tIfS, tRet, tRetN, tDrop, tM0, tM1, tBM, tBM0, rAppend, rPop, tSl, tPart, tNoPart, rIxL, rIxT, rIxS, rSlS, rSlL, rCat, tRevL, tDisp, tPairs, tDGet, sDPut, gTup, gCons, gNil, gSub, gAttr, rSetL, tv, upd_same, upd_upd, List.length_cons, List.length_nil, Nat.reduceAdd, Nat.zero_add, lines, fk_Line T, lk_Line, inj_Line, hp8, spGet]
              refine ⟨x, ab, al, M', M'.p.c, rfl, J8.R, by omega, ?_⟩
              rw [if_pos hc]
              intro ab9 al9 H9 n1 n2 f9 R9
              exact fin ab9 al9 (M'.go M'.p.c) _ (by have z := J8.line n1 n2 f9 R9; rw [txs_eq] at z ⊢; exact z) rfl l6 c6 ((ok6.go hc).mono (by omega)) (Nat.le_trans m6 (by omega))
            · rw [if_neg (by intro q; injection q with q; exact z0 q)]
              refine ⟨rfl, ?_⟩
              by_cases z1 : n = 1
              · rw [if_pos (by rw [z1])]
                simp only [List.getElem?_cons_zero, List.getElem?_cons_succ, List.set_cons_zero, List.set_cons_succ, List.cons_append, List.nil_append, List.append_nil, Option.some.injEq, V.int.injEq, V.str.injEq, V.bl.injEq, V.ref.injEq, List.cons.injEq, HO.ins.injEq, HO.lst.injEq, HO.tup.injEq, S_inj, ofS_inj, String.reduceEq, ex_eq, ex_eq', ex_eq0, tLc_eq, tFor_eq, iStr, iRng1, iRng2, iList, iTup, tVar, tC, tOp, tCons, tNil, tCB, tFld, tCallS, tMethW, tMakeS, WE, wKeep, tLits, tLst, tTup, wipe, rI, rI0, rU, rEq, rNe, scII, scSS, scBB, scNN, scNI, scNS, scNB, scIN, scSN, scBN, scIS, scSI, if_tt, if_ff, and_true, true_and, and_assoc, exists_and_left, exists_and_right, exists_const, cxK, decide_true, decide_false, Bool.not_true, Bool.not_false, eq_self_iff_true, Bool.true_eq_false, Bool.false_eq_true, if_true, if_false, reduceCtorEq, S_len, S_one, S_tl, decide_eq_true_eq, tUn, tAndV, tOrV, tNotV, tIf, tAnd, tOr, tNot, tB, tTest, tChain, tCall, tMeth, tMake, sFld, tSeq, tNext, tAsg, gName, tIfS, tRet, tRetN, tDrop, tM0, tM1, tBM, tBM0, rAppend, rPop, tSl, tPart, tNoPart, rIxL, rIxT, rIxS, rSlS, rSlL, rCat, tRevL, tDisp, tPairs, tDGet, sDPut, gTup, gCons, gNil, gSub, gAttr, rSetL, tv, upd_same, upd_upd, List.length_cons, List.length_nil, Nat.reduceAdd, Nat.zero_add, lines, fk_Line T, lk_Line, inj_Line, hp8, spGet]
                refine ⟨x, ab, al, M', 0, rfl, J8.R, by omega, ?_⟩
                have h0 : inT M'.p.t 0 := ⟨Int.le_refl _, by omega⟩
                rw [if_pos h0]
                intro ab9 al9 H9 n1 n2 f9 R9
                exact fin ab9 al9 (M'.markAt 0) _ (by have z := J8.line n1 n2 f9 R9; rw [txs_eq] at z ⊢; exact z) rfl l6 c6 ((ok6.markAt h0).mono (by omega)) (Nat.le_trans m6 (by omega))
              · rw [if_neg (by intro q; injection q with q; exact z1 q)]
                simp only [List.getElem?_cons_zero, List.getElem?_cons_succ, List.set_cons_zero, List.set_cons_succ, List.cons_append, List.nil_append, List.append_nil, Option.some.injEq, V.int.injEq, V.str.injEq, V.bl.injEq, V.ref.injEq, List.cons.injEq, HO.ins.injEq, HO.lst.injEq, HO.tup.injEq, S_inj, ofS_inj, String.reduceEq, ex_eq, ex_eq', ex_eq0, tLc_eq, tFor_eq, iStr, iRng1, iRng2, iList, iTup, tVar, tC, tOp, tCons, tNil, tCB, tFld, tCallS, tMethW, tMakeS, WE, wKeep, tLits, tLst, tTup, wipe, rI, rI0, rU, rEq, rNe, scII, scSS, scBB, scNN, scNI, scNS, scNB, scIN, scSN, scBN, scIS, scSI, if_tt, if_ff, and_true, true_and, and_assoc, exists_and_left, exists_and_right, exists_const, cxK, decide_true, decide_false, Bool.not_true, Bool.not_false, eq_self_iff_true, Bool.true_eq_false, Bool.false_eq_true, if_true, if_false, reduceCtorEq, S_len, S_one, S_tl, decide_eq_true_eq, tUn, tAndV, tOrV, tNotV, tIf, tAnd, tOr, tNot, tB, tTest, tChain, tCall, tMeth, tMake, sFld, tSeq, tNext, tAsg, gName, tIfS, tRet, tRetN, tDrop, tM0, tM1, tBM, tBM0, rAppend, rPop, tSl, tPart, tNoPart, rIxL, rIxT, rIxS, rSlS, rSlL, rCat, tRevL, tDisp, tPairs, tDGet, sDPut, gTup, gCons, gNil, gSub, gAttr, rSetL, tv, upd_same, upd_upd, List.length_cons, List.length_nil, Nat.reduceAdd, Nat.zero_add, lines, fk_Line T, lk_Line, inj_Line, hp8, spGet]
                have okd : okText ("-" : Str).cps.toList = true := by decide +kernel
                have ld : ("-" : Str).cps.toList.length = 1 := by decide +kernel
                have h0 : inTs M'.p.t 0 0 := ⟨⟨Int.le_refl _, by omega⟩, ⟨Int.le_refl _, by omega⟩⟩
                refine ⟨sline (by omega), x, ab, al, M', 0, 0, ("-" : Str).cps.toList, (M'.p.t.length : Int) + 1, rfl, J8.R, by omega, by rw [ld]; omega, by omega, ?_⟩
                have fit : fitsT M'.p.t 0 0 ("-" : Str).cps.toList := ⟨okd, by rw [ld]; omega⟩
                unfold Chk
                rw [if_pos h0, if_pos fit]
                intro ab9 al9 H9 n1 n2 f9 R9
                have J9 := J8.line n1 n2 f9 R9
                have ok9 : LnOk (50 * (i + 1)) (M'.change 0 0 ("-" : Str).cps.toList ((M'.p.t.length : Int) + 1)) := ok6.change h0 (Int.le_refl _) (okText_lt okd) (by rw [ld]; omega) (by rw [ld]; omega) (by omega)
                have ch := put_len (p := M'.p) (i := 0) (j := 0) (c := (M'.p.t.length : Int) + 1) (new := ("-" : Str).cps.toList) h0 (Int.le_refl _)
                rw [ld] at ch
                obtain ⟨⟨dx9, hp9⟩, _⟩ := id R9
                refine ⟨.inl ⟨rfl, _, sq_of J9.e⟩, ?_⟩
                simp only [List.getElem?_cons_zero, List.getElem?_cons_succ, List.set_cons_zero, List.set_cons_succ, List.cons_append, List.nil_append, List.append_nil, Option.some.injEq, V.int.injEq, V.str.injEq, V.bl.injEq, V.ref.injEq, List.cons.injEq, HO.ins.injEq, HO.lst.injEq, HO.tup.injEq, S_inj, ofS_inj, String.reduceEq, ex_eq, ex_eq', ex_eq0, tLc_eq, tFor_eq, iStr, iRng1, iRng2, iList, iTup, tVar, tC, tOp, tCons, tNil, tCB, tFld, tCallS, tMethW, tMakeS, WE, wKeep, tLits, tLst, tTup, wipe, rI, rI0, rU, rEq, rNe, scII, scSS, scBB, scNN, scNI, scNS, scNB, scIN, scSN, scBN, scIS, scSI, if_tt, if_ff, and_true, true_and, and_assoc, exists_and_left, exists_and_right, exists_const, cxK, decide_true, decide_false, Bool.not_true, Bool.not_false, eq_self_iff_true, Bool.true_eq_false, Bool.false_eq_true, if_true, if_false, reduceCtorEq, S_len, S_one, S_tl, decide_eq_true_eq, tUn, tAndV, tOrV, tNotV, tIf, tAnd, tOr, tNot, tB, tTest, tChain, tCall, tMeth, tMake, sFld, tSeq, tNext, tAsg, gName, tIfS, tRet, tRetN, tDrop, tM0, tM1, tBM, tBM0, rAppend, rPop, tSl, tPart, tNoPart, rIxL, rIxT, rIxS, rSlS, rSlL, rCat, tRevL, tDisp, tPairs, tDGet, sDPut, gTup, gCons, gNil, gSub, gAttr, rSetL, tv, upd_same, upd_upd, List.length_cons, List.length_nil, Nat.reduceAdd, Nat.zero_add, lines, fk_Line T, lk_Line, inj_Line, hp9, spGet]
                refine ⟨_, J9.e, slt (by rw [List.length_map, List.length_map, List.length_append]; simp; omega), ?_⟩
                have J10 := J9.put (vs := txs M' ++ [(M'.change 0 0 ("-" : Str).cps.toList ((M'.p.t.length : Int) + 1)).p.t])
                have e8 : tvs (txs M' ++ [(M'.change 0 0 ("-" : Str).cps.toList ((M'.p.t.length : Int) + 1)).p.t]) = tvs (txs M') ++ [tv (M'.change 0 0 ("-" : Str).cps.toList ((M'.p.t.length : Int) + 1)).p.t] := tvs_add _ _
                have e9 : txs (M'.change 0 0 ("-" : Str).cps.toList ((M'.p.t.length : Int) + 1)) = txs M' ++ [(M'.change 0 0 ("-" : Str).cps.toList ((M'.p.t.length : Int) + 1)).p.t] := by
                  rw [txs_eq]
                  rfl
                rw [e8, ← e9] at J10
                have mm := many_change (M := M') (i := 0) (j := 0) (c := (M'.p.t.length : Int) + 1) (new := ("-" : Str).cps.toList)
                exact fin _ _ _ _ J10 rfl rfl (by show (M'.p.t.length : Int) + 1 = ((M'.p.put 0 0 ("-" : Str).cps.toList ((M'.p.t.length : Int) + 1)).t.length : Int); rw [ch]; omega) ok9 (by omega)
      · rintro σ' H' ⟨ab, al, M, v4, v5, v6, v7, rfl, J, r0, l0, ce, ok, hm⟩
        exact ⟨ab, al, M, v4, v5, v6, v7, rfl, J.mono (by omega), r0, l0, ce, ok.mono (by omega), by omega⟩
    · rintro σ' H' ⟨ab, al, M, v4, v5, v6, v7, rfl, J, r0, l0, ce, ok, hm⟩
      obtain ⟨ss, hss⟩ : ∃ ss : List Pic, ss = M.b ++ [M.p] := ⟨_, rfl⟩
      obtain ⟨n, hn⟩ : ∃ n : Nat, n = M.b.length := ⟨_, rfl⟩
      have ls : ss.length = n + 1 := by rw [hss, List.length_append, hn]; rfl
      have eM : M = stL ss n := by rw [hss, hn]; exact stL_now r0 l0
      have etx : txs M = ss.map (·.t) := by rw [hss]
      have n500 : n ≤ 500 := by
        unfold Ln.many at hm
        omega
      have pok : ∀ k, k ≤ n → (ss.getD k ⟨[], 0, 0⟩).t.length ≤ 250 := fun k hk => by
        have g := getD_get (ss := ss) (k := k) (by omega)
        have mem := List.mem_of_getElem? g
        rw [hss] at mem ⊢
        rcases List.mem_append.mp mem with q | q
        · exact (ok.b _ q).len
        · rw [List.mem_singleton.mp q]
          exact ok.p.len
      have sb : ∀ k, (stL ss k).b.length ≤ 1000 := fun k => by
        show (ss.take k).length ≤ 1000
        rw [List.length_take]
        omega
      have sl : ∀ k, (stL ss k).l.length ≤ 1000 := fun k => by
        show ((ss.drop (k + 1)).reverse).length ≤ 1000
        rw [List.length_reverse, List.length_drop]
        omega
      rw [etx] at J
      rw [eM] at J
      have lt : (tvs (ss.map (·.t))).length = n + 1 := by rw [List.length_map, List.length_map, ls]
      have bl : (stL ss n).b.length = n := by
        show (ss.take n).length = n
        rw [List.length_take]
        omega
      let Ph : Nat → L2.St → Hp → Prop := fun k σ' H' => ∃ (ab al : Addr) (v8 : Option V), σ' = [some (.ref a), some (.ref p), some (.ref x), some (.ref t), v4, v5, v6, v7, v8] ∧ J21 K H' a p x ab al t ns 16 (stL ss k) (ss.map (·.t))
      refine ⟨Ph n, ?_, ?_⟩
      · walk_at "rd"
        obtain ⟨⟨dx, hp⟩, _⟩ := id J.R
        simp only [List.getElem?_cons_zero, List.getElem?_cons_succ, List.set_cons_zero, List.set_cons_succ, List.cons_append, List.nil_append, List.append_nil, Option.some.injEq, V.int.injEq, V.str.injEq, V.bl.injEq, V.ref.injEq, List.cons.injEq, HO.ins.injEq, HO.lst.injEq, HO.tup.injEq, S_inj, ofS_inj, String.reduceEq, ex_eq, ex_eq', ex_eq0, tLc_eq, tFor_eq, iStr, iRng1, iRng2, iList, iTup, tVar, tC, tOp, tCons, tNil, tCB, tFld, tCallS, tMethW, tMakeS, WE, wKeep, tLits, tLst, tTup, wipe, rI, rI0, rU, rEq, rNe, scII, scSS, scBB, scNN, scNI, scNS, scNB, scIN, scSN, scBN, scIS, scSI, if_tt, if_ff, and_true, true_and, and_assoc, exists_and_left, exists_and_right, exists_const, cxK, decide_true, decide_false, Bool.not_true, Bool.not_false, eq_self_iff_true, Bool.true_eq_false, Bool.false_eq_true, if_true, if_false, reduceCtorEq, S_len, S_one, S_tl, decide_eq_true_eq, tUn, tAndV, tOrV, tNotV, tIf, tAnd, tOr, tNot, tB, tTest, tChain, tCall, tMeth, tMake, sFld, tSeq, tNext, tAsg, gName, tIfS, tRet, tRetN, tDrop, tM0, tM1, tBM, tBM0, rAppend, rPop, tSl, tPart, tNoPart, rIxL, rIxT, rIxS, rSlS, rSlL, rCat, tRevL, tDisp, tPairs, tDGet, sDPut, gTup, gCons, gNil, gSub, gAttr, rSetL, tv, upd_same, upd_upd, List.length_cons, List.length_nil, Nat.reduceAdd, Nat.zero_add, lines, fk_Line T, lk_Line, inj_Line, hp]
        refine ⟨x, ab, al, _, rfl, J.R, fun q hq => ?_⟩
        have J2 := J.same (same_new (o := .tup [.int ((stL ss n).b.length : Nat), .int ((stL ss n).l.length : Nat)]) hq)
        refine ⟨_, .inl (sq_of J2.e), fun q2 hq2 => ?_⟩
        have J3 := J2.same (same_new (o := .tup [.int ((tvs (ss.map (·.t))).length - 1 : Int), .int 0]) hq2)
        have e1 : (((tvs (ss.map (·.t))).length : Int) - 1) = ((stL ss n).b.length : Nat) := by
          rw [lt, bl]
          omega
        have e2 : (stL ss n).l.length = 0 := by rw [(stL_last ls).2]; rfl
        refine ne_same (d := .tuple [.int ((stL ss n).b.length : Nat), .int 0]) ?_ ?_ rfl ⟨_, rfl, ?_⟩
        · refine .tup (st_of (same_new hq2 _ _ upd_same)) ?_
          rw [e2]
          exact .cons (.int _) (.cons (.int _) .nil)
        · refine .tup (st_of upd_same) ?_
          rw [e1]
          exact .cons (.int _) (.cons (.int _) .nil)
        · rw [if_neg (by decide)]
          exact ⟨ab, al, _, rfl, J3⟩
      · rintro σ' H1 ⟨ab, al, v8, rfl, J1⟩
        walk_at "rd"
        refine ⟨Ph 0, ?_, ?_⟩
        · walk_at "rd"
          refine ⟨_, sq_of J1.e, fun q1 h1 => ?_⟩
          refine ⟨_, sq_of upd_same, fun q2 h2 => ⟨⟨_, sq_of upd_same⟩, ?_⟩⟩
          have J3 := (J1.same (same_new (o := .lst (tvs (ss.map (·.t))).reverse) h1)).same (same_new (o := .lst (cutV (tvs (ss.map (·.t))).reverse (some 1) none)) h2)
          have ex : cutV (tvs (ss.map (·.t))).reverse (some 1) none = (tvs (ss.map (·.t))).reverse.drop 1 := cutV_from _ 1 (by omega)
          rw [ex] at J3 ⊢
          have lx : ((tvs (ss.map (·.t))).reverse.drop 1).length = n := by
            rw [List.length_drop, List.length_reverse, lt]
            omega
          have q2n := notin_fresh ((J1.same (same_new (o := .lst (tvs (ss.map (·.t))).reverse) h1)).R) h2
          refine forb_list (xs := (tvs (ss.map (·.t))).reverse.drop 1) (fun k σ' H' => ∃ (ab al : Addr) (v8 : Option V), σ' = [some (.ref a), some (.ref p), some (.ref x), some (.ref t), v4, v5, v6, v7, v8] ∧ J21 K H' a p x ab al t ns 16 (stL ss (n - k)) (ss.map (·.t)) ∧ H' q2 = some (.lst ((tvs (ss.map (·.t))).reverse.drop 1)) ∧ q2 ∉ [x, ab, al])
            ⟨ab, al, v8, rfl, J3, upd_same, q2n⟩ (fun k σ' H' _ ⟨_, _, _, _, _, e, _⟩ => sq_of e) ?_ ?_
          · rintro k y σ' H' hy ⟨ab, al, v8, rfl, J, e2, n2⟩
            have hk : k < n := by
              have := (List.getElem?_eq_some_iff.mp hy).1
              omega
            have ey : y = tv (ss.getD (n - k - 1) ⟨[], 0, 0⟩).t := by
              rw [List.getElem?_drop, List.getElem?_reverse (by rw [lt]; omega), lt, List.getElem?_map, List.getElem?_map, show n + 1 - 1 - (1 + k) = n - k - 1 by omega, getD_get (by omega)] at hy
              exact (Option.some.inj hy).symm
            subst ey
            walk_at "rd"
            obtain ⟨⟨dx, hp⟩, _⟩ := id J.R
            simp only [List.getElem?_cons_zero, List.getElem?_cons_succ, List.set_cons_zero, List.set_cons_succ, List.cons_append, List.nil_append, List.append_nil, Option.some.injEq, V.int.injEq, V.str.injEq, V.bl.injEq, V.ref.injEq, List.cons.injEq, HO.ins.injEq, HO.lst.injEq, HO.tup.injEq, S_inj, ofS_inj, String.reduceEq, ex_eq, ex_eq', ex_eq0, tLc_eq, tFor_eq, iStr, iRng1, iRng2, iList, iTup, tVar, tC, tOp, tCons, tNil, tCB, tFld, tCallS, tMethW, tMakeS, WE, wKeep, tLits, tLst, tTup, wipe, rI, rI0, rU, rEq, rNe, scII, scSS, scBB, scNN, scNI, scNS, scNB, scIN, scSN, scBN, scIS, scSI, if_tt, if_ff, and_true, true_and, and_assoc, exists_and_left, exists_and_right, exists_const, cxK, decide_true, decide_false, Bool.not_true, Bool.not_false, eq_self_iff_true, Bool.true_eq_false, Bool.false_eq_true, if_true, if_false, reduceCtorEq, S_len, S_one, S_tl, decide_eq_true_eq, tUn, tAndV, tOrV, tNotV, tIf, tAnd, tOr, tNot, tB, tTest, tChain, tCall, tMeth, tMake, sFld, tSeq, tNext, tAsg, gName, tIfS, tRet, tRetN, tDrop, tM0, tM1, tBM, tBM0, rAppend, rPop, tSl, tPart, tNoPart, rIxL, rIxT, rIxS, rSlS, rSlL, rCat, tRevL, tDisp, tPairs, tDGet, sDPut, gTup, gCons, gNil, gSub, gAttr, rSetL, tv, upd_same, upd_upd, List.length_cons, List.length_nil, Nat.reduceAdd, Nat.zero_add, lines, fk_Line T, lk_Line, inj_Line, hp]
            have hu := stL_undo (ss := ss) (k := n - k - 1) (by omega)
            rw [show n - k - 1 + 1 = n - k by omega] at hu
            refine ⟨x, ab, al, _, rfl, J.R, Nat.le_trans (sl _) (by omega), fun ab' al' H5 m1 m2 f5 R5 => ?_⟩
            have J5 := J.line m1 m2 f5 R5
            rw [hu.1] at J5
            obtain ⟨⟨dx5, hp5⟩, _⟩ := id J5.R
            refine ⟨_, rfl, ?_⟩
            rw [if_neg (by rw [decide_eq_true hu.2]; decide)]
            simp only [List.getElem?_cons_zero, List.getElem?_cons_succ, List.set_cons_zero, List.set_cons_succ, List.cons_append, List.nil_append, List.append_nil, Option.some.injEq, V.int.injEq, V.str.injEq, V.bl.injEq, V.ref.injEq, List.cons.injEq, HO.ins.injEq, HO.lst.injEq, HO.tup.injEq, S_inj, ofS_inj, String.reduceEq, ex_eq, ex_eq', ex_eq0, tLc_eq, tFor_eq, iStr, iRng1, iRng2, iList, iTup, tVar, tC, tOp, tCons, tNil, tCB, tFld, tCallS, tMethW, tMakeS, WE, wKeep, tLits, tLst, tTup, wipe, rI, rI0, rU, rEq, rNe, scII, scSS, scBB, scNN, scNI, scNS, scNB, scIN, scSN, scBN, scIS, scSI, if_tt, if_ff, and_true, true_and, and_assoc, exists_and_left, exists_and_right, exists_const, cxK, decide_true, decide_false, Bool.not_true, Bool.not_false, eq_self_iff_true, Bool.true_eq_false, Bool.false_eq_true, if_true, if_false, reduceCtorEq, S_len, S_one, S_tl, decide_eq_true_eq, tUn, tAndV, tOrV, tNotV, tIf, tAnd, tOr, tNot, tB, tTest, tChain, tCall, tMeth, tMake, sFld, tSeq, tNext, tAsg, gName, tIfS, tRet, tRetN, tDrop, tM0, tM1, tBM, tBM0, rAppend, rPop, tSl, tPart, tNoPart, rIxL, rIxT, rIxS, rSlS, rSlL, rCat, tRevL, tDisp, tPairs, tDGet, sDPut, gTup, gCons, gNil, gSub, gAttr, rSetL, tv, upd_same, upd_upd, List.length_cons, List.length_nil, Nat.reduceAdd, Nat.zero_add, lines, fk_Line T, lk_Line, inj_Line, hp5, spGet]
            rw [if_neg (by rw [decide_eq_true (by rfl)]; decide)]
            exact ⟨ab', al', by rw [show n - (k + 1) = n - k - 1 by omega]; exact J5, f5.at e2 n2, notin_new e2 n2 m1 m2⟩
          · rintro σ' H' ⟨ab, al, v8, rfl, J, _, _⟩
            rw [lx, Nat.sub_self] at J
            exact ⟨ab, al, v8, rfl, J⟩
        · rintro σ' H2 ⟨ab, al, v8, rfl, J2⟩
          walk_at "rd"
          refine ⟨Ph 0, ?_, ?_⟩
          · walk_at "rd"
            obtain ⟨⟨dx, hp⟩, _⟩ := id J2.R
            simp only [List.getElem?_cons_zero, List.getElem?_cons_succ, List.set_cons_zero, List.set_cons_succ, List.cons_append, List.nil_append, List.append_nil, Option.some.injEq, V.int.injEq, V.str.injEq, V.bl.injEq, V.ref.injEq, List.cons.injEq, HO.ins.injEq, HO.lst.injEq, HO.tup.injEq, S_inj, ofS_inj, String.reduceEq, ex_eq, ex_eq', ex_eq0, tLc_eq, tFor_eq, iStr, iRng1, iRng2, iList, iTup, tVar, tC, tOp, tCons, tNil, tCB, tFld, tCallS, tMethW, tMakeS, WE, wKeep, tLits, tLst, tTup, wipe, rI, rI0, rU, rEq, rNe, scII, scSS, scBB, scNN, scNI, scNS, scNB, scIN, scSN, scBN, scIS, scSI, if_tt, if_ff, and_true, true_and, and_assoc, exists_and_left, exists_and_right, exists_const, cxK, decide_true, decide_false, Bool.not_true, Bool.not_false, eq_self_iff_true, Bool.true_eq_false, Bool.false_eq_true, if_true, if_false, reduceCtorEq, S_len, S_one, S_tl, decide_eq_true_eq, tUn, tAndV, tOrV, tNotV, tIf, tAnd, tOr, tNot, tB, tTest, tChain, tCall, tMeth, tMake, sFld, tSeq, tNext, tAsg, gName, tIfS, tRet, tRetN, tDrop, tM0, tM1, tBM, tBM0, rAppend, rPop, tSl, tPart, tNoPart, rIxL, rIxT, rIxS, rSlS, rSlL, rCat, tRevL, tDisp, tPairs, tDGet, sDPut, gTup, gCons, gNil, gSub, gAttr, rSetL, tv, upd_same, upd_upd, List.length_cons, List.length_nil, Nat.reduceAdd, Nat.zero_add, lines, fk_Line T, lk_Line, inj_Line, hp]
            refine ⟨x, ab, al, _, rfl, J2.R, Nat.le_trans (sl _) (by omega), fun ab' al' H5 m1 m2 f5 R5 => ?_⟩
            have J5 := J2.line m1 m2 f5 R5
            rw [stL_first] at J5
            obtain ⟨⟨dx5, hp5⟩, _⟩ := id J5.R
            refine ⟨_, rfl, ?_⟩
            rw [if_neg (by show ¬ decide ((ss.take 0) ≠ []) = true; simp)]
            simp only [List.getElem?_cons_zero, List.getElem?_cons_succ, List.set_cons_zero, List.set_cons_succ, List.cons_append, List.nil_append, List.append_nil, Option.some.injEq, V.int.injEq, V.str.injEq, V.bl.injEq, V.ref.injEq, List.cons.injEq, HO.ins.injEq, HO.lst.injEq, HO.tup.injEq, S_inj, ofS_inj, String.reduceEq, ex_eq, ex_eq', ex_eq0, tLc_eq, tFor_eq, iStr, iRng1, iRng2, iList, iTup, tVar, tC, tOp, tCons, tNil, tCB, tFld, tCallS, tMethW, tMakeS, WE, wKeep, tLits, tLst, tTup, wipe, rI, rI0, rU, rEq, rNe, scII, scSS, scBB, scNN, scNI, scNS, scNB, scIN, scSN, scBN, scIS, scSI, if_tt, if_ff, and_true, true_and, and_assoc, exists_and_left, exists_and_right, exists_const, cxK, decide_true, decide_false, Bool.not_true, Bool.not_false, eq_self_iff_true, Bool.true_eq_false, Bool.false_eq_true, if_true, if_false, reduceCtorEq, S_len, S_one, S_tl, decide_eq_true_eq, tUn, tAndV, tOrV, tNotV, tIf, tAnd, tOr, tNot, tB, tTest, tChain, tCall, tMeth, tMake, sFld, tSeq, tNext, tAsg, gName, tIfS, tRet, tRetN, tDrop, tM0, tM1, tBM, tBM0, rAppend, rPop, tSl, tPart, tNoPart, rIxL, rIxT, rIxS, rSlS, rSlL, rCat, tRevL, tDisp, tPairs, tDGet, sDPut, gTup, gCons, gNil, gSub, gAttr, rSetL, tv, upd_same, upd_upd, List.length_cons, List.length_nil, Nat.reduceAdd, Nat.zero_add, lines, fk_Line T, lk_Line, inj_Line, hp5]
            refine ⟨x, ab', al', _, rfl, J5.R, fun q hq => ?_⟩
            have J6 := J5.same (same_new (o := .tup [.int ((stL ss 0).b.length : Nat), .int ((stL ss 0).l.length : Nat)]) hq)
            refine ⟨_, .inl (sq_of J6.e), fun q2 hq2 => ?_⟩
            have J7 := J6.same (same_new (o := .tup [.int 0, .int ((tvs (ss.map (·.t))).length - 1 : Int)]) hq2)
            have e1 : (((tvs (ss.map (·.t))).length : Int) - 1) = ((stL ss 0).l.length : Nat) := by
              rw [lt]
              show _ = (((ss.drop (0 + 1)).reverse.length : Nat) : Int)
              rw [List.length_reverse, List.length_drop, ls]
              omega
            have e2 : (stL ss 0).b.length = 0 := rfl
            refine ne_same (d := .tuple [.int 0, .int ((stL ss 0).l.length : Nat)]) ?_ ?_ rfl ⟨_, rfl, ?_⟩
            · refine .tup (st_of (same_new hq2 _ _ upd_same)) ?_
              rw [e2]
              exact .cons (.int _) (.cons (.int _) .nil)
            · refine .tup (st_of upd_same) ?_
              rw [e1]
              exact .cons (.int _) (.cons (.int _) .nil)
            · rw [if_neg (by decide)]
              exact ⟨ab', al', _, rfl, J7⟩
          · rintro σ' H3 ⟨ab, al, v8, rfl, J3⟩
            walk_at "rd"
            refine ⟨Ph n, ?_, ?_⟩
            · walk_at "rd"
              refine ⟨_, sq_of J3.e, fun q2 h2 => ⟨⟨_, sq_of upd_same⟩, ?_⟩⟩
              have J5 := J3.same (same_new (o := .lst (cutV (tvs (ss.map (·.t))) (some 1) none)) h2)
              have ex : cutV (tvs (ss.map (·.t))) (some 1) none = (tvs (ss.map (·.t))).drop 1 := cutV_from _ 1 (by omega)
              rw [ex] at J5 ⊢
              have lx : ((tvs (ss.map (·.t))).drop 1).length = n := by
                rw [List.length_drop, lt]
                omega
              have q2n := notin_fresh J3.R h2
              refine forb_list (xs := (tvs (ss.map (·.t))).drop 1) (fun k σ' H' => ∃ (ab al : Addr) (v8 : Option V), σ' = [some (.ref a), some (.ref p), some (.ref x), some (.ref t), v4, v5, v6, v7, v8] ∧ J21 K H' a p x ab al t ns 16 (stL ss k) (ss.map (·.t)) ∧ H' q2 = some (.lst ((tvs (ss.map (·.t))).drop 1)) ∧ q2 ∉ [x, ab, al])
                ⟨ab, al, v8, rfl, J5, upd_same, q2n⟩ (fun k σ' H' _ ⟨_, _, _, _, _, e, _⟩ => sq_of e) ?_ ?_
              · rintro k y σ' H' hy ⟨ab, al, v8, rfl, J, e2, n2⟩
                have hk : k < n := by
                  have := (List.getElem?_eq_some_iff.mp hy).1
                  omega
                have ey : y = tv (ss.getD (k + 1) ⟨[], 0, 0⟩).t := by
                  rw [List.getElem?_drop, List.getElem?_map, List.getElem?_map, show 1 + k = k + 1 by omega, getD_get (by omega)] at hy
                  exact (Option.some.inj hy).symm
                subst ey
                walk_at "rd"
                obtain ⟨⟨dx, hp⟩, _⟩ := id J.R
                simp only [List.getElem?_cons_zero, List.getElem?_cons_succ, List.set_cons_zero, List.set_cons_succ, List.cons_append, List.nil_append, List.append_nil, Option.some.injEq, V.int.injEq, V.str.injEq, V.bl.injEq, V.ref.injEq, List.cons.injEq, HO.ins.injEq, HO.lst.injEq, HO.tup.injEq, S_inj, ofS_inj, String.reduceEq, ex_eq, ex_eq', ex_eq0, tLc_eq, tFor_eq, iStr, iRng1, iRng2, iList, iTup, tVar, tC, tOp, tCons, tNil, tCB, tFld, tCallS, tMethW, tMakeS, WE, wKeep, tLits, tLst, tTup, wipe, rI, rI0, rU, rEq, rNe, scII, scSS, scBB, scNN, scNI, scNS, scNB, scIN, scSN, scBN, scIS, scSI, if_tt, if_ff, and_true, true_and, and_assoc, exists_and_left, exists_and_right, exists_const, cxK, decide_true, decide_false, Bool.not_true, Bool.not_false, eq_self_iff_true, Bool.true_eq_false, Bool.false_eq_true, if_true, if_false, reduceCtorEq, S_len, S_one, S_tl, decide_eq_true_eq, tUn, tAndV, tOrV, tNotV, tIf, tAnd, tOr, tNot, tB, tTest, tChain, tCall, tMeth, tMake, sFld, tSeq, tNext, tAsg, gName, tIfS, tRet, tRetN, tDrop, tM0, tM1, tBM, tBM0, rAppend, rPop, tSl, tPart, tNoPart, rIxL, rIxT, rIxS, rSlS, rSlL, rCat, tRevL, tDisp, tPairs, tDGet, sDPut, gTup, gCons, gNil, gSub, gAttr, rSetL, tv, upd_same, upd_upd, List.length_cons, List.length_nil, Nat.reduceAdd, Nat.zero_add, lines, fk_Line T, lk_Line, inj_Line, hp]
                have hu := stL_redo (ss := ss) (k := k) (by omega)
                refine ⟨x, ab, al, _, rfl, J.R, Nat.le_trans (sb _) (by omega), fun ab' al' H5 m1 m2 f5 R5 => ?_⟩
                have J5 := J.line m1 m2 f5 R5
                rw [hu.1] at J5
                obtain ⟨⟨dx5, hp5⟩, _⟩ := id J5.R
                refine ⟨_, rfl, ?_⟩
                rw [if_neg (by rw [decide_eq_true hu.2]; decide)]
                simp only [List.getElem?_cons_zero, List.getElem?_cons_succ, List.set_cons_zero, List.set_cons_succ, List.cons_append, List.nil_append, List.append_nil, Option.some.injEq, V.int.injEq, V.str.injEq, V.bl.injEq, V.ref.injEq, List.cons.injEq, HO.ins.injEq, HO.lst.injEq, HO.tup.injEq, S_inj, ofS_inj, String.reduceEq, ex_eq, ex_eq', ex_eq0, tLc_eq, tFor_eq, iStr, iRng1, iRng2, iList, iTup, tVar, tC, tOp, tCons, tNil, tCB, tFld, tCallS, tMethW, tMakeS, WE, wKeep, tLits, tLst, tTup, wipe, rI, rI0, rU, rEq, rNe, scII, scSS, scBB, scNN, scNI, scNS, scNB, scIN, scSN, scBN, scIS, scSI, if_tt, if_ff, and_true, true_and, and_assoc, exists_and_left, exists_and_right, exists_const, cxK, decide_true, decide_false, Bool.not_true, Bool.not_false, eq_self_iff_true, Bool.true_eq_false, Bool.false_eq_true, if_true, if_false, reduceCtorEq, S_len, S_one, S_tl, decide_eq_true_eq, tUn, tAndV, tOrV, tNotV, tIf, tAnd, tOr, tNot, tB, tTest, tChain, tCall, tMeth, tMake, sFld, tSeq, tNext, tAsg, gName, tIfS, tRet, tRetN, tDrop, tM0, tM1, tBM, tBM0, rAppend, rPop, tSl, tPart, tNoPart, rIxL, rIxT, rIxS, rSlS, rSlL, rCat, tRevL, tDisp, tPairs, tDGet, sDPut, gTup, gCons, gNil, gSub, gAttr, rSetL, tv, upd_same, upd_upd, List.length_cons, List.length_nil, Nat.reduceAdd, Nat.zero_add, lines, fk_Line T, lk_Line, inj_Line, hp5, spGet]
                rw [if_neg (by rw [decide_eq_true (by rfl)]; decide)]
                exact ⟨ab', al', J5, f5.at e2 n2, notin_new e2 n2 m1 m2⟩
              · rintro σ' H' ⟨ab, al, v8, rfl, J, _, _⟩
                rw [lx] at J
                exact ⟨ab, al, v8, rfl, J⟩
            · rintro σ' H4 ⟨ab, al, v8, rfl, J4⟩
              walk_at "rd"
              obtain ⟨⟨dx, hp⟩, _⟩ := id J4.R
              simp only [List.getElem?_cons_zero, List.getElem?_cons_succ, List.set_cons_zero, List.set_cons_succ, List.cons_append, List.nil_append, List.append_nil, Option.some.injEq, V.int.injEq, V.str.injEq, V.bl.injEq, V.ref.injEq, List.cons.injEq, HO.ins.injEq, HO.lst.injEq, HO.tup.injEq, S_inj, ofS_inj, String.reduceEq, ex_eq, ex_eq', ex_eq0, tLc_eq, tFor_eq, iStr, iRng1, iRng2, iList, iTup, tVar, tC, tOp, tCons, tNil, tCB, tFld, tCallS, tMethW, tMakeS, WE, wKeep, tLits, tLst, tTup, wipe, rI, rI0, rU, rEq, rNe, scII, scSS, scBB, scNN, scNI, scNS, scNB, scIN, scSN, scBN, scIS, scSI, if_tt, if_ff, and_true, true_and, and_assoc, exists_and_left, exists_and_right, exists_const, cxK, decide_true, decide_false, Bool.not_true, Bool.not_false, eq_self_iff_true, Bool.true_eq_false, Bool.false_eq_true, if_true, if_false, reduceCtorEq, S_len, S_one, S_tl, decide_eq_true_eq, tUn, tAndV, tOrV, tNotV, tIf, tAnd, tOr, tNot, tB, tTest, tChain, tCall, tMeth, tMake, sFld, tSeq, tNext, tAsg, gName, tIfS, tRet, tRetN, tDrop, tM0, tM1, tBM, tBM0, rAppend, rPop, tSl, tPart, tNoPart, rIxL, rIxT, rIxS, rSlS, rSlL, rCat, tRevL, tDisp, tPairs, tDGet, sDPut, gTup, gCons, gNil, gSub, gAttr, rSetL, tv, upd_same, upd_upd, List.length_cons, List.length_nil, Nat.reduceAdd, Nat.zero_add, lines, fk_Line T, lk_Line, inj_Line, hp]
              refine ⟨x, ab, al, _, rfl, J4.R, Nat.le_trans (sb _) (by omega), fun ab' al' H5 m1 m2 f5 R5 => ?_⟩
              have J5 := J4.line m1 m2 f5 R5
              rw [(stL_last ls).1] at J5
              obtain ⟨⟨dx5, hp5⟩, _⟩ := id J5.R
              refine ⟨_, rfl, ?_⟩
              rw [if_pos (by rw [decide_eq_false (fun h => h (stL_last ls).2)]; rfl)]
              simp only [List.getElem?_cons_zero, List.getElem?_cons_succ, List.set_cons_zero, List.set_cons_succ, List.cons_append, List.nil_append, List.append_nil, Option.some.injEq, V.int.injEq, V.str.injEq, V.bl.injEq, V.ref.injEq, List.cons.injEq, HO.ins.injEq, HO.lst.injEq, HO.tup.injEq, S_inj, ofS_inj, String.reduceEq, ex_eq, ex_eq', ex_eq0, tLc_eq, tFor_eq, iStr, iRng1, iRng2, iList, iTup, tVar, tC, tOp, tCons, tNil, tCB, tFld, tCallS, tMethW, tMakeS, WE, wKeep, tLits, tLst, tTup, wipe, rI, rI0, rU, rEq, rNe, scII, scSS, scBB, scNN, scNI, scNS, scNB, scIN, scSN, scBN, scIS, scSI, if_tt, if_ff, and_true, true_and, and_assoc, exists_and_left, exists_and_right, exists_const, cxK, decide_true, decide_false, Bool.not_true, Bool.not_false, eq_self_iff_true, Bool.true_eq_false, Bool.false_eq_true, if_true, if_false, reduceCtorEq, S_len, S_one, S_tl, decide_eq_true_eq, tUn, tAndV, tOrV, tNotV, tIf, tAnd, tOr, tNot, tB, tTest, tChain, tCall, tMeth, tMake, sFld, tSeq, tNext, tAsg, gName, tIfS, tRet, tRetN, tDrop, tM0, tM1, tBM, tBM0, rAppend, rPop, tSl, tPart, tNoPart, rIxL, rIxT, rIxS, rSlS, rSlL, rCat, tRevL, tDisp, tPairs, tDGet, sDPut, gTup, gCons, gNil, gSub, gAttr, rSetL, tv, upd_same, upd_upd, List.length_cons, List.length_nil, Nat.reduceAdd, Nat.zero_add, lines, fk_Line T, lk_Line, inj_Line, hp5, spGet]
              have ce2 : (stL ss n).p.c = ((stL ss n).p.t.length : Nat) := by rw [← eM]; exact ce
              refine ⟨sline (by have := pok n (Nat.le_refl _); show (ss.getD n ⟨[], 0, 0⟩).t.length ≤ 100000; omega), ?_⟩
              rw [decide_eq_true ce2]
              exact K0 _
end
end LH
/-! ## End: the head, the theorem -/
namespace LH
open PySem PySem.Spec PyProof.Rows L2
/-- what a law lets out, whatever the world -/
def CXw (P : Program) (outer : List Env) (H : Hp) (s : Shared) (E : XK) (u : Value) (s' : Shared) : Prop := ∃ w : World, L2.CX P w outer H s E u s'
theorem fn_cx {P : Program} {w : World} {K : PySem.W.Frag} {mg : Str → Option Value} {base : Heap} {k : Nat} {f : Addr} {fd : FuncData} {ps : List Str} {sp : Sp} (F : FnOk P w K mg base (L2.CX P w) k f fd ps sp) :
    FnOk P w K mg base (CXw P) k f fd ps sp :=
  ⟨F.len, fun A outer s H args us vs Q E hr he hb hv hs => codeAny_mono (F.run A outer s H args us vs Q E hr he hb hv hs) fun r s' h => by
    match r, h with
    | .ok (.ret u), h => exact h
    | .error e, h => exact ⟨w, h⟩⟩
abbrev R : PySem.W.OpenRow := PySem.W.OpenLaw.row PySem.Challenge.rw_linehand_k21_whole_runs
abbrev hk : PySem.W.Hook := hookM 4 fa fn exs
def ob (s : PySem.W.SharedT) : He.AlD × Bool := obsM fa fn exs (He.frG (HandSHeadRun.getT s) (He.asD (HandSHeadRun.getT s) 4))
theorem ob_eq (s : PySem.W.SharedT) : ob s = hk.obs s.abs := by
  have e : HandSHeadRun.getT s = s.abs.heap.get? := funext (HandSHeadRun.getT_eq s)
  show obsM fa fn exs _ = obsM fa fn exs _
  rw [e]
theorem run (w : World) : HandSHeadRun.RunEq R (PySem.W.view R.prog [18]) hk ob 6000 loose w := by
  intro os
  kernel_rfl
theorem fin {P : Program} {w : World} {K : PySem.W.Frag} {h : Heap} {mg : Str → Option Value} {f : Addr} (X : K.In h) (G : h.Ns mainGlobals mg) (hfa : mg ("law" : Str) = some (.ref f)) (c : He.SaysD fa fn K) (x : (exs.all fun f => f K) = true) :
    ∃ fd : FuncData, (∀ (s : Shared) (v : Value), BindsTo s fd ⟨[v], []⟩ [("_law_script", v)]) ∧ ∀ base : Heap, FnOk P w K mg base (CXw P) 5 f fd ["_law_script"] (spLaw K) := by
  have T : TX K mg := ⟨⟨h, X, G⟩, c, x⟩
  obtain ⟨fd, F⟩ := fn_law T
  have e := hfa.symm.trans (g_law T)
  cases e
  exact ⟨fd, fun s v => FunD.bindsA F bd_law s [v] rfl, fun base => fn_cx (F.ok sc_law len_law fun cdv A outer s H vs Q E hr h => d_law T cdv A outer s H vs Q E hr h)⟩
end LH
open PySem PySem.W PySem.Calls PyProof.Rows
theorem PySem.Challenge.cw_linehand_k21_whole_runs_holds : PySem.Challenge.rw_linehand_k21_whole_runs.Holds := by
  w_on; o_law
  refine HandSHeadRun.head_any (r := OpenLaw.row PySem.Challenge.rw_linehand_k21_whole_runs) (q := view (OpenLaw.row PySem.Challenge.rw_linehand_k21_whole_runs).prog [18]) (H := LH.hk) (ob := LH.ob) (M := 6000) (loose := LH.loose) (d := HandSHeadRun.topDef (OpenLaw.row PySem.Challenge.rw_linehand_k21_whole_runs).prog 18) (kwd := []) LH.ob_eq
    (by kernel_rfl) (fun s => by kernel_rfl) LH.run (by kernel_rfl) (by kernel_rfl) (by kernel_rfl) (by rfl) (by first | assumption | decide +kernel) (by decide +kernel) ⟨rfl, rfl, rfl, rfl, rfl, by decide +kernel⟩ ?hw ?hc
  case hw => w_witness2
  case hc =>
    refine L2.walk_ofE (l := PySem.Challenge.rw_linehand_k21_whole_runs) (n := 63) (k := 5) (x := "_law_script") (CX := LH.CXw PySem.Challenge.rw_linehand_k21_whole_runs.prog) rfl (by decide) (by kernel_rfl) ⟨rfl, by decide, by decide⟩ ?F ?X
    case X =>
      intro H s e s' ⟨_, _, _, _, _, _, _, _, _, _, _, _, _, z⟩
      exact z
    intro w mg fa h Y G hmg0
    obtain ⟨K, KX, c, x⟩ := Y
    have hmg : mg ("law" : PySem.Str) = some (.ref fa) := by
      have e : (HandSHeadRun.topDef (OpenLaw.row PySem.Challenge.rw_linehand_k21_whole_runs).prog 18).name = ("law" : PySem.Str) := by kernel_rfl
      rw [← e]
      exact hmg0
    obtain ⟨fd, hb, hF⟩ := LH.fin (P := (PySem.Challenge.rw_linehand_k21_whole_runs).prog) (w := w) KX G hmg c x
    exact ⟨K, fd, LH.spLaw K, KX, hb, fun H a ns hl _ hS => ⟨a, ns, rfl, hS, hl, fun _ => rfl⟩, fun base _ _ => hF base⟩
