import PyProof.Rows.All
import Wide.All
import OpenK.AllK
import Wide.FinOn
import KE.KStateDown
import KE.KExcPX
import HandS.Base
import HandS.Call
import HandS.Ends
import HandS.EndBits
import HandS.Head0
import HandS.Head1
import HandS.Head2
import HandS.HeadHook1
import HandS.HeadHook2
import PyProof.EqLayable
import PyProof.StrBlock2
import PyProof.StrBlockL
import HandS.ForMost
import HandS.ForExc
import HandS.Wide
import HandS.NoneIn
import HandS.Rev
import HandS.RevTup
import PyProof.ListNew
import PyProof.ListRange
import HandS.DeepEq
import HandS.IsInst
import HandS.Deep
import HandS.More
import HandS.SortInts
import HandS.Small
import HandS.Conv
import HandS.Zip
import HandS.Flow
import KE.KEqDict
import HandS.Dict
import HandS.ListItems
import KE.KDictList
import HandS.ExcInit
import HandS.ExcValue
import HandS.ExcField
import HandS.ExcIs
import KE.KExcIs
import HandS.SetFor
import HandS.RaiseMore
import HandS.Codes
import KE.IntBitsLaws
import PySem.Challenge.RW_stripmill_k95_works_shown_and_read
set_option Elab.async false
set_option linter.all false
set_option maxRecDepth 100000
set_option maxHeartbeats 2000000
namespace Hd
open PySem PySem.Spec PyProof.Rows L2 He
abbrev Frag := PySem.W.Frag
def refsX (o : Obj) : List Addr := match o.data with
  | .dict es _ => es.toList.flatMap fun e => refV e.val
  | .func fd => refV fd.code
  | .cls cd => [cd.ns]
  | _ => []
def nxt (g : Addr → Option Obj) (as : List Addr) : List Addr := as.flatMap fun a => match g a with
  | some o => refsX o
  | none => []
def lay (g : Addr → Option Obj) : Nat → List Addr → List Addr
  | 0, as => as
  | n + 1, as => as ++ lay g n (nxt g as)
def asX (g : Addr → Option Obj) : List Addr := lay g 4 [mainGlobals] ++ [cStatics]
/-- the addresses as numerals -/
def frL {α : Type} : List Addr → (List Addr → α) → α
  | [], k => k []
  | a :: r, k => HandSHeadRun.frNat a fun a => frL r fun r => k (a :: r)
theorem frL_eq {α : Type} : ∀ (l : List Addr) (k : List Addr → α), frL l k = k l
  | [], _ => rfl
  | a :: r, k => by
    show HandSHeadRun.frNat a (fun a => frL r fun r => k (a :: r)) = _
    rw [HandSHeadRun.frNat_eq, frL_eq r]
def obsX (bss : List (List (Frag → Bool))) (fn : List FnD) (K : Frag) : Al := ((bss.all fun l => l.all fun b => b K) && fn.all fun d => (Fa.code d.at_ d.qual).ok K, fn.map fun d => fnObs K d.at_)
def SaysX (bss : List (List (Frag → Bool))) (fn : List FnD) (K : Frag) : Prop := obsX bss fn K = valE fn
def obsXG (bss : List (List (Frag → Bool))) (fn : List FnD) (g : Addr → Option Obj) : Al := frL (asX g) fun as => obsX bss fn (frG g as)
def hookX (bss : List (List (Frag → Bool))) (fn : List FnD) : PySem.W.Hook where
  α := Al
  obs := fun s => obsXG bss fn s.heap.get?
  val := fun _ => valE fn
  says := fun _ h => ∃ K : Frag, K.In h ∧ SaysX bss fn K
  of := fun _ s e => ⟨_, frG_in, (frL_eq (asX s.heap.get?) fun as => obsX bss fn (frG s.heap.get? as)).symm.trans e⟩
  keeps := fun _ _ _ ⟨K, hK, c⟩ k => ⟨K, PySem.W.Frag.In.keeps hK k, c⟩
theorem obsXG_eq {bss : List (List (Frag → Bool))} {fn : List FnD} {g : Addr → Option Obj} {s : Shared} (h : ∀ a, g a = s.heap.get? a) : obsXG bss fn g = (hookX bss fn).obs s := by
  have e : g = s.heap.get? := funext h
  rw [e] <;> rfl
section
variable {bss : List (List (Frag → Bool))} {fn : List FnD} {K : Frag}
theorem SaysX.fact (c : SaysX bss fn K) (i j : Nat) {l : List (Frag → Bool)} {b : Frag → Bool} (h : bss[i]? = some l) (h2 : l[j]? = some b) : b K = true := by
  have c1 := (ba (show ((bss.all fun l => l.all fun b => b K) && fn.all fun d => (Fa.code d.at_ d.qual).ok K) = true from congrArg (fun z : Al => z.1) c)).1
  exact List.all_eq_true.mp (List.all_eq_true.mp c1 l (List.mem_of_getElem? h)) b (List.mem_of_getElem? h2)
theorem SaysX.def_ (c : SaysX bss fn K) (i : Nat) {d : FnD} (h : fn[i]? = some d) :
    ∃ oc od osl kV doc pm an cdv ct, K.lookup (fAd K d.at_) = some ⟨oc, od, .func (PySem.W.fnOf d.name d.qual d.params d.body d.scope .none kV doc pm an cdv ct), osl⟩ ∧ PySem.W.codeIn K cdv d.qual = true := by
  have c2 := (ba (show ((bss.all fun l => l.all fun b => b K) && fn.all fun d => (Fa.code d.at_ d.qual).ok K) = true from congrArg (fun z : Al => z.1) c)).2
  have e : fn.map (fun d => fnObs K d.at_) = fn.map FnD.val := congrArg (fun z : Al => z.2) c
  have e2 : (fn.map fun d => fnObs K d.at_)[i]? = (fn.map FnD.val)[i]? := by rw [e]
  rw [List.getElem?_map, List.getElem?_map, h] at e2
  exact fn_ok (Option.some.inj e2) (List.all_eq_true.mp c2 d (List.mem_of_getElem? h))
end
def isI (K : Frag) (x : Str) (i : Int) : Bool := match PySem.W.nsIn K mainGlobals x with
  | some (some (.int j _)) => decide (j = i)
  | _ => false
theorem isI_ok {K : Frag} {x : Str} {i : Int} (h : isI K x i = true) : ∃ t, PySem.W.nsIn K mainGlobals x = some (some (.int i t)) := by
  unfold isI at h
  split at h
  · rename_i j t e
    rw [e, of_decide_eq_true h]
    exact ⟨t, rfl⟩
  · cases h
def isS (K : Frag) (x z : Str) : Bool := match PySem.W.nsIn K mainGlobals x with
  | some (some (.str y _)) => decide (y = z)
  | _ => false
theorem isS_ok {K : Frag} {x z : Str} (h : isS K x z = true) : ∃ t, PySem.W.nsIn K mainGlobals x = some (some (.str z t)) := by
  unfold isS at h
  split at h
  · rename_i j t e
    rw [e, of_decide_eq_true h]
    exact ⟨t, rfl⟩
  · cases h
def lstX (K : Frag) (x : Str) (vs : List Str) : Bool := match K.lookup (ga K x) with
  | some ⟨.type c, none, .seq its _, _⟩ => decide (c = "list") && (decide (its.size ≤ 1000) && relAll (vs.map V.str) its.toList)
  | _ => false
theorem lstX_ok {K : Frag} {x : Str} {vs : List Str} (h : lstX K x vs = true) : ∃ its n sl, K.lookup (ga K x) = some ⟨.type "list", none, .seq its n, sl⟩ ∧ Vals (vs.map V.str) its.toList ∧ its.size ≤ 1000 := by
  unfold lstX at h
  split at h
  · rename_i c its n sl e
    obtain ⟨h1, h⟩ := ba h
    obtain ⟨h2, h3⟩ := ba h
    rw [of_decide_eq_true h1] at e
    exact ⟨its, n, sl, e, relAll_ok h3, of_decide_eq_true h2⟩
  · cases h
def excX (K : Frag) (C : Addr) : Bool := match K.lookup C with
  | some ⟨.type "type", _, .cls cd, sl⟩ => (match cd.mro, sl.toList with
    | .ref C' :: bm, [_, _, _, _, some (.builtin n), _] => C' == C && (n == "ValueError.__new__" && (cd.hasDict && (!cd.hasDel && PySem.HandSPX.refsVE bm)))
    | _, _ => false)
  | _ => false
theorem excX_ok {K : Frag} {C : Addr} (h : excX K C = true) : ∃ nm q N bs bm sn sub ab col dd k0 k1 k2 k3 k5, K.lookup C = some (excClassObj nm q C N bs bm true sn sub ab col dd k0 k1 k2 k3 k5 "ValueError.__new__") ∧ PySem.HandSPX.refsVE bm = true := by
  unfold excX at h
  split at h
  · rename_i dd cd sl ho
    split at h
    · rename_i C' bm k0 k1 k2 k3 n k5 hm hs
      obtain ⟨h1, h⟩ := ba h
      obtain ⟨h2, h⟩ := ba h
      obtain ⟨h3, h⟩ := ba h
      obtain ⟨h4, h5⟩ := ba h
      obtain ⟨nm, bs, mro, ns, qn, hd, sn, sub, ab, col, del⟩ := cd
      dsimp only at hm h3 h4
      rw [beq_iff_eq] at h1 h2
      rw [Bool.not_eq_true'] at h4
      subst hm h3 h4 h1 h2
      have hsl : sl = #[k0, k1, k2, k3, some (.builtin "ValueError.__new__"), k5] := by
        obtain ⟨l⟩ := sl
        simp only at hs
        rw [hs]
      subst hsl
      exact ⟨_, _, _, _, _, _, _, _, _, _, _, _, _, _, _, ho, h5⟩
    · cases h
  · cases h
def valX (K : Frag) (c mc : Value) (x : Str) (n : String) : Bool := match PySem.W.findCls K c mc x with
  | some (.val (.builtin m)) => decide (m = n)
  | _ => false
theorem valX_ok {K : Frag} {c mc : Value} {x : Str} {n : String} (h : valX K c mc x n = true) : PySem.W.findCls K c mc x = some (.val (.builtin n)) := by
  unfold valX at h
  split at h
  · rename_i m e
    rw [e, of_decide_eq_true h]
  · cases h
end Hd
namespace L2
open PySem PySem.Spec PyProof.Rows
theorem walk_ofEB {l : PySem.W.OpenLaw} {n k : Nat} {q : Program} {loose : List Str} {XP : (Str → Option Value) → Heap → Prop} {YP : World → Heap → Prop} {d : DefRec} {CX : World → CXT} {x : Str}
    (hn : l.most = some n) (hn2 : n ≤ sizeLine) (hdf : d.params.defaults = []) (hr : Room k callerA)
    (F : ∀ (w : World) (mg : Str → Option Value) (fa : Addr) (h : Heap), YP w h → h.Ns mainGlobals mg → mg d.name = some (.ref fa) →
      ∃ (K : PySem.W.Frag) (fd : FuncData) (sp : Sp), K.In h ∧ (∀ (s : Shared) (u : Value), BindsTo s fd ⟨[u], []⟩ [(x, u)]) ∧
        (∀ (H : Hp) (a : Addr) (ns : List Int), ns.length ≤ n → (∀ z ∈ ns, Builtin.Int.intBits z ≤ 1048576) → Only H → SqL K H a (ns.map V.int) → sp [.ref a] H (fun v _ => v = .bl true) fun _ _ _ => False) ∧
        ∀ base : Heap, K.In base → base.Ns mainGlobals mg → FnOk l.prog w K mg base (CX w) k fa fd [x] sp)
    (hCX : ∀ (w : World) (H : Hp) (s : Shared) (e : Value) (s' : Shared), CX w [] H s (fun _ _ _ => False) e s' → False) :
    PySem.W.WalkO q loose XP YP l.row.toRowW d [] (fun f vs => PySem.call f vs) := by
  refine Att.attach_callB hn hdf fun w s₀ s₁ mg mb fa o pm cd doc a vs ns G Y ho hd hcd hmg hobj hints hlen hbits hg => ?_
  obtain ⟨K, fd, sp, KX, hb, hsp, hF⟩ := F w mg fa _ Y G.T.g hmg
  exact law_call KX G.T.g G.T.b G.T.builtins G.T.nolimit hg hobj hints (Nat.le_trans hlen hn2) hr hF hb (fun H hO hS => hsp H a ns hlen hbits hO hS) fun H e s' => hCX w H s₁ e s'
end L2
namespace W
open PySem PySem.W PyProof.Rows L2
section
set_option maxRecDepth 100000
def topS (i : Nat) : Stmt := PySem.Challenge.pw_stripmill_k95_works_shown_and_read.main.body.getD i (.Pass ⟨0, 0, 0, 0⟩)
abbrev st_f_formula_shown : Stmt := topS 37
abbrev st_f_Works_formula : Stmt := inClass (topS 31) 6
abbrev st_f_Works_stages : Stmt := inClass (topS 31) 2
abbrev st_f_Works_row_of : Stmt := inClass (topS 31) 3
abbrev st_f_Works_rim : Stmt := inClass (topS 31) 5
abbrev st_f_Works_size : Stmt := inClass (topS 31) 4
abbrev st_f_Works_pictures : Stmt := inClass (topS 31) 1
abbrev st_f_works_shown : Stmt := topS 38
abbrev st_l_whole : Stmt := topS 52
abbrev st_l_shape : Stmt := topS 66
abbrev st_f_look_at_read : Stmt := topS 26
abbrev st_f_look_at_number : Stmt := topS 25
abbrev st_f_wanted_behind : Stmt := topS 24
abbrev st_f_look_at_formula : Stmt := topS 27
abbrev st_f_all_letters : Stmt := topS 16
abbrev st_f_is_name : Stmt := topS 17
abbrev st_f_look_at_name : Stmt := topS 28
abbrev st_f_look_at_stages : Stmt := topS 30
abbrev st_f_look_at_pictures : Stmt := topS 29
abbrev st_f_Works__init : Stmt := inClass (topS 31) 0
abbrev st_f_word_of : Stmt := topS 42
abbrev st_f_behind_sign : Stmt := topS 44
abbrev st_f_is_figures : Stmt := topS 39
abbrev st_f_step_of : Stmt := topS 41
abbrev st_f_number_of : Stmt := topS 40
abbrev st_f_plain_value : Stmt := topS 45
abbrev st_f_part_at : Stmt := topS 43
abbrev st_f_formula_at : Stmt := topS 46
abbrev st_f_stage_of : Stmt := topS 48
abbrev st_f_picture_of : Stmt := topS 47
abbrev st_f_works_read : Stmt := topS 49
abbrev st_l_formula_text : Stmt := topS 64
abbrev st_l_text : Stmt := topS 65
abbrev st_l_measure : Stmt := topS 54
abbrev st_l_drawn_at : Stmt := topS 51
abbrev st_l_number : Stmt := topS 55
abbrev st_l_leaf : Stmt := topS 59
abbrev st_l_formula : Stmt := topS 60
abbrev st_l_grown : Stmt := topS 61
abbrev st_l_digits : Stmt := topS 58
abbrev st_l_mixed : Stmt := topS 53
abbrev st_l_pictures : Stmt := topS 62
abbrev st_l_names : Stmt := topS 57
abbrev st_l_parts : Stmt := topS 63
abbrev st_l_law : Stmt := topS 67
abbrev st_f_BadText__init : Stmt := inClass (topS 11) 0
def d0 : He.FnD := ⟨("BadText", some "__init__"), "__init__", "BadText.__init__", L2.defArgs st_f_BadText__init, L2.defBody st_f_BadText__init, L2.defScope st_f_BadText__init⟩
def d1 : He.FnD := ⟨("formula_shown", none), "formula_shown", "formula_shown", L2.defArgs st_f_formula_shown, L2.defBody st_f_formula_shown, L2.defScope st_f_formula_shown⟩
def d2 : He.FnD := ⟨("Works", some "formula"), "formula", "Works.formula", L2.defArgs st_f_Works_formula, L2.defBody st_f_Works_formula, L2.defScope st_f_Works_formula⟩
def d3 : He.FnD := ⟨("Works", some "stages"), "stages", "Works.stages", L2.defArgs st_f_Works_stages, L2.defBody st_f_Works_stages, L2.defScope st_f_Works_stages⟩
def d4 : He.FnD := ⟨("Works", some "row_of"), "row_of", "Works.row_of", L2.defArgs st_f_Works_row_of, L2.defBody st_f_Works_row_of, L2.defScope st_f_Works_row_of⟩
def d5 : He.FnD := ⟨("Works", some "rim"), "rim", "Works.rim", L2.defArgs st_f_Works_rim, L2.defBody st_f_Works_rim, L2.defScope st_f_Works_rim⟩
def d6 : He.FnD := ⟨("Works", some "size"), "size", "Works.size", L2.defArgs st_f_Works_size, L2.defBody st_f_Works_size, L2.defScope st_f_Works_size⟩
def d7 : He.FnD := ⟨("Works", some "pictures"), "pictures", "Works.pictures", L2.defArgs st_f_Works_pictures, L2.defBody st_f_Works_pictures, L2.defScope st_f_Works_pictures⟩
def d8 : He.FnD := ⟨("works_shown", none), "works_shown", "works_shown", L2.defArgs st_f_works_shown, L2.defBody st_f_works_shown, L2.defScope st_f_works_shown⟩
def d9 : He.FnD := ⟨("_law_whole", none), "_law_whole", "_law_whole", L2.defArgs st_l_whole, L2.defBody st_l_whole, L2.defScope st_l_whole⟩
def d10 : He.FnD := ⟨("_law_shape", none), "_law_shape", "_law_shape", L2.defArgs st_l_shape, L2.defBody st_l_shape, L2.defScope st_l_shape⟩
def d11 : He.FnD := ⟨("look_at_read", none), "look_at_read", "look_at_read", L2.defArgs st_f_look_at_read, L2.defBody st_f_look_at_read, L2.defScope st_f_look_at_read⟩
def d12 : He.FnD := ⟨("look_at_number", none), "look_at_number", "look_at_number", L2.defArgs st_f_look_at_number, L2.defBody st_f_look_at_number, L2.defScope st_f_look_at_number⟩
def d13 : He.FnD := ⟨("wanted_behind", none), "wanted_behind", "wanted_behind", L2.defArgs st_f_wanted_behind, L2.defBody st_f_wanted_behind, L2.defScope st_f_wanted_behind⟩
def d14 : He.FnD := ⟨("look_at_formula", none), "look_at_formula", "look_at_formula", L2.defArgs st_f_look_at_formula, L2.defBody st_f_look_at_formula, L2.defScope st_f_look_at_formula⟩
def d15 : He.FnD := ⟨("all_letters", none), "all_letters", "all_letters", L2.defArgs st_f_all_letters, L2.defBody st_f_all_letters, L2.defScope st_f_all_letters⟩
def d16 : He.FnD := ⟨("is_name", none), "is_name", "is_name", L2.defArgs st_f_is_name, L2.defBody st_f_is_name, L2.defScope st_f_is_name⟩
def d17 : He.FnD := ⟨("look_at_name", none), "look_at_name", "look_at_name", L2.defArgs st_f_look_at_name, L2.defBody st_f_look_at_name, L2.defScope st_f_look_at_name⟩
def d18 : He.FnD := ⟨("look_at_stages", none), "look_at_stages", "look_at_stages", L2.defArgs st_f_look_at_stages, L2.defBody st_f_look_at_stages, L2.defScope st_f_look_at_stages⟩
def d19 : He.FnD := ⟨("look_at_pictures", none), "look_at_pictures", "look_at_pictures", L2.defArgs st_f_look_at_pictures, L2.defBody st_f_look_at_pictures, L2.defScope st_f_look_at_pictures⟩
def d20 : He.FnD := ⟨("Works", some "__init__"), "__init__", "Works.__init__", L2.defArgs st_f_Works__init, L2.defBody st_f_Works__init, L2.defScope st_f_Works__init⟩
def d21 : He.FnD := ⟨("word_of", none), "word_of", "word_of", L2.defArgs st_f_word_of, L2.defBody st_f_word_of, L2.defScope st_f_word_of⟩
def d22 : He.FnD := ⟨("behind_sign", none), "behind_sign", "behind_sign", L2.defArgs st_f_behind_sign, L2.defBody st_f_behind_sign, L2.defScope st_f_behind_sign⟩
def d23 : He.FnD := ⟨("is_figures", none), "is_figures", "is_figures", L2.defArgs st_f_is_figures, L2.defBody st_f_is_figures, L2.defScope st_f_is_figures⟩
def d24 : He.FnD := ⟨("step_of", none), "step_of", "step_of", L2.defArgs st_f_step_of, L2.defBody st_f_step_of, L2.defScope st_f_step_of⟩
def d25 : He.FnD := ⟨("number_of", none), "number_of", "number_of", L2.defArgs st_f_number_of, L2.defBody st_f_number_of, L2.defScope st_f_number_of⟩
def d26 : He.FnD := ⟨("plain_value", none), "plain_value", "plain_value", L2.defArgs st_f_plain_value, L2.defBody st_f_plain_value, L2.defScope st_f_plain_value⟩
def d27 : He.FnD := ⟨("part_at", none), "part_at", "part_at", L2.defArgs st_f_part_at, L2.defBody st_f_part_at, L2.defScope st_f_part_at⟩
def d28 : He.FnD := ⟨("formula_at", none), "formula_at", "formula_at", L2.defArgs st_f_formula_at, L2.defBody st_f_formula_at, L2.defScope st_f_formula_at⟩
def d29 : He.FnD := ⟨("stage_of", none), "stage_of", "stage_of", L2.defArgs st_f_stage_of, L2.defBody st_f_stage_of, L2.defScope st_f_stage_of⟩
def d30 : He.FnD := ⟨("picture_of", none), "picture_of", "picture_of", L2.defArgs st_f_picture_of, L2.defBody st_f_picture_of, L2.defScope st_f_picture_of⟩
def d31 : He.FnD := ⟨("works_read", none), "works_read", "works_read", L2.defArgs st_f_works_read, L2.defBody st_f_works_read, L2.defScope st_f_works_read⟩
def d32 : He.FnD := ⟨("_law_formula_text", none), "_law_formula_text", "_law_formula_text", L2.defArgs st_l_formula_text, L2.defBody st_l_formula_text, L2.defScope st_l_formula_text⟩
def d33 : He.FnD := ⟨("_law_text", none), "_law_text", "_law_text", L2.defArgs st_l_text, L2.defBody st_l_text, L2.defScope st_l_text⟩
def d34 : He.FnD := ⟨("_law_measure", none), "_law_measure", "_law_measure", L2.defArgs st_l_measure, L2.defBody st_l_measure, L2.defScope st_l_measure⟩
def d35 : He.FnD := ⟨("_law_drawn_at", none), "_law_drawn_at", "_law_drawn_at", L2.defArgs st_l_drawn_at, L2.defBody st_l_drawn_at, L2.defScope st_l_drawn_at⟩
def d36 : He.FnD := ⟨("_law_number", none), "_law_number", "_law_number", L2.defArgs st_l_number, L2.defBody st_l_number, L2.defScope st_l_number⟩
def d37 : He.FnD := ⟨("_law_leaf", none), "_law_leaf", "_law_leaf", L2.defArgs st_l_leaf, L2.defBody st_l_leaf, L2.defScope st_l_leaf⟩
def d38 : He.FnD := ⟨("_law_formula", none), "_law_formula", "_law_formula", L2.defArgs st_l_formula, L2.defBody st_l_formula, L2.defScope st_l_formula⟩
def d39 : He.FnD := ⟨("_law_grown", none), "_law_grown", "_law_grown", L2.defArgs st_l_grown, L2.defBody st_l_grown, L2.defScope st_l_grown⟩
def d40 : He.FnD := ⟨("_law_digits", none), "_law_digits", "_law_digits", L2.defArgs st_l_digits, L2.defBody st_l_digits, L2.defScope st_l_digits⟩
def d41 : He.FnD := ⟨("_law_mixed", none), "_law_mixed", "_law_mixed", L2.defArgs st_l_mixed, L2.defBody st_l_mixed, L2.defScope st_l_mixed⟩
def d42 : He.FnD := ⟨("_law_pictures", none), "_law_pictures", "_law_pictures", L2.defArgs st_l_pictures, L2.defBody st_l_pictures, L2.defScope st_l_pictures⟩
def d43 : He.FnD := ⟨("_law_names", none), "_law_names", "_law_names", L2.defArgs st_l_names, L2.defBody st_l_names, L2.defScope st_l_names⟩
def d44 : He.FnD := ⟨("_law_parts", none), "_law_parts", "_law_parts", L2.defArgs st_l_parts, L2.defBody st_l_parts, L2.defScope st_l_parts⟩
def d45 : He.FnD := ⟨("law", none), "law", "law", L2.defArgs st_l_law, L2.defBody st_l_law, L2.defScope st_l_law⟩
def fn0 : List He.FnD := [d0, d1, d2, d3, d4, d5, d6, d7, d8, d9, d10, d11, d12, d13, d14, d15, d16, d17, d18, d19, d20, d21, d22, d23, d24, d25, d26, d27, d28, d29]
def fn1 : List He.FnD := [d30, d31, d32, d33, d34, d35, d36, d37, d38, d39, d40, d41, d42, d43, d44, d45]
def fnL : List He.FnD := fn0 ++ fn1
def bs0 : List (PySem.W.Frag → Bool) := [
  fun K => He.eqO (PySem.W.nsIn K mainGlobals "Works") (some (some (.ref (He.ga K "Works")))),
  fun K => PySem.W.plainGet K (He.ga K "Works") Str.empty,
  fun K => PySem.W.hasDictIn K (He.ga K "Works"),
  fun K => PySem.W.plainOver K (He.ga K "Works"),
  fun K => He.eqO (PySem.W.findIn K (.ref (He.ga K "Works")) "__setattr__") (some (some (.builtin "object.__setattr__"))),
  fun K => PySem.W.makesIn K (He.ga K "Works"),
  fun K => PySem.W.keepIn K (.ref (He.ga K "Works")),
  fun K => He.eqO (PySem.W.findIn K (.ref (He.ga K "Works")) "kept_formulas") (some none),
  fun K => He.eqO (PySem.W.findIn K (.ref (He.ga K "Works")) "kept_pictures") (some none),
  fun K => He.eqO (PySem.W.findIn K (.ref (He.ga K "Works")) "measure") (some none),
  fun K => Hd.isI K "FARTHEST" (3),
  fun K => Hd.isS K "FIGURES" ("0123456789"),
  fun K => Hd.isI K "GREATEST" (1000000000000000000000000000000000000000000000000000000000000),
  fun K => Hd.isS K "LETTERS" ("abcdefghijklmnopqrstuvwxyz"),
  fun K => Hd.isI K "LONGEST" (12),
  fun K => Hd.isI K "MOST_FIGURES" (61),
  fun K => Hd.isI K "MOST_PICTURES" (4),
  fun K => Hd.isI K "MOST_STAGES" (8),
  fun K => He.eqO (PySem.W.nsIn K mainGlobals "PAIRS") (some (some (.ref (He.ga K "PAIRS")))),
  fun K => Hd.lstX K "PAIRS" ["sum", "less", "times", "least", "most"],
  fun K => Hd.isI K "STEP_FIGURES" (3),
  fun K => Hd.isI K "WIDEST" (40),
  fun K => He.eqO (PySem.W.nsIn K mainGlobals "WORDS") (some (some (.ref (He.ga K "WORDS")))),
  fun K => Hd.lstX K "WORDS" ["number", "x", "y", "read", "sum", "less", "times", "least", "most", "pick"],
  fun K => He.eqO (PySem.W.nsIn K mainGlobals "MillError") (some (some (.ref (He.ga K "MillError")))),
  fun K => He.eqO (PySem.W.nsIn K mainGlobals "NoMeasure") (some (some (.ref (He.ga K "NoMeasure")))),
  fun K => He.eqO (PySem.W.nsIn K mainGlobals "BadCount") (some (some (.ref (He.ga K "BadCount")))),
  fun K => He.eqO (PySem.W.nsIn K mainGlobals "BadName") (some (some (.ref (He.ga K "BadName")))),
  fun K => He.eqO (PySem.W.nsIn K mainGlobals "Twice") (some (some (.ref (He.ga K "Twice")))),
  fun K => He.eqO (PySem.W.nsIn K mainGlobals "BadSize") (some (some (.ref (He.ga K "BadSize"))))]
def bs1 : List (PySem.W.Frag → Bool) := [
  fun K => He.eqO (PySem.W.nsIn K mainGlobals "BadNumber") (some (some (.ref (He.ga K "BadNumber")))),
  fun K => He.eqO (PySem.W.nsIn K mainGlobals "NoDeed") (some (some (.ref (He.ga K "NoDeed")))),
  fun K => He.eqO (PySem.W.nsIn K mainGlobals "NoStage") (some (some (.ref (He.ga K "NoStage")))),
  fun K => He.eqO (PySem.W.nsIn K mainGlobals "BadStep") (some (some (.ref (He.ga K "BadStep")))),
  fun K => He.eqO (PySem.W.nsIn K mainGlobals "BadText") (some (some (.ref (He.ga K "BadText")))),
  fun K => PySem.W.excIn K (He.ga K "BadCount") [.type "ValueError", .type "Exception", .type "BaseException", .type "object"] "ValueError.__new__",
  fun K => PySem.W.keepIn K (.ref (He.ga K "BadCount")),
  fun K => decide (PySem.W.subIn K (.ref (He.ga K "BadCount")) (.type "BaseException") = some true),
  fun K => decide (PySem.W.typeIn K (.ref (He.ga K "BadCount")) = some (.type "type")),
  fun K => PySem.W.excIn K (He.ga K "BadName") [.type "ValueError", .type "Exception", .type "BaseException", .type "object"] "ValueError.__new__",
  fun K => PySem.W.keepIn K (.ref (He.ga K "BadName")),
  fun K => decide (PySem.W.subIn K (.ref (He.ga K "BadName")) (.type "BaseException") = some true),
  fun K => decide (PySem.W.typeIn K (.ref (He.ga K "BadName")) = some (.type "type")),
  fun K => PySem.W.excIn K (He.ga K "BadNumber") [.type "ValueError", .type "Exception", .type "BaseException", .type "object"] "ValueError.__new__",
  fun K => PySem.W.keepIn K (.ref (He.ga K "BadNumber")),
  fun K => decide (PySem.W.subIn K (.ref (He.ga K "BadNumber")) (.type "BaseException") = some true),
  fun K => decide (PySem.W.typeIn K (.ref (He.ga K "BadNumber")) = some (.type "type")),
  fun K => PySem.W.excIn K (He.ga K "BadSize") [.type "ValueError", .type "Exception", .type "BaseException", .type "object"] "ValueError.__new__",
  fun K => PySem.W.keepIn K (.ref (He.ga K "BadSize")),
  fun K => decide (PySem.W.subIn K (.ref (He.ga K "BadSize")) (.type "BaseException") = some true),
  fun K => decide (PySem.W.typeIn K (.ref (He.ga K "BadSize")) = some (.type "type")),
  fun K => PySem.W.excIn K (He.ga K "BadStep") [.type "ValueError", .type "Exception", .type "BaseException", .type "object"] "ValueError.__new__",
  fun K => PySem.W.keepIn K (.ref (He.ga K "BadStep")),
  fun K => decide (PySem.W.subIn K (.ref (He.ga K "BadStep")) (.type "BaseException") = some true),
  fun K => decide (PySem.W.typeIn K (.ref (He.ga K "BadStep")) = some (.type "type")),
  fun K => PySem.W.excIn K (He.ga K "NoDeed") [.type "ValueError", .type "Exception", .type "BaseException", .type "object"] "ValueError.__new__",
  fun K => PySem.W.keepIn K (.ref (He.ga K "NoDeed")),
  fun K => decide (PySem.W.subIn K (.ref (He.ga K "NoDeed")) (.type "BaseException") = some true),
  fun K => decide (PySem.W.typeIn K (.ref (He.ga K "NoDeed")) = some (.type "type")),
  fun K => PySem.W.excIn K (He.ga K "NoMeasure") [.type "ValueError", .type "Exception", .type "BaseException", .type "object"] "ValueError.__new__"]
def bs2 : List (PySem.W.Frag → Bool) := [
  fun K => PySem.W.keepIn K (.ref (He.ga K "NoMeasure")),
  fun K => decide (PySem.W.subIn K (.ref (He.ga K "NoMeasure")) (.type "BaseException") = some true),
  fun K => decide (PySem.W.typeIn K (.ref (He.ga K "NoMeasure")) = some (.type "type")),
  fun K => PySem.W.excIn K (He.ga K "NoStage") [.type "ValueError", .type "Exception", .type "BaseException", .type "object"] "ValueError.__new__",
  fun K => PySem.W.keepIn K (.ref (He.ga K "NoStage")),
  fun K => decide (PySem.W.subIn K (.ref (He.ga K "NoStage")) (.type "BaseException") = some true),
  fun K => decide (PySem.W.typeIn K (.ref (He.ga K "NoStage")) = some (.type "type")),
  fun K => PySem.W.excIn K (He.ga K "Twice") [.type "ValueError", .type "Exception", .type "BaseException", .type "object"] "ValueError.__new__",
  fun K => PySem.W.keepIn K (.ref (He.ga K "Twice")),
  fun K => decide (PySem.W.subIn K (.ref (He.ga K "Twice")) (.type "BaseException") = some true),
  fun K => decide (PySem.W.typeIn K (.ref (He.ga K "Twice")) = some (.type "type")),
  fun K => He.eqO (PySem.W.specialIn K (.builtin "object.__class__") "__get__") (some (some (.builtin "getset_descriptor.__get__"))),
  fun K => decide (PySem.W.takesIn K (.builtin "object.__class__") = some true),
  fun K => He.eqO (PySem.W.findIn K (.ref (He.ga K "Works")) "__class__") (some (some (.builtin "object.__class__"))),
  fun K => decide (PySem.W.mroIn K (He.ga K "Works") (.type "object") = some true),
  fun K => decide (PySem.W.subIn K (.ref (He.ga K "Works")) (.ref (He.ga K "Works")) = some true),
  fun K => PySem.W.isClsIn K (He.ga K "Works"),
  fun K => decide (PySem.W.typeIn K (.ref (He.ga K "Works")) = some (.type "type")),
  fun K => He.eqO (PySem.W.findIn K (.ref (He.ga K "BadText")) "row") (some none),
  fun K => Hd.excX K (He.ga K "BadText"),
  fun K => He.eqO (PySem.W.findIn K (.ref (He.ga K "BadText")) "__setattr__") (some (some (.builtin "object.__setattr__"))),
  fun K => He.eqO (PySem.W.findIn K (.ref (He.ga K "BadText")) "__init__") (some (some (.ref (He.ma K (He.ga K "BadText") "__init__")))),
  fun K => decide (PySem.W.typeIn K (.ref (He.ma K (He.ga K "BadText") "__init__")) = some (.type "function")),
  fun K => PySem.W.keepIn K (.ref (He.ma K (He.ga K "BadText") "__init__")),
  fun K => decide (PySem.W.subIn K (.ref (He.ga K "BadText")) (.type "BaseException") = some true),
  fun K => decide (PySem.W.typeIn K (.ref (He.ga K "BadText")) = some (.type "type")),
  fun K => PySem.W.keepIn K (.ref (He.ga K "BadText")),
  fun K => He.eqO (PySem.W.specialIn K (.ref (He.ga K "MillError")) "__getattribute__") (some (some (.builtin "type.__getattribute__"))),
  fun K => PySem.W.readsIn K (He.ga K "MillError") (.type "type"),
  fun K => Hd.valX K (.ref (He.ga K "MillError")) (.type "type") "__init__" "ValueError.__init__"]
def bs3 : List (PySem.W.Frag → Bool) := [
  fun K => He.eqO (PySem.W.nsIn K mainGlobals "formula_shown") (some (some (.ref (He.ga K "formula_shown")))),
  fun K => PySem.W.keepIn K (.ref (He.ga K "formula_shown")),
  fun K => He.eqO (PySem.W.findIn K (.ref (He.ga K "Works")) "formula") (some (some (.ref (He.ma K (He.ga K "Works") "formula")))),
  fun K => PySem.W.isFn K (.ref (He.ma K (He.ga K "Works") "formula")),
  fun K => PySem.W.keepIn K (.ref (He.ma K (He.ga K "Works") "formula")),
  fun K => He.eqO (PySem.W.findIn K (.ref (He.ga K "Works")) "stages") (some (some (.ref (He.ma K (He.ga K "Works") "stages")))),
  fun K => PySem.W.isFn K (.ref (He.ma K (He.ga K "Works") "stages")),
  fun K => PySem.W.keepIn K (.ref (He.ma K (He.ga K "Works") "stages")),
  fun K => He.eqO (PySem.W.findIn K (.ref (He.ga K "Works")) "row_of") (some (some (.ref (He.ma K (He.ga K "Works") "row_of")))),
  fun K => PySem.W.isFn K (.ref (He.ma K (He.ga K "Works") "row_of")),
  fun K => PySem.W.keepIn K (.ref (He.ma K (He.ga K "Works") "row_of")),
  fun K => He.eqO (PySem.W.findIn K (.ref (He.ga K "Works")) "rim") (some (some (.ref (He.ma K (He.ga K "Works") "rim")))),
  fun K => PySem.W.isFn K (.ref (He.ma K (He.ga K "Works") "rim")),
  fun K => PySem.W.keepIn K (.ref (He.ma K (He.ga K "Works") "rim")),
  fun K => He.eqO (PySem.W.findIn K (.ref (He.ga K "Works")) "size") (some (some (.ref (He.ma K (He.ga K "Works") "size")))),
  fun K => PySem.W.isFn K (.ref (He.ma K (He.ga K "Works") "size")),
  fun K => PySem.W.keepIn K (.ref (He.ma K (He.ga K "Works") "size")),
  fun K => He.eqO (PySem.W.findIn K (.ref (He.ga K "Works")) "pictures") (some (some (.ref (He.ma K (He.ga K "Works") "pictures")))),
  fun K => PySem.W.isFn K (.ref (He.ma K (He.ga K "Works") "pictures")),
  fun K => PySem.W.keepIn K (.ref (He.ma K (He.ga K "Works") "pictures")),
  fun K => He.eqO (PySem.W.nsIn K mainGlobals "works_shown") (some (some (.ref (He.ga K "works_shown")))),
  fun K => PySem.W.keepIn K (.ref (He.ga K "works_shown")),
  fun K => He.eqO (PySem.W.nsIn K mainGlobals "_law_whole") (some (some (.ref (He.ga K "_law_whole")))),
  fun K => PySem.W.keepIn K (.ref (He.ga K "_law_whole")),
  fun K => He.eqO (PySem.W.nsIn K mainGlobals "_law_shape") (some (some (.ref (He.ga K "_law_shape")))),
  fun K => PySem.W.keepIn K (.ref (He.ga K "_law_shape")),
  fun K => He.eqO (PySem.W.nsIn K mainGlobals "look_at_read") (some (some (.ref (He.ga K "look_at_read")))),
  fun K => PySem.W.keepIn K (.ref (He.ga K "look_at_read")),
  fun K => He.eqO (PySem.W.nsIn K mainGlobals "look_at_number") (some (some (.ref (He.ga K "look_at_number")))),
  fun K => PySem.W.keepIn K (.ref (He.ga K "look_at_number"))]
def bs4 : List (PySem.W.Frag → Bool) := [
  fun K => He.eqO (PySem.W.nsIn K mainGlobals "wanted_behind") (some (some (.ref (He.ga K "wanted_behind")))),
  fun K => PySem.W.keepIn K (.ref (He.ga K "wanted_behind")),
  fun K => He.eqO (PySem.W.nsIn K mainGlobals "look_at_formula") (some (some (.ref (He.ga K "look_at_formula")))),
  fun K => PySem.W.keepIn K (.ref (He.ga K "look_at_formula")),
  fun K => He.eqO (PySem.W.nsIn K mainGlobals "all_letters") (some (some (.ref (He.ga K "all_letters")))),
  fun K => PySem.W.keepIn K (.ref (He.ga K "all_letters")),
  fun K => He.eqO (PySem.W.nsIn K mainGlobals "is_name") (some (some (.ref (He.ga K "is_name")))),
  fun K => PySem.W.keepIn K (.ref (He.ga K "is_name")),
  fun K => He.eqO (PySem.W.nsIn K mainGlobals "look_at_name") (some (some (.ref (He.ga K "look_at_name")))),
  fun K => PySem.W.keepIn K (.ref (He.ga K "look_at_name")),
  fun K => He.eqO (PySem.W.nsIn K mainGlobals "look_at_stages") (some (some (.ref (He.ga K "look_at_stages")))),
  fun K => PySem.W.keepIn K (.ref (He.ga K "look_at_stages")),
  fun K => He.eqO (PySem.W.nsIn K mainGlobals "look_at_pictures") (some (some (.ref (He.ga K "look_at_pictures")))),
  fun K => PySem.W.keepIn K (.ref (He.ga K "look_at_pictures")),
  fun K => He.eqO (PySem.W.findIn K (.ref (He.ga K "Works")) "__init__") (some (some (.ref (He.ma K (He.ga K "Works") "__init__")))),
  fun K => PySem.W.isFn K (.ref (He.ma K (He.ga K "Works") "__init__")),
  fun K => PySem.W.keepIn K (.ref (He.ma K (He.ga K "Works") "__init__")),
  fun K => He.eqO (PySem.W.nsIn K mainGlobals "word_of") (some (some (.ref (He.ga K "word_of")))),
  fun K => PySem.W.keepIn K (.ref (He.ga K "word_of")),
  fun K => He.eqO (PySem.W.nsIn K mainGlobals "behind_sign") (some (some (.ref (He.ga K "behind_sign")))),
  fun K => PySem.W.keepIn K (.ref (He.ga K "behind_sign")),
  fun K => He.eqO (PySem.W.nsIn K mainGlobals "is_figures") (some (some (.ref (He.ga K "is_figures")))),
  fun K => PySem.W.keepIn K (.ref (He.ga K "is_figures")),
  fun K => He.eqO (PySem.W.nsIn K mainGlobals "step_of") (some (some (.ref (He.ga K "step_of")))),
  fun K => PySem.W.keepIn K (.ref (He.ga K "step_of")),
  fun K => He.eqO (PySem.W.nsIn K mainGlobals "number_of") (some (some (.ref (He.ga K "number_of")))),
  fun K => PySem.W.keepIn K (.ref (He.ga K "number_of")),
  fun K => He.eqO (PySem.W.nsIn K mainGlobals "plain_value") (some (some (.ref (He.ga K "plain_value")))),
  fun K => PySem.W.keepIn K (.ref (He.ga K "plain_value")),
  fun K => He.eqO (PySem.W.nsIn K mainGlobals "part_at") (some (some (.ref (He.ga K "part_at"))))]
def bs5 : List (PySem.W.Frag → Bool) := [
  fun K => PySem.W.keepIn K (.ref (He.ga K "part_at")),
  fun K => He.eqO (PySem.W.nsIn K mainGlobals "formula_at") (some (some (.ref (He.ga K "formula_at")))),
  fun K => PySem.W.keepIn K (.ref (He.ga K "formula_at")),
  fun K => He.eqO (PySem.W.nsIn K mainGlobals "stage_of") (some (some (.ref (He.ga K "stage_of")))),
  fun K => PySem.W.keepIn K (.ref (He.ga K "stage_of")),
  fun K => He.eqO (PySem.W.nsIn K mainGlobals "picture_of") (some (some (.ref (He.ga K "picture_of")))),
  fun K => PySem.W.keepIn K (.ref (He.ga K "picture_of")),
  fun K => He.eqO (PySem.W.nsIn K mainGlobals "works_read") (some (some (.ref (He.ga K "works_read")))),
  fun K => PySem.W.keepIn K (.ref (He.ga K "works_read")),
  fun K => He.eqO (PySem.W.nsIn K mainGlobals "_law_formula_text") (some (some (.ref (He.ga K "_law_formula_text")))),
  fun K => PySem.W.keepIn K (.ref (He.ga K "_law_formula_text")),
  fun K => He.eqO (PySem.W.nsIn K mainGlobals "_law_text") (some (some (.ref (He.ga K "_law_text")))),
  fun K => PySem.W.keepIn K (.ref (He.ga K "_law_text")),
  fun K => He.eqO (PySem.W.nsIn K mainGlobals "_law_measure") (some (some (.ref (He.ga K "_law_measure")))),
  fun K => PySem.W.keepIn K (.ref (He.ga K "_law_measure")),
  fun K => He.eqO (PySem.W.nsIn K mainGlobals "_law_drawn_at") (some (some (.ref (He.ga K "_law_drawn_at")))),
  fun K => PySem.W.keepIn K (.ref (He.ga K "_law_drawn_at")),
  fun K => He.eqO (PySem.W.nsIn K mainGlobals "_law_number") (some (some (.ref (He.ga K "_law_number")))),
  fun K => PySem.W.keepIn K (.ref (He.ga K "_law_number")),
  fun K => He.eqO (PySem.W.nsIn K mainGlobals "_law_leaf") (some (some (.ref (He.ga K "_law_leaf")))),
  fun K => PySem.W.keepIn K (.ref (He.ga K "_law_leaf")),
  fun K => He.eqO (PySem.W.nsIn K mainGlobals "_law_formula") (some (some (.ref (He.ga K "_law_formula")))),
  fun K => PySem.W.keepIn K (.ref (He.ga K "_law_formula")),
  fun K => He.eqO (PySem.W.nsIn K mainGlobals "_law_grown") (some (some (.ref (He.ga K "_law_grown")))),
  fun K => PySem.W.keepIn K (.ref (He.ga K "_law_grown")),
  fun K => He.eqO (PySem.W.nsIn K mainGlobals "_law_digits") (some (some (.ref (He.ga K "_law_digits")))),
  fun K => PySem.W.keepIn K (.ref (He.ga K "_law_digits")),
  fun K => He.eqO (PySem.W.nsIn K mainGlobals "_law_mixed") (some (some (.ref (He.ga K "_law_mixed")))),
  fun K => PySem.W.keepIn K (.ref (He.ga K "_law_mixed")),
  fun K => He.eqO (PySem.W.nsIn K mainGlobals "_law_pictures") (some (some (.ref (He.ga K "_law_pictures"))))]
def bs6 : List (PySem.W.Frag → Bool) := [
  fun K => PySem.W.keepIn K (.ref (He.ga K "_law_pictures")),
  fun K => He.eqO (PySem.W.nsIn K mainGlobals "_law_names") (some (some (.ref (He.ga K "_law_names")))),
  fun K => PySem.W.keepIn K (.ref (He.ga K "_law_names")),
  fun K => He.eqO (PySem.W.nsIn K mainGlobals "_law_parts") (some (some (.ref (He.ga K "_law_parts")))),
  fun K => PySem.W.keepIn K (.ref (He.ga K "_law_parts")),
  fun K => He.eqO (PySem.W.nsIn K mainGlobals "law") (some (some (.ref (He.ga K "law")))),
  fun K => PySem.W.keepIn K (.ref (He.ga K "law")),
  fun K => He.eqO (PySem.W.nsIn K mainGlobals "abs") (some none),
  fun K => He.eqO (PySem.W.nsIn K mainGlobals "bool") (some none),
  fun K => He.eqO (PySem.W.nsIn K mainGlobals "enumerate") (some none),
  fun K => He.eqO (PySem.W.nsIn K mainGlobals "int") (some none),
  fun K => He.eqO (PySem.W.nsIn K mainGlobals "isinstance") (some none),
  fun K => He.eqO (PySem.W.nsIn K mainGlobals "len") (some none),
  fun K => He.eqO (PySem.W.nsIn K mainGlobals "list") (some none),
  fun K => He.eqO (PySem.W.nsIn K mainGlobals "min") (some none),
  fun K => He.eqO (PySem.W.nsIn K mainGlobals "range") (some none),
  fun K => He.eqO (PySem.W.nsIn K mainGlobals "reversed") (some none),
  fun K => He.eqO (PySem.W.nsIn K mainGlobals "str") (some none),
  fun K => He.eqO (PySem.W.nsIn K mainGlobals "sum") (some none),
  fun K => He.eqO (PySem.W.nsIn K mainGlobals "tuple") (some none)]
def bss : List (List (PySem.W.Frag → Bool)) := [bs0, bs1, bs2, bs3, bs4, bs5, bs6]
end
abbrev RH : PySem.W.OpenRow := PySem.W.OpenLaw.row PySem.Challenge.rw_stripmill_k95_works_shown_and_read
abbrev hkX : PySem.W.Hook := Hd.hookX bss fnL
def obX (s : PySem.W.SharedT) : He.Al := Hd.obsXG bss fnL (HandSHeadRun.getT s)
theorem obX_eq (s : PySem.W.SharedT) : obX s = hkX.obs s.abs := Hd.obsXG_eq (HandSHeadRun.getT_eq s)
def nm0 : List Str := ["MillError", "NoMeasure", "BadCount", "BadName", "Twice", "BadSize", "BadNumber", "NoDeed", "NoStage", "BadStep", "BadText", "PAIRS", "LETTERS", "LONGEST", "all_letters", "is_name", "GREATEST", "MOST_PICTURES", "MOST_STAGES", "WIDEST", "FARTHEST", "wanted_behind", "look_at_number", "look_at_read", "look_at_formula", "look_at_name", "look_at_pictures", "look_at_stages", "Works", "FIGURES"]
def nm1 : List Str := ["MOST_FIGURES", "STEP_FIGURES", "WORDS", "formula_shown", "works_shown", "is_figures", "number_of", "step_of", "word_of", "part_at", "behind_sign", "plain_value", "formula_at", "picture_of", "stage_of", "works_read", "_law_drawn_at", "_law_whole", "_law_mixed", "_law_measure", "_law_number", "_law_signed", "_law_names", "_law_digits", "_law_leaf", "_law_formula", "_law_grown", "_law_pictures", "_law_parts", "_law_formula_text"]
def nm2 : List Str := ["_law_text", "_law_shape"]
def nmL : List Str := nm0 ++ nm1 ++ nm2
set_option maxRecDepth 100000 in
set_option maxHeartbeats 0 in
theorem runX (w : World) : HandSHeadRun.RunEq RH (PySem.W.view RH.prog [67]) hkX obX 20000 nmL w := by
  intro os
  kernel_rfl
end W
set_option linter.all false
namespace G
open PySem
/-- data that never changes -/
inductive D where
  | non | bl (b : Bool) | int (i : Int) | str (s : Str)
  | tup (l : List D) | lst (l : List D) | dct (k : Bool) (kvs : List (D × D)) | obj (c : Nat) (fs : List (Str × D))
  | rol (l : List D) | exn (c : Nat) (fs : List (Str × D))
/-- what one name alone holds and may change; imm: data -/
inductive T where
  | imm (d : D) | lst (l : List T) | dct (k : Bool) (kvs : List (D × T)) | obj (c : Nat) (fs : List (Str × T)) | tup (l : List T)
mutual
def T.toD : T → D
  | .imm d => d
  | .lst l => .lst (T.toDs l)
  | .dct k kvs => .dct k (T.toKs kvs)
  | .obj c fs => .obj c (T.toFs fs)
  | .tup l => .tup (T.toDs l)
def T.toDs : List T → List D
  | [] => []
  | t :: r => t.toD :: T.toDs r
def T.toKs : List (D × T) → List (D × D)
  | [] => []
  | (k, t) :: r => (k, t.toD) :: T.toKs r
def T.toFs : List (Str × T) → List (Str × D)
  | [] => []
  | (k, t) :: r => (k, t.toD) :: T.toFs r
end
def ims (l : List D) : List T := l.map T.imm
@[simp] theorem toDs_ims (l : List D) : T.toDs (ims l) = l := by
  induction l with
  | nil => rfl
  | cons d r ih => show d :: T.toDs (ims r) = d :: r; rw [ih]
@[simp] theorem toD_imm (d : D) : (T.imm d).toD = d := rfl
@[simp] theorem toD_lst (l : List T) : (T.lst l).toD = .lst (T.toDs l) := rfl
@[simp] theorem toD_tup (l : List T) : (T.tup l).toD = .tup (T.toDs l) := rfl
@[simp] theorem toDs_nil : T.toDs [] = [] := rfl
@[simp] theorem toDs_cons (t : T) (r : List T) : T.toDs (t :: r) = t.toD :: T.toDs r := rfl
@[simp] theorem ims_nil : ims [] = [] := rfl
@[simp] theorem ims_cons (d : D) (r : List D) : ims (d :: r) = .imm d :: ims r := rfl
theorem toDs_map (l : List T) : T.toDs l = l.map T.toD := by
  induction l with
  | nil => rfl
  | cons d r ih => show d.toD :: T.toDs r = _; rw [ih]; rfl
theorem ims_append (a b : List D) : ims (a ++ b) = ims a ++ ims b := List.map_append
@[simp] theorem ims_length (a : List D) : (ims a).length = a.length := List.length_map _
/-- a raised error: its class, its fields -/
structure X where
  cls : Nat
  fs : List (Str × D)
abbrev St := List (Option T)
/-- how code ends; no: nothing is said -/
inductive R (α : Type) where
  | no | ok (a : α) (st : St) | ex (x : X) (st : St)
abbrev Sm (α : Type) := St → R α
/-- where a statement goes on -/
inductive Fl where
  | nx | rt (t : T) | bk | ct
abbrev Ss := Sm Fl
/-- how a call ends: what comes back, the lent arguments as they are then -/
inductive FR where
  | no | ret (t : T) (ps : List (Option T)) | ex (x : X) (ps : List (Option T))
abbrev Fn := List T → FR
def R.bind {α β : Type} (r : R α) (k : α → Sm β) : R β := match r with
  | .no => .no
  | .ok a st => k a st
  | .ex x st => .ex x st
def Sm.bind {α β : Type} (m : Sm α) (k : α → Sm β) : Sm β := fun st => (m st).bind k
def Sm.pure {α : Type} (a : α) : Sm α := fun st => .ok a st
def Sm.ofO {α : Type} (o : Option α) : Sm α := fun st => match o with
  | some a => .ok a st
  | none => .no
@[simp] theorem bind_ok {α β : Type} (a : α) (st : St) (k : α → Sm β) : (R.ok a st).bind k = k a st := rfl
@[simp] theorem bind_no {α β : Type} (k : α → Sm β) : (R.no : R α).bind k = .no := rfl
@[simp] theorem bind_ex {α β : Type} (x : X) (st : St) (k : α → Sm β) : (R.ex x st : R α).bind k = .ex x st := rfl
/-- a name as a value: from here on it is data -/
def sVar (i : Nat) : Sm T := fun st => match st[i]? with
  | some (some (.imm d)) => .ok (.imm d) st
  | some (some t) => .ok (.imm t.toD) (st.set i (some (.imm t.toD)))
  | _ => .no
/-- a name's value handed on; nothing is known of the name behind -/
def sMv (i : Nat) : Sm T := fun st => match st[i]? with
  | some (some t) => .ok t (st.set i none)
  | _ => .no
def sCst (d : D) : Sm T := fun st => .ok (.imm d) st
def sOp2 (f : D → D → Option T) (a b : Sm T) : Sm T := Sm.bind a fun x => Sm.bind b fun y => Sm.ofO (f x.toD y.toD)
def sUn (f : D → Option T) (a : Sm T) : Sm T := Sm.bind a fun x => Sm.ofO (f x.toD)
def some1 (d : D) : Option T := some (.imm d)
def line : Nat := 16777216
def bits (i : Int) : Nat := i.natAbs.log2
def mulLine : Nat := 134000000
def fAdd : D → D → Option T
  | .int i, .int j => some (.imm (.int (i + j)))
  | .str x, .str y => if x.length + y.length ≤ line then some (.imm (.str (x ++ y))) else none
  | .lst l, .lst r => if l.length + r.length ≤ line then some (.lst (ims (l ++ r))) else none
  | .tup l, .tup r => if l.length + r.length ≤ line ∧ 0 < l.length ∧ 0 < r.length then some (.imm (.tup (l ++ r))) else none
  | _, _ => none
def fAddI : D → D → Option T
  | .int i, .int j => some (.imm (.int (i + j)))
  | _, _ => none
def fSub : D → D → Option T
  | .int i, .int j => some (.imm (.int (i - j)))
  | _, _ => none
def fMul : D → D → Option T
  | .int i, .int j => if bits i + bits j < mulLine then some (.imm (.int (i * j))) else none
  | .lst l, .int k => if k < 1000000 ∧ -1000000 < k ∧ l.length * k.toNat ≤ line then some (.lst (ims ((List.replicate k.toNat l).flatten))) else none
  | .str s, .int k => if k < 1000000 ∧ -1000000 < k ∧ s.length ≤ 10000 ∧ s.length * k.toNat ≤ line then some (.imm (.str (Txt.mul s k))) else none
  | _, _ => none
def fDiv : D → D → Option T
  | .int i, .int j => if 0 < j ∧ bits j < 9000 then some (.imm (.int (i / j))) else none
  | _, _ => none
def fMod : D → D → Option T
  | .int i, .int j => if 0 < j then some (.imm (.int (i % j))) else none
  | _, _ => none
def fPow : D → D → Option T
  | .int i, .int j => if 0 ≤ j ∧ j ≤ 1000000 ∧ i.natAbs < 2 ^ 64 then some (.imm (.int (i ^ j.toNat))) else none
  | _, _ => none
def fNeg : D → Option T
  | .int i => some (.imm (.int (-i)))
  | _ => none
def fLt : D → D → Option T
  | .int i, .int j => some (.imm (.bl (decide (i < j))))
  | _, _ => none
def fLe : D → D → Option T
  | .int i, .int j => some (.imm (.bl (decide (i ≤ j))))
  | _, _ => none
def fGt : D → D → Option T
  | .int i, .int j => some (.imm (.bl (decide (j < i))))
  | _, _ => none
def fGe : D → D → Option T
  | .int i, .int j => some (.imm (.bl (decide (j ≤ i))))
  | _, _ => none
def D.isN : D → Bool
  | .non => true
  | _ => false
def fIsN : D → Option T := fun d => some (.imm (.bl d.isN))
def fNotN : D → Option T := fun d => some (.imm (.bl (!d.isN)))
mutual
def D.py : D → PyData
  | .non => .none
  | .bl b => .bool b
  | .int i => .int i
  | .str s => .str s
  | .tup l => .tuple (D.pys l)
  | .lst l => .list (D.pys l)
  | .dct _ _ => .dict []
  | .obj _ _ => .dict []
  | .rol _ => .dict []
  | .exn _ _ => .dict []
def D.pys : List D → List PyData
  | [] => []
  | d :: r => d.py :: D.pys r
end
/-- no dict, no object in it, not deeper than k -/
def D.flat : Nat → D → Bool
  | _, .non => true
  | _, .bl _ => true
  | _, .int _ => true
  | _, .str s => PyData.canLay0 (.str s)
  | k + 1, .tup l => l.all (D.flat k)
  | k + 1, .lst l => l.all (D.flat k)
  | _, _ => false
/-- == of what is no list, no tuple -/
def sEq : D → D → Option Bool
  | .non, .non => some true
  | .non, .int _ => some false
  | .int _, .non => some false
  | .non, .bl _ => some false
  | .bl _, .non => some false
  | .non, .str _ => some false
  | .str _, .non => some false
  | .int i, .int j => some (decide (i = j))
  | .bl i, .bl j => some (decide (i = j))
  | .str i, .str j => some (decide (i = j))
  | .int _, .str _ => some false
  | .str _, .int _ => some false
  | .bl _, .str _ => some false
  | .str _, .bl _ => some false
  | _, _ => none
def dEq (a b : D) : Option Bool := match sEq a b with
  | some c => some c
  | none => if D.flat 40 a && D.flat 40 b then some (PyData.eqv a.py b.py) else none
def fEq : D → D → Option T := fun a b => (dEq a b).map fun c => .imm (.bl c)
def fNe : D → D → Option T := fun a b => (dEq a b).map fun c => .imm (.bl (!c))
def isKey1 : D → Bool
  | .int _ => true
  | .str _ => true
  | _ => false
/-- fits a dict of the kind (b: of tuples) -/
def isKey (b : Bool) : D → Bool
  | .tup l => b && l.all isKey1
  | .int _ => !b
  | .str _ => !b
  | _ => false
def kEq1 : D → D → Bool
  | .int i, .int j => decide (i = j)
  | .str i, .str j => decide (i = j)
  | _, _ => false
def kEqL : List D → List D → Bool
  | [], [] => true
  | a :: r, b :: s => kEq1 a b && kEqL r s
  | _, _ => false
def kEq : D → D → Bool
  | .tup l, .tup m => kEqL l m
  | .int i, .int j => decide (i = j)
  | .str i, .str j => decide (i = j)
  | _, _ => false
def dFind {α : Type} : List (D × α) → D → Option α
  | [], _ => none
  | (k', x) :: r, k => if kEq k' k then some x else dFind r k
/-- in its place, or at the end -/
def dPut {α : Type} : List (D × α) → D → α → List (D × α)
  | [], k, x => [(k, x)]
  | (k', y) :: r, k, x => if kEq k' k then (k', x) :: r else (k', y) :: dPut r k x
def dMerge {α : Type} : List (D × α) → List (D × α) → List (D × α)
  | kvs, [] => kvs
  | kvs, (k, x) :: r => dMerge (dPut kvs k x) r
/-- a field in its place, or at the end -/
def fPut {α : Type} (f : Str) (x : α) : List (Str × α) → List (Str × α)
  | [] => [(f, x)]
  | (g, y) :: r => if g = f then (g, x) :: r else (g, y) :: fPut f x r
def fFind {α : Type} : List (Str × α) → Str → Option α
  | [], _ => none
  | (g, x) :: r, f => if g = f then some x else fFind r f
/-- x in y -/
def dIn : D → D → Option Bool
  | .str x, .str y => match x.cps.toList with
    | [c] => some (decide (c ∈ y.cps.toList))
    | _ => none
  | d, .lst l => if D.flat 40 d && l.all (D.flat 39) then some (l.any fun z => PyData.eqv z.py d.py) else none
  | d, .rol l => if D.flat 40 d && l.all (D.flat 39) then some (l.any fun z => PyData.eqv z.py d.py) else none
  | d, .dct b kvs => if isKey b d then some (dFind kvs d).isSome else none
  | d, .tup l => if D.flat 0 d && l.all (D.flat 0) then some (l.any fun z => PyData.eqv z.py d.py) else none
  | _, _ => none
def fIn : D → D → Option T := fun a b => (dIn a b).map fun c => .imm (.bl c)
def fNotIn : D → D → Option T := fun a b => (dIn a b).map fun c => .imm (.bl (!c))
/-- the item at an index of any sign -/
def atI {α : Type} (xs : List α) (i : Int) : Option α :=
  if 0 ≤ i then xs[i.toNat]? else if 0 ≤ i + xs.length then xs[(i + xs.length).toNat]? else none
def fIx : D → D → Option T
  | .lst l, .int i => (atI l i).map T.imm
  | .tup l, .int i => (atI l i).map T.imm
  | .rol l, .int i => (atI l i).map T.imm
  | .str s, .int i => if s.length ≤ line then (atI s.cps.toList i).map fun c => .imm (.str ⟨#[c]⟩) else none
  | .dct b kvs, k => if isKey b k then (dFind kvs k).map T.imm else none
  | _, _ => none
def fLen : D → Option T
  | .lst l => some (.imm (.int l.length))
  | .tup l => some (.imm (.int l.length))
  | .rol l => some (.imm (.int l.length))
  | .str s => if s.length ≤ line then some (.imm (.int s.length)) else none
  | .dct false kvs => some (.imm (.int kvs.length))
  | _ => none
/-- a op b op' c -/
def sChain (f g : D → D → Option T) (a b c : Sm T) : Sm T := Sm.bind a fun x => Sm.bind b fun y => match f x.toD y.toD with
  | some (.imm (.bl true)) => Sm.bind c fun z => Sm.ofO (g y.toD z.toD)
  | some (.imm (.bl false)) => Sm.pure (.imm (.bl false))
  | _ => fun _ => .no
/-- where a slice begins, ends -/
def cutAt (n d : Nat) : Option Int → Nat
  | some v => if v < 0 then (v + n).toNat else min v.toNat n
  | none => d
def cutL {α : Type} (l : List α) (lo hi : Option Int) : List α := (l.drop (cutAt l.length 0 lo)).take (cutAt l.length l.length hi - cutAt l.length 0 lo)
def fSlice : D → Option Int → Option Int → Option T
  | .lst l, lo, hi => some (.lst (ims (cutL l lo hi)))
  | .rol l, lo, hi => some (.lst (ims (cutL l lo hi)))
  | .tup l, lo, hi => if cutAt l.length 0 lo = 0 ∧ cutAt l.length l.length hi = l.length then none else some (.imm (.tup (cutL l lo hi)))
  | .str s, lo, hi => if s.length ≤ line then some (.imm (.str ⟨(cutL s.cps.toList lo hi).toArray⟩)) else none
  | _, _, _ => none
abbrev So := Sm (Option Int)
def oNone : So := fun st => .ok none st
def oSome (m : Sm T) : So := Sm.bind m fun t st => match t.toD with
  | .int i => .ok (some i) st
  | _ => .no
def sSlice (a : Sm T) (lo hi : So) : Sm T := Sm.bind a fun x => Sm.bind lo fun l => Sm.bind hi fun h => Sm.ofO (fSlice x.toD l h)
def bLen : List D → Option T
  | [d] => fLen d
  | _ => none
def bAbs : List D → Option T
  | [.int i] => some1 (.int (if i < 0 then -i else i))
  | _ => none
def allI : List D → Option (List Int)
  | [] => some []
  | .int i :: r => (allI r).map (i :: ·)
  | _ => none
def bMax2 : List D → Option T
  | [.int i, .int j] => some1 (.int (if j > i then j else i))
  | _ => none
def bMin2 : List D → Option T
  | [.int i, .int j] => some1 (.int (if j < i then j else i))
  | _ => none
def bInt : List D → Option T
  | [.int i] => some1 (.int i)
  | [.bl k] => some1 (.int (if k then 1 else 0))
  | _ => none
def bStr : List D → Option T
  | [.int i] => if bits i < 1920 then some1 (.str (toString i)) else none
  | _ => none
def bSum : List D → Option T
  | [.lst l] => (allI l).map fun ns => .imm (.int ns.sum)
  | _ => none
def bMaxL : List D → Option T
  | [.lst l] => match allI l with
    | some (n :: ns) => some1 (.int (ns.foldl (fun m k => if k > m then k else m) n))
    | _ => none
  | _ => none
def bMinL : List D → Option T
  | [.lst l] => match allI l with
    | some (n :: ns) => some1 (.int (ns.foldl (fun m k => if k < m then k else m) n))
    | _ => none
  | _ => none
def bList : List D → Option T
  | [.lst l] => some (.lst (ims l))
  | [.rol l] => some (.lst (ims l))
  | [.tup l] => some (.lst (ims l))
  | [.dct false kvs] => some (.lst (ims (kvs.map (·.1))))
  | _ => none
def pairD : List D → Option (List (D × D))
  | [] => some []
  | .tup [k, v] :: r => if isKey false k then (pairD r).map ((k, v) :: ·) else none
  | _ => none
def imK (kvs : List (D × D)) : List (D × T) := kvs.map fun p => (p.1, .imm p.2)
/-- dict(pairs), dict(dict) -/
def bDict : List D → Option T
  | [.lst l] => (pairD l).map fun ps => .dct false (imK (dMerge [] ps))
  | [.dct false kvs] => some (.dct false (imK kvs))
  | _ => none
def fGet2 : D → D → D → Option T
  | .dct b kvs, k, x => if isKey b k then some (.imm ((dFind kvs k).getD x)) else none
  | _, _, _ => none
def D.isDct : D → Bool
  | .dct _ _ => true
  | _ => false
def bTuple : List D → Option T
  | [.lst l] => some1 (.tup l)
  | [.tup l] => some1 (.tup l)
  | _ => none
/-- whole numbers in order -/
def ins (x : Int) : List Int → List Int
  | [] => [x]
  | y :: r => if x ≤ y then x :: y :: r else y :: ins x r
def srt : List Int → List Int
  | [] => []
  | x :: r => ins x (srt r)
def bSorted : List D → Option T
  | [.lst l] => (allI l).map fun ns => .lst (ims ((srt ns).map D.int))
  | [.rol l] => (allI l).map fun ns => .lst (ims ((srt ns).map D.int))
  | _ => none
/-- list(reversed(x)) -/
def fRev : D → Option T
  | .lst l => some (.lst (ims l.reverse))
  | .tup l => some (.lst (ims l.reverse))
  | .rol l => some (.lst (ims l.reverse))
  | _ => none
inductive Ki where
  | int | bl | str | tup | lst
/-- isinstance -/
def fIsi (k : Ki) : D → Option T
  | .non => some1 (.bl false)
  | .bl _ => some1 (.bl (match k with | .int => true | .bl => true | _ => false))
  | .int _ => some1 (.bl (match k with | .int => true | _ => false))
  | .str _ => some1 (.bl (match k with | .str => true | _ => false))
  | .tup _ => some1 (.bl (match k with | .tup => true | _ => false))
  | .lst _ => some1 (.bl (match k with | .lst => true | _ => false))
  | _ => none
def allS : List D → Option (List Str)
  | [] => some []
  | .str i :: r => (allS r).map (i :: ·)
  | _ => none
def fJoin (a : Str) : D → Option T
  | .lst l => match allS l with
    | some ys => if (ys.map (·.length)).sum + ys.length * a.length ≤ line then some1 (.str (Txt.join a ys)) else none
    | none => none
  | _ => none
/-- a text's method of one argument -/
def sStr1 (f : Str → D → Option T) (a b : Sm T) : Sm T := Sm.bind a fun x => match x.toD with
  | .str s => Sm.bind b fun y => Sm.ofO (f s y.toD)
  | _ => fun _ => .no
abbrev Sa := Sm (List T × List (Option Nat))
def aNil : Sa := fun st => .ok ([], []) st
def aVal (m : Sm T) (r : Sa) : Sa := Sm.bind m fun t => Sm.bind r fun p st => .ok (t :: p.1, none :: p.2) st
/-- a name's own thing lent to the callee -/
def aLend (i : Nat) (r : Sa) : Sa := fun st => match st[i]? with
  | some (some t) => (r (st.set i none)).bind fun p st' => .ok (t :: p.1, some i :: p.2) st'
  | _ => .no
def sTup (a : Sa) : Sm T := Sm.bind a fun p st => if p.1.length ≤ 1000 then .ok (.imm (.tup (T.toDs p.1))) st else .no
def sLst (a : Sa) : Sm T := Sm.bind a fun p st => if p.1.length ≤ 1000 then .ok (.lst p.1) st else .no
/-- a builtin's call on data -/
def sBlt (f : List D → Option T) (a : Sa) : Sm T := Sm.bind a fun p => Sm.ofO (f (T.toDs p.1))
/-- the lent things come back -/
def wb : List (Option Nat) → List (Option T) → St → St
  | some i :: ls, p :: ps, st => wb ls ps (st.set i p)
  | none :: ls, _ :: ps, st => wb ls ps st
  | _, _, st => st
def sCall (f : Fn) (a : Sa) : Sm T := Sm.bind a fun p st => match f p.1 with
  | .no => .no
  | .ret t ps => .ok t (wb p.2 ps st)
  | .ex x ps => .ex x (wb p.2 ps st)
mutual
/-- a value that holds no place in the heap but its own -/
def T.scal : T → Bool
  | .imm .non => true
  | .imm (.bl _) => true
  | .imm (.int _) => true
  | .imm (.str _) => true
  | .lst l => T.scalL l
  | _ => false
def T.scalL : List T → Bool
  | [] => true
  | t :: r => t.scal && T.scalL r
end
def frzSt (st : St) : St := st.map (Option.map fun t => T.imm t.toD)
/-- worked out while all that is owned is data; behind it all is as it was -/
def sView (m : Sm T) : Sm T := fun st => match m (frzSt st) with
  | .ok t _ => if t.scal then .ok t st else .no
  | _ => .no
def sViewB (m : Sm Bool) : Sm Bool := fun st => match m (frzSt st) with
  | .ok b _ => .ok b st
  | _ => .no
def sTest (m : Sm T) : Sm Bool := Sm.bind m fun t st => match t.toD with
  | .bl b => .ok b st
  | _ => .no
def bAnd (a b : Sm Bool) : Sm Bool := Sm.bind a fun x => if x then b else Sm.pure false
def bOr (a b : Sm Bool) : Sm Bool := Sm.bind a fun x => if x then Sm.pure true else b
def bNot (a : Sm Bool) : Sm Bool := Sm.bind a fun x => Sm.pure (!x)
def sAndV (a b : Sm T) : Sm T := Sm.bind (sTest a) fun x => if x then b else Sm.pure (.imm (.bl false))
def sOrV (a b : Sm T) : Sm T := Sm.bind (sTest a) fun x => if x then Sm.pure (.imm (.bl true)) else b
def sNotV (a : Sm T) : Sm T := Sm.bind (sTest a) fun x => Sm.pure (.imm (.bl (!x)))
def sSet (i : Nat) (e : Sm T) : Ss := Sm.bind e fun t st => .ok .nx (st.set i (some t))
/-- a name that is never changed by place: data at once -/
def sSetF (i : Nat) (e : Sm T) : Ss := Sm.bind e fun t st => .ok .nx (st.set i (some (.imm t.toD)))
abbrev Pat := D → St → Option St
def gName (i : Nat) : Pat := fun d st => some (st.set i (some (.imm d)))
def gAll : List Pat → List D → St → Option St
  | [], [], st => some st
  | p :: ps, d :: ds, st => (p d st).bind (gAll ps ds)
  | _, _, _ => none
def gTup (ps : List Pat) : Pat := fun d st => match d with
  | .tup l => gAll ps l st
  | _ => none
/-- a list's items in as many names -/
def gUnp (ps : List Pat) : Pat := fun d st => match d with
  | .lst l => gAll ps l st
  | _ => none
def sAsg (g : Pat) (e : Sm T) : Ss := Sm.bind e fun t st => match g t.toD st with
  | some st' => .ok .nx st'
  | none => .no
def sExpr (e : Sm T) : Ss := Sm.bind e fun _ st => .ok .nx st
def sRet (e : Sm T) : Ss := Sm.bind e fun t st => .ok (.rt t) st
def sRetN : Ss := fun st => .ok (.rt (.imm .non)) st
def sPass : Ss := fun st => .ok .nx st
def sBreak : Ss := fun st => .ok .bk st
def sNever : Ss := fun _ => .no
def sSeq (a b : Ss) : Ss := Sm.bind a fun f st => match f with
  | .nx => b st
  | f => .ok f st
def sIf (c : Sm Bool) (a b : Ss) : Ss := Sm.bind c fun x => if x then a else b
def sAug (i : Nat) (f : D → D → Option T) (e : Sm T) : Ss := fun st => match st[i]? with
  | some (some (.imm d)) => (e st).bind fun y st' => match f d y.toD with
    | some t => .ok .nx (st'.set i (some (.imm t.toD)))
    | none => .no
  | _ => .no
/-- x.m(e): the list that x holds is changed by f -/
def sMeth (i : Nat) (f : List T → List T → Option (List T × T)) (a : Sa) : Sm T := fun st => match st[i]? with
  | some (some (.lst _)) => (a st).bind fun p st => match st[i]? with
    | some (some (.lst l)) => match f l p.1 with
      | some (t', r) => .ok r (st.set i (some (.lst t')))
      | none => .no
    | _ => .no
  | _ => .no
def mAppend : List T → List T → Option (List T × T)
  | l, [t] => if l.length < line then some (l ++ [t], .imm .non) else none
  | _, _ => none
def mExtend : List T → List T → Option (List T × T)
  | l, [t] => match t.toD with
    | .lst r => if l.length + r.length ≤ line then some (l ++ ims r, .imm .non) else none
    | _ => none
  | _, _ => none
def mPop : List T → List T → Option (List T × T)
  | l, [] => match l[l.length - 1]? with
    | some t => some (l.dropLast, t)
    | none => none
  | _, _ => none
/-- x.pop(0) -/
def mPop0 : List T → List T → Option (List T × T)
  | t0 :: r, [.imm (.int 0)] => some (r, t0)
  | _, _ => none
def mClear : List T → List T → Option (List T × T)
  | _, [] => some ([], .imm .non)
  | _, _ => none
def loopFor (g : Pat) (body : Ss) : List D → Ss
  | [] => fun st => .ok .nx st
  | d :: r => fun st => match g d st with
    | none => .no
    | some st1 => (body st1).bind fun f st2 => match f with
      | .nx => loopFor g body r st2
      | .ct => loopFor g body r st2
      | .bk => .ok .nx st2
      | .rt t => .ok (.rt t) st2
abbrev Si := Sm (List D)
def noxS (m : Ss) : Ss := fun st => match m st with
  | .ok a st' => .ok a st'
  | _ => .no
def sFor (src : Si) (g : Pat) (body : Ss) : Ss := Sm.bind src fun ds => loopFor g body ds
def iList (m : Sm T) : Si := Sm.bind m fun t st => match t.toD with
  | .lst l => .ok l st
  | .rol l => .ok l st
  | _ => .no
def iTup (m : Sm T) : Si := Sm.bind m fun t st => match t.toD with
  | .tup l => .ok l st
  | _ => .no
def iStr (m : Sm T) : Si := Sm.bind m fun t st => match t.toD with
  | .str s => .ok (s.cps.toList.map fun c => .str ⟨#[c]⟩) st
  | _ => .no
def enumD : Nat → List D → List D
  | _, [] => []
  | n, d :: r => .tup [.int n, d] :: enumD (n + 1) r
def iEnum (m : Sm T) : Si := Sm.bind m fun t st => match t.toD with
  | .lst l => .ok (enumD 0 l) st
  | .rol l => .ok (enumD 0 l) st
  | _ => .no
def zipD : List D → List D → List D
  | a :: r, b :: s => .tup [a, b] :: zipD r s
  | _, _ => []
def iZip (a b : Sm T) : Si := Sm.bind a fun x => Sm.bind b fun y st => match x.toD, y.toD with
  | .lst l, .lst m => .ok (zipD l m) st
  | _, _ => .no
def iRev (m : Sm T) : Si := Sm.bind m fun t st => match t.toD with
  | .lst l => .ok l.reverse st
  | .rol l => .ok l.reverse st
  | .tup l => .ok l.reverse st
  | _ => .no
/-- the keys of the dict that a name holds -/
def iDct (i : Nat) : Si := Sm.bind (sVar i) fun t st => match t.toD with
  | .dct false kvs => .ok (kvs.map (·.1)) st
  | _ => .no
/-- lo, lo + c, ..: n of them -/
def rng (lo c : Int) : Nat → List D
  | 0 => []
  | n + 1 => .int lo :: rng (lo + c) c n
def small (i : Int) : Bool := decide (-1000000000 ≤ i) && decide (i ≤ 1000000000)
def rng1 : List D → Option (List D)
  | [.int n] => if small n then some (rng 0 1 n.toNat) else none
  | _ => none
def rng2 : List D → Option (List D)
  | [.int a, .int b] => if small a && small b then some (rng a 1 (b - a).toNat) else none
  | _ => none
def rng3 : List D → Option (List D)
  | [.int a, .int b, .int c] => if small a && small b && small c && decide (0 < c) then some (rng a c (if a < b then (b - a - 1) / c + 1 else 0).toNat) else none
  | _ => none
def iRange (f : List D → Option (List D)) (a : Sa) : Si := Sm.bind a fun p => Sm.ofO (f (T.toDs p.1))
/-- at most n turns -/
def loopW (c : Sm Bool) (body : Ss) : Nat → Ss
  | 0 => fun _ => .no
  | n + 1 => Sm.bind c fun b => if b then Sm.bind body fun f => match f with
      | .nx => loopW c body n
      | .ct => loopW c body n
      | .bk => fun st => .ok .nx st
      | .rt t => fun st => .ok (.rt t) st
    else fun st => .ok .nx st
/-- [elt for g in src if tests]: own: the slots of its own names -/
def wipe (st : St) : List Nat → St
  | [] => st
  | v :: vs => (wipe st vs).set v none
def back (st : St) : List Nat → St → St
  | [], s => s
  | v :: vs, s => back st vs (s.set v ((wipe st vs)[v]?.getD none))
/-- what raises is not told -/
def nox {α : Type} (m : Sm α) : Sm α := fun st => match m st with
  | .ok a st' => .ok a st'
  | _ => .no
def loopLC (own : List Nat) (g : Pat) (test : Sm Bool) (elt : Sm T) : List D → List T → Sm (List T)
  | [], acc => fun st => .ok acc st
  | d :: r, acc => fun st => match g d st with
    | none => .no
    | some st1 => (nox test st1).bind fun b st2 =>
      if b then (nox elt st2).bind fun t st3 => if acc.length < line then loopLC own g test elt r (acc ++ [t]) (wipe st3 own) else .no
      else loopLC own g test elt r acc (wipe st2 own)
def bYes : Sm Bool := fun st => .ok true st
def sLC (own : List Nat) (src : Si) (g : Pat) (test : Sm Bool) (elt : Sm T) : Sm T := Sm.bind src fun ds st =>
  (loopLC own g test elt ds [] (wipe st own)).bind fun l st' => .ok (.lst l) (back st own st')
/-- the parameters fx as they are in the end -/
def fin (fx : List Nat) : Nat → Nat → St → List (Option T)
  | _, 0, _ => []
  | i, n + 1, [] => none :: fin fx (i + 1) n []
  | i, n + 1, o :: st => (if i ∈ fx then o else none) :: fin fx (i + 1) n st
/-- a def: its parameters, the number of its names, the parameters that are never stored anew, its body -/
def sDef (np n : Nat) (fx : List Nat) (body : Ss) : Fn := fun ts =>
  if ts.length = np then match body (ts.map some ++ List.replicate (n - np) none) with
    | .no => .no
    | .ex x st => .ex x (fin fx 0 np st)
    | .ok .nx st => .ret (.imm .non) (fin fx 0 np st)
    | .ok (.rt t) st => .ret t (fin fx 0 np st)
    | .ok _ _ => .no
  else .no
end G
set_option Elab.async false
set_option linter.all false
set_option maxRecDepth 100000
namespace G
open PySem L2
/-- where the classes of the program and of its errors stand -/
structure Wh where
  K : PySem.W.Frag
  cl : Nat → Addr
  xc : Nat → Addr
def Sub (B H : Hp) : Prop := ∀ a o, B a = some o → H a = some o
theorem Sub.refl (B : Hp) : Sub B B := fun _ _ h => h
theorem Sub.trans {A B C : Hp} (x : Sub A B) (y : Sub B C) : Sub A C := fun a o h => y a o (x a o h)
theorem Sub.rd {B H : Hp} {a : Addr} {u : HO} (e : Sub B H) (h : Rd B a u) : Rd H a u := by
  rcases h with h | ⟨o, h⟩
  · exact Or.inl (e a _ h)
  · exact Or.inr ⟨o, e a _ h⟩
theorem Sub.sl {K : PySem.W.Frag} {B H : Hp} {a : Addr} {xs : List V} (e : Sub B H) (h : SqL K B a xs) : SqL K H a xs := by
  rcases h with h | h
  · exact Or.inl (e.rd h)
  · exact Or.inr h
theorem Sub.st {K : PySem.W.Frag} {B H : Hp} {a : Addr} {xs : List V} (e : Sub B H) (h : SqT K B a xs) : SqT K H a xs := by
  rcases h with h | h
  · exact Or.inl (e.rd h)
  · exact Or.inr h
theorem Sub.put {B H : Hp} {p : Addr} {o : HO} (e : Sub B H) (h : B p = none) : Sub B (upd H p o) := fun a u ha => by
  rw [upd_ne (ne_of_none ha h)]
  exact e a u ha
theorem Sub.new {H : Hp} {p : Addr} {o : HO} (h : H p = none) : Sub H (upd H p o) := (Sub.refl H).put h
theorem Sub.none {B H : Hp} {p : Addr} (e : Sub B H) (h : H p = none) : B p = none := by
  cases q : B p with
  | none => rfl
  | some o => rw [e p o q] at h; cases h
def keyD : Key → D
  | .inl i => .int i
  | .inr s => .str s
/-- at a: an exception that was caught, of the class cls, its fields at d -/
def ExV (cls : Value) (d : Option Addr) (a : Addr) : HO := .ext fun h => ∃ (oe : Obj) (us : Array Value), h.get? a = some oe ∧ oe.cls = cls ∧ oe.dict = d ∧ oe.data = .fields us
/-- its fields -/
def ExD (B : Hp) : Option Addr → List (Str × V) → Prop
  | none, vs => vs = []
  | some a, vs => B a = some (.xd vs)
theorem ExD.mono {B H : Hp} (e : Sub B H) : ∀ {d : Option Addr} {vs : List (Str × V)}, ExD B d vs → ExD H d vs
  | none, _, h => h
  | some _, _, h => e _ _ h
variable (Γ : Wh)
mutual
/-- v is d, by objects of B -/
inductive Rp (B : Hp) : V → D → Prop
  | non : Rp B .non .non
  | bl (b : Bool) : Rp B (.bl b) (.bl b)
  | int (i : Int) : Rp B (.int i) (.int i)
  | str (s : Str) : Rp B (.str s) (.str s)
  | tup {a : Addr} {vs : List V} {l : List D} : B a = some (.tup vs) → RpL B vs l → Rp B (.ref a) (.tup l)
  | lst {a : Addr} {vs : List V} {l : List D} : B a = some (.lst vs) → RpL B vs l → Rp B (.ref a) (.lst l)
  | rol {a : Addr} {vs : List V} {l : List D} : SqL Γ.K B a vs → RpL B vs l → Rp B (.ref a) (.rol l)
  | dK {a : Addr} {vs : List (Key × V)} {l : List (D × D)} : Rd B a (.dK vs) → (vs.map (·.1)).Nodup → RpK B vs l → Rp B (.ref a) (.dct false l)
  | dT {a : Addr} {vs : List (List Key × V)} {l : List (D × D)} : Rd B a (.dT vs) → (vs.map (·.1)).Nodup → RpU B vs l → Rp B (.ref a) (.dct true l)
  | obj {a dx : Addr} {c : Nat} {vs : List (Str × V)} {l : List (Str × D)} : B a = some (.ins (Γ.cl c) dx vs) → RpF B vs l → Rp B (.ref a) (.obj c l)
  | exn {a : Addr} {d : Option Addr} {c : Nat} {vs : List (Str × V)} {l : List (Str × D)} : B a = some (ExV (.ref (Γ.xc c)) d a) → ExD B d vs → RpF B vs l → Rp B (.ref a) (.exn c l)
inductive RpL (B : Hp) : List V → List D → Prop
  | nil : RpL B [] []
  | cons {v : V} {d : D} {vs : List V} {l : List D} : Rp B v d → RpL B vs l → RpL B (v :: vs) (d :: l)
inductive RpK (B : Hp) : List (Key × V) → List (D × D) → Prop
  | nil : RpK B [] []
  | cons {k : Key} {v : V} {d : D} {vs : List (Key × V)} {l : List (D × D)} : Rp B v d → RpK B vs l → RpK B ((k, v) :: vs) ((keyD k, d) :: l)
inductive RpU (B : Hp) : List (List Key × V) → List (D × D) → Prop
  | nil : RpU B [] []
  | cons {k : List Key} {v : V} {d : D} {vs : List (List Key × V)} {l : List (D × D)} : Rp B v d → RpU B vs l → RpU B ((k, v) :: vs) ((.tup (k.map keyD), d) :: l)
inductive RpF (B : Hp) : List (Str × V) → List (Str × D) → Prop
  | nil : RpF B [] []
  | cons {k : Str} {v : V} {d : D} {vs : List (Str × V)} {l : List (Str × D)} : Rp B v d → RpF B vs l → RpF B ((k, v) :: vs) ((k, d) :: l)
end
mutual
theorem Rp.mono {B H : Hp} (e : Sub B H) : ∀ {v : V} {d : D}, Rp Γ B v d → Rp Γ H v d
  | _, _, .non => .non
  | _, _, .bl b => .bl b
  | _, _, .int b => .int b
  | _, _, .str b => .str b
  | _, _, .tup h r => .tup (e _ _ h) (RpL.mono e r)
  | _, _, .lst h r => .lst (e _ _ h) (RpL.mono e r)
  | _, _, .rol h r => .rol (e.sl h) (RpL.mono e r)
  | _, _, .dK h n r => .dK (e.rd h) n (RpK.mono e r)
  | _, _, .dT h n r => .dT (e.rd h) n (RpU.mono e r)
  | _, _, .obj h r => .obj (e _ _ h) (RpF.mono e r)
  | _, _, .exn h k r => .exn (e _ _ h) (k.mono e) (RpF.mono e r)
theorem RpL.mono {B H : Hp} (e : Sub B H) : ∀ {v : List V} {d : List D}, RpL Γ B v d → RpL Γ H v d
  | _, _, .nil => .nil
  | _, _, .cons h r => .cons (Rp.mono e h) (RpL.mono e r)
theorem RpK.mono {B H : Hp} (e : Sub B H) : ∀ {v : List (Key × V)} {d : List (D × D)}, RpK Γ B v d → RpK Γ H v d
  | _, _, .nil => .nil
  | _, _, .cons h r => .cons (Rp.mono e h) (RpK.mono e r)
theorem RpU.mono {B H : Hp} (e : Sub B H) : ∀ {v : List (List Key × V)} {d : List (D × D)}, RpU Γ B v d → RpU Γ H v d
  | _, _, .nil => .nil
  | _, _, .cons h r => .cons (Rp.mono e h) (RpU.mono e r)
theorem RpF.mono {B H : Hp} (e : Sub B H) : ∀ {v : List (Str × V)} {d : List (Str × D)}, RpF Γ B v d → RpF Γ H v d
  | _, _, .nil => .nil
  | _, _, .cons h r => .cons (Rp.mono e h) (RpF.mono e r)
end
mutual
/-- v is the owned tree t: its own objects F in H, the data in B -/
inductive Ow (B H : Hp) : V → T → List Addr → Prop
  | imm {v : V} {d : D} : Rp Γ B v d → Ow B H v (.imm d) []
  | lst {a : Addr} {vs : List V} {l : List T} {F : List Addr} : H a = some (.lst vs) → OwL B H vs l F → Ow B H (.ref a) (.lst l) (a :: F)
  | dK {a : Addr} {vs : List (Key × V)} {l : List (D × T)} {F : List Addr} : H a = some (.dK vs) → (vs.map (·.1)).Nodup → OwK B H vs l F → Ow B H (.ref a) (.dct false l) (a :: F)
  | dT {a : Addr} {vs : List (List Key × V)} {l : List (D × T)} {F : List Addr} : H a = some (.dT vs) → (vs.map (·.1)).Nodup → OwU B H vs l F → Ow B H (.ref a) (.dct true l) (a :: F)
  | obj {a dx : Addr} {c : Nat} {vs : List (Str × V)} {l : List (Str × T)} {F : List Addr} : H a = some (.ins (Γ.cl c) dx vs) → H dx = some (.own a) → OwF B H vs l F → Ow B H (.ref a) (.obj c l) (a :: dx :: F)
  | tup {a : Addr} {vs : List V} {l : List T} {F : List Addr} : B a = some (.tup vs) → OwL B H vs l F → Ow B H (.ref a) (.tup l) F
inductive OwL (B H : Hp) : List V → List T → List Addr → Prop
  | nil : OwL B H [] [] []
  | cons {v : V} {t : T} {vs : List V} {l : List T} {F F' : List Addr} : Ow B H v t F → OwL B H vs l F' → OwL B H (v :: vs) (t :: l) (F ++ F')
inductive OwK (B H : Hp) : List (Key × V) → List (D × T) → List Addr → Prop
  | nil : OwK B H [] [] []
  | cons {k : Key} {v : V} {t : T} {vs : List (Key × V)} {l : List (D × T)} {F F' : List Addr} : Ow B H v t F → OwK B H vs l F' → OwK B H ((k, v) :: vs) ((keyD k, t) :: l) (F ++ F')
inductive OwU (B H : Hp) : List (List Key × V) → List (D × T) → List Addr → Prop
  | nil : OwU B H [] [] []
  | cons {k : List Key} {v : V} {t : T} {vs : List (List Key × V)} {l : List (D × T)} {F F' : List Addr} : Ow B H v t F → OwU B H vs l F' → OwU B H ((k, v) :: vs) ((.tup (k.map keyD), t) :: l) (F ++ F')
inductive OwF (B H : Hp) : List (Str × V) → List (Str × T) → List Addr → Prop
  | nil : OwF B H [] [] []
  | cons {k : Str} {v : V} {t : T} {vs : List (Str × V)} {l : List (Str × T)} {F F' : List Addr} : Ow B H v t F → OwF B H vs l F' → OwF B H ((k, v) :: vs) ((k, t) :: l) (F ++ F')
end
section
variable {Γ}
variable {B H B' H' : Hp}
/-- its own objects stand as they stood -/
def At (H H' : Hp) (F : List Addr) : Prop := ∀ a ∈ F, ∀ o, H a = some o → H' a = some o
theorem At.l {F G : List Addr} (h : At H H' (F ++ G)) : At H H' F := fun a m => h a (List.mem_append_left _ m)
theorem At.r {F G : List Addr} (h : At H H' (F ++ G)) : At H H' G := fun a m => h a (List.mem_append_right _ m)
theorem At.t {a : Addr} {F : List Addr} (h : At H H' (a :: F)) : At H H' F := fun b m => h b (List.mem_cons_of_mem _ m)
theorem At.h {a : Addr} {F : List Addr} (h : At H H' (a :: F)) {o : HO} (e : H a = some o) : H' a = some o := h a List.mem_cons_self o e
mutual
theorem Ow.at (e : Sub B B') : ∀ {v : V} {t : T} {F : List Addr}, Ow Γ B H v t F → At H H' F → Ow Γ B' H' v t F
  | _, _, _, .imm h, _ => .imm (h.mono Γ e)
  | _, _, _, .lst h r, k => .lst (k.h h) (OwL.at e r k.t)
  | _, _, _, .dK h n r, k => .dK (k.h h) n (OwK.at e r k.t)
  | _, _, _, .dT h n r, k => .dT (k.h h) n (OwU.at e r k.t)
  | _, _, _, .obj h i r, k => .obj (k.h h) (k.t.h i) (OwF.at e r k.t.t)
  | _, _, _, .tup h r, k => .tup (e _ _ h) (OwL.at e r k)
theorem OwL.at (e : Sub B B') : ∀ {v : List V} {t : List T} {F : List Addr}, OwL Γ B H v t F → At H H' F → OwL Γ B' H' v t F
  | _, _, _, .nil, _ => .nil
  | _, _, _, .cons h r, k => .cons (Ow.at e h k.l) (OwL.at e r k.r)
theorem OwK.at (e : Sub B B') : ∀ {v : List (Key × V)} {t : List (D × T)} {F : List Addr}, OwK Γ B H v t F → At H H' F → OwK Γ B' H' v t F
  | _, _, _, .nil, _ => .nil
  | _, _, _, .cons h r, k => .cons (Ow.at e h k.l) (OwK.at e r k.r)
theorem OwU.at (e : Sub B B') : ∀ {v : List (List Key × V)} {t : List (D × T)} {F : List Addr}, OwU Γ B H v t F → At H H' F → OwU Γ B' H' v t F
  | _, _, _, .nil, _ => .nil
  | _, _, _, .cons h r, k => .cons (Ow.at e h k.l) (OwU.at e r k.r)
theorem OwF.at (e : Sub B B') : ∀ {v : List (Str × V)} {t : List (Str × T)} {F : List Addr}, OwF Γ B H v t F → At H H' F → OwF Γ B' H' v t F
  | _, _, _, .nil, _ => .nil
  | _, _, _, .cons h r, k => .cons (Ow.at e h k.l) (OwF.at e r k.r)
end
mutual
/-- as data, where its own objects stand in B' too -/
theorem Ow.frz (e : Sub B B') : ∀ {v : V} {t : T} {F : List Addr}, Ow Γ B H v t F → At H B' F → Rp Γ B' v t.toD
  | _, _, _, .imm h, _ => h.mono Γ e
  | _, _, _, .lst h r, k => .lst (k.h h) (OwL.frz e r k.t)
  | _, _, _, .dK h n r, k => .dK (.inl (k.h h)) n (OwK.frz e r k.t)
  | _, _, _, .dT h n r, k => .dT (.inl (k.h h)) n (OwU.frz e r k.t)
  | _, _, _, .obj h i r, k => .obj (k.h h) (OwF.frz e r k.t.t)
  | _, _, _, .tup h r, k => .tup (e _ _ h) (OwL.frz e r k)
theorem OwL.frz (e : Sub B B') : ∀ {v : List V} {t : List T} {F : List Addr}, OwL Γ B H v t F → At H B' F → RpL Γ B' v (T.toDs t)
  | _, _, _, .nil, _ => .nil
  | _, _, _, .cons h r, k => .cons (Ow.frz e h k.l) (OwL.frz e r k.r)
theorem OwK.frz (e : Sub B B') : ∀ {v : List (Key × V)} {t : List (D × T)} {F : List Addr}, OwK Γ B H v t F → At H B' F → RpK Γ B' v (T.toKs t)
  | _, _, _, .nil, _ => .nil
  | _, _, _, .cons h r, k => .cons (Ow.frz e h k.l) (OwK.frz e r k.r)
theorem OwU.frz (e : Sub B B') : ∀ {v : List (List Key × V)} {t : List (D × T)} {F : List Addr}, OwU Γ B H v t F → At H B' F → RpU Γ B' v (T.toKs t)
  | _, _, _, .nil, _ => .nil
  | _, _, _, .cons h r, k => .cons (Ow.frz e h k.l) (OwU.frz e r k.r)
theorem OwF.frz (e : Sub B B') : ∀ {v : List (Str × V)} {t : List (Str × T)} {F : List Addr}, OwF Γ B H v t F → At H B' F → RpF Γ B' v (T.toFs t)
  | _, _, _, .nil, _ => .nil
  | _, _, _, .cons h r, k => .cons (Ow.frz e h k.l) (OwF.frz e r k.r)
end
/-- what may be changed stands there: no tuple -/
def Cel (H : Hp) (a : Addr) : Prop := ∃ o, H a = some o ∧ ∀ xs, o ≠ .tup xs
theorem Cel.ne {a : Addr} (h : Cel H a) : H a ≠ none := fun z => by
  obtain ⟨o, h, _⟩ := h
  rw [h] at z; cases z
theorem Cel.no {a : Addr} (h : H a = none) : ¬ Cel H a := fun z => z.ne h
theorem Cel.at {a : Addr} {F : List Addr} (h : Cel H a) (k : At H H' F) (m : a ∈ F) : Cel H' a := by
  obtain ⟨o, h, n⟩ := h
  exact ⟨o, k a m o h, n⟩
mutual
/-- its own objects are there -/
theorem Ow.there : ∀ {v : V} {t : T} {F : List Addr}, Ow Γ B H v t F → ∀ a ∈ F, Cel H a
  | _, _, _, .imm h, _, m => nomatch m
  | _, _, _, .lst h r, a, m => by
    rcases List.mem_cons.mp m with rfl | m
    · exact ⟨_, h, fun _ z => by cases z⟩
    · exact OwL.there r a m
  | _, _, _, .dK h n r, a, m => by
    rcases List.mem_cons.mp m with rfl | m
    · exact ⟨_, h, fun _ z => by cases z⟩
    · exact OwK.there r a m
  | _, _, _, .dT h n r, a, m => by
    rcases List.mem_cons.mp m with rfl | m
    · exact ⟨_, h, fun _ z => by cases z⟩
    · exact OwU.there r a m
  | _, _, _, .obj h i r, a, m => by
    rcases List.mem_cons.mp m with rfl | m
    · exact ⟨_, h, fun _ z => by cases z⟩
    · rcases List.mem_cons.mp m with rfl | m
      · exact ⟨_, i, fun _ z => by cases z⟩
      · exact OwF.there r a m
  | _, _, _, .tup h r, a, m => OwL.there r a m
theorem OwL.there : ∀ {v : List V} {t : List T} {F : List Addr}, OwL Γ B H v t F → ∀ a ∈ F, Cel H a
  | _, _, _, .nil, _, m => nomatch m
  | _, _, _, .cons h r, a, m => (List.mem_append.mp m).elim (Ow.there h a) (OwL.there r a)
theorem OwK.there : ∀ {v : List (Key × V)} {t : List (D × T)} {F : List Addr}, OwK Γ B H v t F → ∀ a ∈ F, Cel H a
  | _, _, _, .nil, _, m => nomatch m
  | _, _, _, .cons h r, a, m => (List.mem_append.mp m).elim (Ow.there h a) (OwK.there r a)
theorem OwU.there : ∀ {v : List (List Key × V)} {t : List (D × T)} {F : List Addr}, OwU Γ B H v t F → ∀ a ∈ F, Cel H a
  | _, _, _, .nil, _, m => nomatch m
  | _, _, _, .cons h r, a, m => (List.mem_append.mp m).elim (Ow.there h a) (OwU.there r a)
theorem OwF.there : ∀ {v : List (Str × V)} {t : List (Str × T)} {F : List Addr}, OwF Γ B H v t F → ∀ a ∈ F, Cel H a
  | _, _, _, .nil, _, m => nomatch m
  | _, _, _, .cons h r, a, m => (List.mem_append.mp m).elim (Ow.there h a) (OwF.there r a)
end
end
end G
set_option Elab.async false
set_option linter.all false
set_option maxRecDepth 100000
namespace G
open PySem L2
variable (Γ : Wh)
/-- the names' values are what st tells; F: all that is owned -/
inductive Sl (B H : Hp) : L2.St → G.St → List Addr → Prop
  | nil : Sl B H [] [] []
  | skip {x : Option V} {σ : L2.St} {st : G.St} {F : List Addr} : Sl B H σ st F → Sl B H (x :: σ) (none :: st) F
  | cons {v : V} {t : T} {σ : L2.St} {st : G.St} {F G : List Addr} : Ow Γ B H v t G → Sl B H σ st F → Sl B H (some v :: σ) (some t :: st) (G ++ F)
structure Stt (B H : Hp) (σ : L2.St) (st : G.St) (F : List Addr) : Prop where
  ex : Sub B H
  sl : Sl Γ B H σ st F
  nd : F.Nodup
  fr : ∀ a ∈ F, B a = none
/-- from heap H (data in B, owned F) to H' (B', F') -/
structure Upd (B H : Hp) (F : List Addr) (B' H' : Hp) (F' : List Addr) : Prop where
  b : Sub B B'
  keep : ∀ a o, H a = some o → a ∉ F → H' a = some o
  dom : ∀ a, H a ≠ none → H' a ≠ none
  new : ∀ a ∈ F', a ∈ F ∨ H a = none
  frz : ∀ a o, B' a = some o → B a = some o ∨ a ∈ F ∨ ¬ Cel H a
section
variable {Γ}
variable {B H B' H' B1 H1 B2 H2 : Hp} {σ : L2.St} {st : G.St} {F F' F1 F2 F3 F4 G' : List Addr}
theorem Upd.refl : Upd B H F B H F := ⟨Sub.refl B, fun _ _ h _ => h, fun _ h => h, fun _ h => .inl h, fun _ _ h => .inl h⟩
theorem Upd.back (u : Upd B H F B' H' F') {a : Addr} (h : H' a = none) : H a = none := by
  cases q : H a with
  | none => rfl
  | some o => exact absurd h (u.dom a (by rw [q]; exact fun z => by cases z))
theorem Upd.comp (u : Upd B H F B1 H1 F1) (w : Upd B1 H1 F2 B2 H2 F3) (s : ∀ a ∈ F2, a ∈ F1) (t : ∀ a ∈ F4, a ∈ F3 ∨ a ∈ F1) : Upd B H F B2 H2 F4 where
  b := u.b.trans w.b
  keep := fun a o h n => w.keep a o (u.keep a o h n) fun m => by
    rcases u.new a (s a m) with q | q
    · exact n q
    · rw [q] at h; cases h
  dom := fun a h => w.dom a (u.dom a h)
  new := fun a m => by
    rcases t a m with m | m
    · rcases w.new a m with q | q
      · exact u.new a (s a q)
      · exact .inr (u.back q)
    · exact u.new a m
  frz := fun a o h => by
    rcases w.frz a o h with q | q | q
    · exact u.frz a o q
    · exact .inr ((u.new a (s a q)).imp id Cel.no)
    · by_cases m : a ∈ F
      · exact .inr (.inl m)
      · refine .inr (.inr fun z => q ?_)
        obtain ⟨o, h1, h2⟩ := z
        exact ⟨o, u.keep a o h1 m, h2⟩
theorem Upd.trans (u : Upd B H F B1 H1 F1) (w : Upd B1 H1 F1 B2 H2 F2) : Upd B H F B2 H2 F2 := u.comp w (fun _ h => h) fun _ h => .inl h
theorem Upd.weak (u : Upd B H F B1 H1 F1) (s : ∀ a ∈ F2, a ∈ F1) : Upd B H F B1 H1 F2 := ⟨u.b, u.keep, u.dom, fun a m => u.new a (s a m), u.frz⟩
/-- what is owned aside of F stands -/
theorem Upd.at (u : Upd B H F B' H' F') (d : ∀ a ∈ G', a ∉ F) : At H H' G' := fun a m o h => u.keep a o h (d a m)
theorem Upd.frB (u : Upd B H F B' H' F') (d : ∀ a ∈ G', a ∉ F) (f : ∀ a ∈ G', B a = none) (t : ∀ a ∈ G', Cel H a) : ∀ a ∈ G', B' a = none := fun a m => by
  cases q : B' a with
  | none => rfl
  | some o =>
    rcases u.frz a o q with z | z | z
    · rw [f a m] at z; cases z
    · exact (d a m z).elim
    · exact (z (t a m)).elim
theorem Upd.apart (u : Upd B H F B' H' F') (d : ∀ a ∈ G', a ∉ F) (t : ∀ a ∈ G', Cel H a) : ∀ a ∈ G', a ∉ F' := fun a m z => by
  rcases u.new a z with q | q
  · exact d a m q
  · exact (t a m).ne q
theorem nd_app {A C : List Addr} : (A ++ C).Nodup ↔ A.Nodup ∧ C.Nodup ∧ ∀ a ∈ A, a ∉ C := by
  rw [List.nodup_append]
  exact ⟨fun ⟨a, b, c⟩ => ⟨a, b, fun x m z => c x m x z rfl⟩, fun ⟨a, b, c⟩ => ⟨a, b, fun x m y n e => c x m (e ▸ n)⟩⟩
theorem nd_mid1 {A C E : List Addr} (h : (A ++ (C ++ E)).Nodup) : (C ++ (A ++ E)).Nodup := by
  have h1 := nd_app.mp h
  have h2 := nd_app.mp h1.2.1
  refine nd_app.mpr ⟨h2.1, nd_app.mpr ⟨h1.1, h2.2.1, fun x m z => h1.2.2 x m (List.mem_append_right _ z)⟩, fun x m z => ?_⟩
  rcases List.mem_append.mp z with z | z
  · exact h1.2.2 x z (List.mem_append_left _ m)
  · exact h2.2.2 x m z
theorem nd_mid {A C E : List Addr} : (A ++ (C ++ E)).Nodup ↔ (C ++ (A ++ E)).Nodup := ⟨nd_mid1, nd_mid1⟩
theorem Sl.len (h : Sl Γ B H σ st F) : σ.length = st.length := by
  induction h with
  | nil => rfl
  | skip _ ih => simp [ih]
  | cons _ _ ih => simp [ih]
theorem Sl.at (e : Sub B B') (h : Sl Γ B H σ st F) : At H H' F → Sl Γ B' H' σ st F := by
  induction h with
  | nil => exact fun _ => .nil
  | skip _ ih => exact fun k => .skip (ih k)
  | cons o _ ih => exact fun k => .cons (o.at e k.l) (ih k.r)
theorem Sl.there (h : Sl Γ B H σ st F) : ∀ a ∈ F, Cel H a := by
  induction h with
  | nil => exact fun _ m => nomatch m
  | skip _ ih => exact ih
  | cons o _ ih => exact fun a m => (List.mem_append.mp m).elim (o.there a) (ih a)
/-- what stands at a name, and how it is stored anew -/
theorem Sl.open (h : Sl Γ B H σ st F) : ∀ {i : Nat}, i < st.length → ∃ F1 G F2, F = F1 ++ (G ++ F2) ∧ (∀ t, st[i]? = some (some t) → ∃ v, σ[i]? = some (some v) ∧ Ow Γ B H v t G) ∧
    ∀ B' H', Sub B B' → At H H' (F1 ++ F2) → (∀ v' t' G', Ow Γ B' H' v' t' G' → Sl Γ B' H' (σ.set i (some v')) (st.set i (some t')) (F1 ++ (G' ++ F2))) ∧ ∀ x, Sl Γ B' H' (σ.set i x) (st.set i none) (F1 ++ F2) := by
  induction h with
  | nil => intro i hi; exact absurd hi (Nat.not_lt_zero _)
  | @skip x σ st F hs ih =>
    intro i hi
    cases i with
    | zero =>
      refine ⟨[], [], F, rfl, fun t e => by simp at e, fun B' H' e k => ⟨fun v' t' G' o => ?_, fun x => ?_⟩⟩
      · show Sl Γ B' H' (some v' :: σ) (some t' :: st) (G' ++ F)
        exact .cons o (hs.at e k)
      · exact .skip (hs.at e k)
    | succ i =>
      obtain ⟨F1, G, F2, rfl, g, p⟩ := ih (i := i) (by simpa using hi)
      exact ⟨F1, G, F2, rfl, g, fun B' H' e k => ⟨fun v' t' G' o => .skip ((p B' H' e k).1 v' t' G' o), fun x => .skip ((p B' H' e k).2 x)⟩⟩
  | @cons v t σ st F G o hs ih =>
    intro i hi
    cases i with
    | zero =>
      refine ⟨[], G, F, rfl, fun t' e => ?_, fun B' H' e k => ⟨fun v' t' G' o => ?_, fun x => ?_⟩⟩
      · have e' : t = t' := by simpa using e
        subst e'
        exact ⟨v, rfl, o⟩
      · show Sl Γ B' H' (some v' :: σ) (some t' :: st) (G' ++ F)
        exact .cons o (hs.at e k)
      · exact .skip (hs.at e k)
    | succ i =>
      obtain ⟨F1, G', F2, rfl, g, p⟩ := ih (i := i) (by simpa using hi)
      refine ⟨G ++ F1, G', F2, by simp only [List.append_assoc], g, fun B' H' e k => ?_⟩
      rw [List.append_assoc] at k
      refine ⟨fun v' t' G2 o' => ?_, fun x => ?_⟩
      · rw [List.append_assoc]
        exact .cons (o.at e k.l) ((p B' H' e k.r).1 v' t' G2 o')
      · rw [List.append_assoc]
        exact .cons (o.at e k.l) ((p B' H' e k.r).2 x)
theorem Stt.there (s : Stt Γ B H σ st F) : ∀ a ∈ F, Cel H a := s.sl.there
end
structure PostS (B H : Hp) (F : List Addr) (σ : L2.St) (st' : G.St) (H' B' : Hp) (F' : List Addr) : Prop where
  s : Stt Γ B' H' σ st' F'
  u : Upd B H F B' H' F'
structure PostV (B H : Hp) (F : List Addr) (σ : L2.St) (t : T) (st' : G.St) (v : V) (H' B' : Hp) (G F' : List Addr) : Prop where
  s : Stt Γ B' H' σ st' F'
  o : Ow Γ B' H' v t G
  nd : (G ++ F').Nodup
  fr : ∀ a ∈ G, B' a = none
  u : Upd B H F B' H' (G ++ F')
/-- a new value of an operation -/
structure NewV (B H : Hp) (t : T) (v : V) (H' B' : Hp) (G : List Addr) : Prop where
  ex : Sub B' H'
  o : Ow Γ B' H' v t G
  nd : G.Nodup
  fr : ∀ a ∈ G, B' a = none
  u : Upd B H [] B' H' G
def XRep (B : Hp) (cls : Value) (d : Option Addr) (x : G.X) : Prop := cls = .ref (Γ.xc x.cls) ∧
  match x.fs with
  | [] => d = none
  | fs => ∃ a fvs, d = some a ∧ B a = some (.xd fvs) ∧ RpF Γ B fvs fs
structure PostX (B H : Hp) (F : List Addr) (σ : L2.St) (x : G.X) (st' : G.St) (cls : Value) (d : Option Addr) (H' B' : Hp) (F' : List Addr) : Prop where
  s : PostS Γ B H F σ st' H' B' F'
  x : XRep Γ B' cls d x
section
variable {Γ}
variable {B H B' H' B1 H1 B2 H2 : Hp} {σ : L2.St} {st st1 st2 : G.St} {F F' F1 F2 F3 F4 G1 G2 : List Addr} {t t1 t2 : T} {v v1 v2 : V}
theorem PostS.trans (p : PostS Γ B H F σ st1 H1 B1 F1) (q : PostS Γ B1 H1 F1 σ st2 H2 B2 F2) : PostS Γ B H F σ st2 H2 B2 F2 := ⟨q.s, p.u.trans q.u⟩
theorem PostS.refl (s : Stt Γ B H σ st F) : PostS Γ B H F σ st H B F := ⟨s, .refl⟩
theorem PostX.after {x : G.X} {cls : Value} {d : Option Addr} (p : PostS Γ B H F σ st1 H1 B1 F1) (q : PostX Γ B1 H1 F1 σ x st2 cls d H2 B2 F2) : PostX Γ B H F σ x st2 cls d H2 B2 F2 := ⟨p.trans q.s, q.x⟩
theorem PostV.after (p : PostS Γ B H F σ st1 H1 B1 F1) (q : PostV Γ B1 H1 F1 σ t st2 v H2 B2 G2 F2) : PostV Γ B H F σ t st2 v H2 B2 G2 F2 := ⟨q.s, q.o, q.nd, q.fr, p.u.trans q.u⟩
theorem PostV.drop (p : PostV Γ B H F σ t st1 v H1 B1 G1 F1) : PostS Γ B H F σ st1 H1 B1 F1 := ⟨p.s, p.u.weak fun a m => List.mem_append_right _ m⟩
/-- data B, and of H what stands at F -/
def frzB (B H : Hp) (F : List Addr) : Hp := fun a => if a ∈ F then H a else B a
theorem frzB_sub (e : Sub B H) : Sub B (frzB B H F) := fun a o h => by
  unfold frzB
  split
  · exact e a o h
  · exact h
theorem frzB_ex (e : Sub B H) : Sub (frzB B H F) H := fun a o h => by
  unfold frzB at h
  split at h
  · exact h
  · exact e a o h
theorem frzB_at : At H (frzB B H F) F := fun a m o h => by
  unfold frzB
  rw [if_pos m]
  exact h
theorem frzB_none {a : Addr} (h : B a = none) (n : a ∉ F) : frzB B H F a = none := by
  unfold frzB
  rw [if_neg n]
  exact h
/-- the value as data from here on -/
theorem PostV.frz (p : PostV Γ B H F σ t st1 v H1 B1 G1 F1) : ∃ B2, Rp Γ B2 v t.toD ∧ PostS Γ B H F σ st1 H1 B2 F1 := by
  have nd := nd_app.mp p.nd
  refine ⟨frzB B1 H1 G1, p.o.frz (frzB_sub p.s.ex) frzB_at, ⟨frzB_ex p.s.ex, p.s.sl.at (frzB_sub p.s.ex) fun _ _ _ h => h, p.s.nd, fun a m => frzB_none (p.s.fr a m) fun z => nd.2.2 a z m⟩, ?_⟩
  refine ⟨p.u.b.trans (frzB_sub p.s.ex), p.u.keep, p.u.dom, fun a m => p.u.new a (List.mem_append_right _ m), fun a o h => ?_⟩
  unfold frzB at h
  split at h
  · rename_i m
    rcases p.u.new a (List.mem_append_left _ m) with q | q
    · exact .inr (.inl q)
    · exact .inr (.inr (Cel.no q))
  · exact p.u.frz a o h
theorem PostV.imm {d : D} (p : PostS Γ B H F σ st1 H1 B1 F1) (r : Rp Γ B1 v d) : PostV Γ B H F σ (.imm d) st1 v H1 B1 [] F1 := ⟨p.s, .imm r, by simpa using p.s.nd, fun _ m => (nomatch m), p.u⟩
/-- an operation's new value behind -/
theorem NewV.post (p : PostS Γ B H F σ st1 H1 B1 F1) (n : NewV Γ B1 H1 t v H2 B2 G2) : PostV Γ B H F σ t st1 v H2 B2 G2 F1 := by
  have ap : ∀ a ∈ F1, a ∉ G2 := n.u.apart (fun _ _ z => nomatch z) p.s.there
  refine ⟨⟨n.ex, p.s.sl.at n.u.b (n.u.at fun _ _ z => nomatch z), p.s.nd, n.u.frB (fun _ _ z => nomatch z) p.s.fr p.s.there⟩, n.o, nd_app.mpr ⟨n.nd, p.s.nd, fun a m z => ap a z m⟩, n.fr, ?_⟩
  exact p.u.comp n.u (fun _ z => nomatch z) fun a m => List.mem_append.mp m
theorem NewV.imm {d : D} (e : Sub B H) (r : Rp Γ B v d) : NewV Γ B H (.imm d) v H B [] := ⟨e, .imm r, .nil, fun _ m => (nomatch m), .refl⟩
/-- a new object of data -/
theorem upd_newB {p : Addr} {o : HO} (e : Sub B H) (h : H p = none) : Upd B H [] (upd B p o) (upd H p o) [] where
  b := Sub.new (e.none h)
  keep := fun a u q _ => Sub.new h a u q
  dom := fun a q => by
    by_cases z : a = p
    · rw [z, upd_same]; exact fun y => by cases y
    · rw [upd_ne z]; exact q
  new := fun _ m => nomatch m
  frz := fun a u q => by
    by_cases z : a = p
    · exact .inr (.inr (Cel.no (by rw [z]; exact h)))
    · rw [upd_ne z] at q; exact .inl q
theorem sub_both {p : Addr} {o : HO} (e : Sub B H) : Sub (upd B p o) (upd H p o) := fun a u q => by
  by_cases z : a = p
  · rw [z, upd_same] at q; rw [z, upd_same]; exact q
  · rw [upd_ne z] at q; rw [upd_ne z]; exact e a u q
theorem NewV.obj {d : D} {p : Addr} {o : HO} (e : Sub B H) (h : H p = none) (r : Rp Γ (upd B p o) v d) : NewV Γ B H (.imm d) v (upd H p o) (upd B p o) [] := ⟨sub_both e, .imm r, .nil, fun _ m => (nomatch m), upd_newB e h⟩
/-- a new owned object -/
theorem upd_newH {p : Addr} {o : HO} (h : H p = none) : Upd B H [] B (upd H p o) [p] where
  b := Sub.refl B
  keep := fun a u q _ => Sub.new h a u q
  dom := fun a q => by
    by_cases z : a = p
    · rw [z, upd_same]; exact fun y => by cases y
    · rw [upd_ne z]; exact q
  new := fun a m => by rw [List.mem_singleton.mp m]; exact .inr h
  frz := fun a u q => .inl q
end
def RunP {α : Type} (r : R α) (K : α → G.St → Prop) (KX : G.X → G.St → Prop) : Prop := match r with
  | .no => False
  | .ok a st => K a st
  | .ex x st => KX x st
theorem run_bind {α β : Type} {r : R α} {k : α → Sm β} {K : β → G.St → Prop} {KX : G.X → G.St → Prop} : RunP (r.bind k) K KX = RunP r (fun a st => RunP (k a st) K KX) KX := by cases r <;> rfl
theorem RunP.mono {α : Type} {r : R α} {K K' : α → G.St → Prop} {KX KX' : G.X → G.St → Prop} (h : RunP r K KX) (k : ∀ a st, K a st → K' a st) (kx : ∀ x st, KX x st → KX' x st) : RunP r K' KX' := by
  cases r with
  | no => exact h
  | ok a st => exact k a st h
  | ex x st => exact kx x st h
def OutX (W : L2.WX) (B H : Hp) (F : List Addr) (σ : L2.St) : G.X → G.St → Prop := fun x st' => ∀ cls d H' B' F', PostX Γ B H F σ x st' cls d H' B' F' → W cls d σ H'
theorem OutX.after {Γ : Wh} {W : L2.WX} {B H B1 H1 : Hp} {F F1 : List Addr} {σ : L2.St} {st1 : G.St} (p : PostS Γ B H F σ st1 H1 B1 F1) {x : G.X} {st' : G.St} (h : OutX Γ W B H F σ x st') : OutX Γ W B1 H1 F1 σ x st' :=
  fun cls d H' B' F' q => h cls d H' B' F' (PostX.after p q)
def tSm (W : L2.WX) (m : Sm T) : TE := fun σ H Q => ∃ B st F, Stt Γ B H σ st F ∧ RunP (m st) (fun t st' => ∀ v H' B' G F', PostV Γ B H F σ t st' v H' B' G F' → Q v H') (OutX Γ W B H F σ)
def tBm (W : L2.WX) (m : Sm Bool) : TT := fun σ H Q => ∃ B st F, Stt Γ B H σ st F ∧ RunP (m st) (fun b st' => ∀ H' B' F', PostS Γ B H F σ st' H' B' F' → Q b H') (OutX Γ W B H F σ)
/-- the lent names -/
inductive Lent (σ : L2.St) : List V → List (Option Nat) → Prop
  | nil : Lent σ [] []
  | val {v : V} {vs : List V} {ls : List (Option Nat)} : Lent σ vs ls → Lent σ (v :: vs) (none :: ls)
  | lend {i : Nat} {v : V} {vs : List V} {ls : List (Option Nat)} : σ[i]? = some (some v) → Lent σ vs ls → Lent σ (v :: vs) (some i :: ls)
structure PostA (B H : Hp) (F : List Addr) (σ : L2.St) (ts : List T) (ls : List (Option Nat)) (st' : G.St) (vs : List V) (H' B' : Hp) (G F' : List Addr) : Prop where
  s : Stt Γ B' H' σ st' F'
  o : OwL Γ B' H' vs ts G
  nd : (G ++ F').Nodup
  fr : ∀ a ∈ G, B' a = none
  u : Upd B H F B' H' (G ++ F')
  l : Lent σ vs ls
def tAm (W : L2.WX) (m : Sa) : TA := fun σ H Q => ∃ B st F, Stt Γ B H σ st F ∧ RunP (m st) (fun p st' => ∀ vs H' B' G F', PostA Γ B H F σ p.1 p.2 st' vs H' B' G F' → Q vs H') (OutX Γ W B H F σ)
section
variable {Γ}
variable {X : Cx} {e : Expr} {es : List Expr} {t t' : TE} {tt tt' : TT} {ta ta' : TA}
theorem PE.weak (h : PE X e t) (k : ∀ σ H Q, t' σ H Q → t σ H Q) : PE X e t' := ⟨fun pins s σ H Q I q => h.run pins s σ H Q I (k σ H Q q)⟩
theorem PT.weak (h : PT X e tt) (k : ∀ σ H Q, tt' σ H Q → tt σ H Q) : PT X e tt' := ⟨fun pins s σ H Q I q => h.run pins s σ H Q I (k σ H Q q)⟩
theorem PA.weak (h : PA X es ta) (k : ∀ σ H Q, ta' σ H Q → ta σ H Q) : PA X es ta' := ⟨fun pos pins s σ H Q I q => h.run pos pins s σ H Q I (k σ H Q q)⟩
theorem PS.weak {st : Stmt} {t t' : TS} (h : PS X st t) (k : ∀ D σ H, t' D σ H → t D σ H) : PS X st t' := ⟨fun pins s σ H D I q => h.run pins s σ H D I (k D σ H q)⟩
theorem PSs.weak {st : List Stmt} {t t' : TS} (h : PSs X st t) (k : ∀ D σ H, t' D σ H → t D σ H) : PSs X st t' := ⟨fun pins s σ H D I q => h.run pins s σ H D I (k D σ H q)⟩
theorem PG.weak {t t' : TG} (h : PG X e t) (k : ∀ v σ H Q, t' v σ H Q → t v σ H Q) : PG X e t' := ⟨fun pins s σ H v u Q I r q => h.run pins s σ H v u Q I r (k v σ H Q q)⟩
theorem PI.weak {tg : Expr} {t t' : TI} (h : PI X tg e t) (k : ∀ σ H R, t' σ H R → t σ H R) : PI X tg e t' := ⟨fun pins s σ H R I q => h.run pins s σ H R I (k σ H R q)⟩
end
end G
set_option Elab.async false
set_option linter.all false
set_option maxRecDepth 100000
namespace G
open PySem L2
section
variable {Γ : Wh}
variable {B H B' H' B1 H1 B2 H2 : Hp} {σ : L2.St} {st st1 st2 : G.St} {F F' F1 F2 F3 F4 G1 G2 : List Addr} {t t1 t2 : T} {v v1 v2 : V} {W : L2.WX}
theorem set_self {α : Type} : ∀ {l : List α} {i : Nat} {x : α}, l[i]? = some x → l.set i x = l
  | [], _, _, h => by simp at h
  | a :: r, 0, x, h => by
    have e : a = x := by simpa using h
    rw [e]; rfl
  | a :: r, i + 1, x, h => by
    have e := set_self (l := r) (i := i) (x := x) (by simpa using h)
    show a :: r.set i x = a :: r
    rw [e]
theorem at_self : At H H F := fun _ _ _ h => h
theorem lt_of_some {α : Type} {l : List α} {i : Nat} {x : α} (h : l[i]? = some x) : i < l.length := (List.getElem?_eq_some_iff.mp h).1
/-- a name's thing as data from here on -/
theorem Stt.freeze {i : Nat} (S : Stt Γ B H σ st F) (h : st[i]? = some (some t)) : ∃ v B2 F', σ[i]? = some (some v) ∧ Rp Γ B2 v t.toD ∧ PostS Γ B H F σ (st.set i (some (.imm t.toD))) H B2 F' := by
  obtain ⟨F1, G, F2, rfl, g, p⟩ := S.sl.open (lt_of_some h)
  obtain ⟨v, hv, o⟩ := g t h
  have nd := nd_mid.mp S.nd
  have nd2 := nd_app.mp nd
  have q := (p (frzB B H G) H (frzB_sub S.ex) at_self).1 v (.imm t.toD) [] (.imm (o.frz (frzB_sub S.ex) frzB_at))
  rw [set_self hv] at q
  refine ⟨v, frzB B H G, F1 ++ F2, hv, o.frz (frzB_sub S.ex) frzB_at, ⟨frzB_ex S.ex, q, nd2.2.1, fun a m => frzB_none (S.fr a ?_) fun z => nd2.2.2 a z m⟩, ?_⟩
  · rcases List.mem_append.mp m with m | m
    · exact List.mem_append_left _ m
    · exact List.mem_append_right _ (List.mem_append_right _ m)
  · refine ⟨frzB_sub S.ex, fun a o h _ => h, fun a h => h, fun a m => .inl ?_, fun a u h => ?_⟩
    · rcases List.mem_append.mp m with m | m
      · exact List.mem_append_left _ m
      · exact List.mem_append_right _ (List.mem_append_right _ m)
    · unfold frzB at h
      split at h
      · rename_i m
        exact .inr (.inl (List.mem_append_right _ (List.mem_append_left _ m)))
      · exact .inl h
/-- a name's thing taken away -/
theorem Stt.take {i : Nat} (S : Stt Γ B H σ st F) (h : st[i]? = some (some t)) : ∃ v G F', σ[i]? = some (some v) ∧ PostV Γ B H F σ t (st.set i none) v H B G F' := by
  obtain ⟨F1, G, F2, rfl, g, p⟩ := S.sl.open (lt_of_some h)
  obtain ⟨v, hv, o⟩ := g t h
  have nd := nd_mid.mp S.nd
  have nd2 := nd_app.mp nd
  have q := (p B H (Sub.refl B) at_self).2 (some v)
  rw [set_self hv] at q
  have sub1 : ∀ a ∈ F1 ++ F2, a ∈ F1 ++ (G ++ F2) := fun a m => by
    rcases List.mem_append.mp m with m | m
    · exact List.mem_append_left _ m
    · exact List.mem_append_right _ (List.mem_append_right _ m)
  refine ⟨v, G, F1 ++ F2, hv, ⟨S.ex, q, nd2.2.1, fun a m => S.fr a (sub1 a m)⟩, o, nd, fun a m => S.fr a (List.mem_append_right _ (List.mem_append_left _ m)), Upd.refl.weak fun a m => ?_⟩
  rcases List.mem_append.mp m with m | m
  · exact List.mem_append_right _ (List.mem_append_left _ m)
  · exact sub1 a m
/-- a value stored under a name -/
theorem PostV.put {i : Nat} (p : PostV Γ B H F σ t st1 v H1 B1 G1 F1) (hi : i < st1.length) : ∃ F2, PostS Γ B H F (σ.set i (some v)) (st1.set i (some t)) H1 B1 F2 := by
  obtain ⟨A, G, C, rfl, g, q⟩ := p.s.sl.open hi
  have sub : ∀ a ∈ A ++ (G1 ++ C), a ∈ G1 ++ (A ++ (G ++ C)) := fun a m => by
    simp only [List.mem_append] at m ⊢
    rcases m with m | m | m
    · exact .inr (.inl m)
    · exact .inl m
    · exact .inr (.inr (.inr m))
  have s := (q B1 H1 (Sub.refl B1) at_self).1 v t G1 p.o
  have nd := nd_app.mp p.nd
  have nd2 := nd_app.mp (nd_mid.mp nd.2.1)
  refine ⟨A ++ (G1 ++ C), ⟨p.s.ex, s, nd_mid.mpr (nd_app.mpr ⟨nd.1, nd2.2.1, fun a m z => nd.2.2 a m ?_⟩), fun a m => ?_⟩, p.u.weak sub⟩
  · rcases List.mem_append.mp z with z | z
    · exact List.mem_append_left _ z
    · exact List.mem_append_right _ (List.mem_append_right _ z)
  · rcases List.mem_append.mp (sub a m) with m | m
    · exact p.fr a m
    · exact p.s.fr a m
theorem e_var {i : Nat} {Q : VK} (h : tSm Γ W (sVar i) σ H Q) : tVar i σ H Q := by
  obtain ⟨B, st, F, S, h⟩ := h
  unfold sVar at h
  cases e : st[i]? with
  | none => rw [e] at h; exact h.elim
  | some o =>
    cases o with
    | none => rw [e] at h; exact h.elim
    | some t =>
      rw [e] at h
      obtain ⟨v, B2, F', hv, r, p⟩ := S.freeze e
      refine ⟨v, hv, ?_⟩
      cases t with
      | imm d =>
        obtain ⟨F1, G, F2, rfl, g, _⟩ := S.sl.open (lt_of_some e)
        obtain ⟨v', hv', o⟩ := g _ e
        rw [hv] at hv'
        cases hv'
        cases o with
        | imm r' => exact h v H B [] _ (PostV.imm (PostS.refl S) r')
      | lst l => exact h v H B2 [] F' (PostV.imm p r)
      | dct k l => exact h v H B2 [] F' (PostV.imm p r)
      | obj c l => exact h v H B2 [] F' (PostV.imm p r)
      | tup l => exact h v H B2 [] F' (PostV.imm p r)
theorem e_mv {i : Nat} {Q : VK} (h : tSm Γ W (sMv i) σ H Q) : tVar i σ H Q := by
  obtain ⟨B, st, F, S, h⟩ := h
  unfold sMv at h
  cases e : st[i]? with
  | none => rw [e] at h; exact h.elim
  | some o =>
    cases o with
    | none => rw [e] at h; exact h.elim
    | some t =>
      rw [e] at h
      obtain ⟨v, G, F', hv, p⟩ := S.take e
      exact ⟨v, hv, h v H B G F' p⟩
/-- a value that is nothing but itself -/
def pureD (v : V) (d : D) : Prop := ∀ B, Rp Γ B v d
theorem e_cst {d : D} {Q : VK} (c : pureD (Γ := Γ) v d) (h : tSm Γ W (sCst d) σ H Q) : tC v σ H Q := by
  obtain ⟨B, st, F, S, h⟩ := h
  exact h v H B [] F (PostV.imm (PostS.refl S) (c B))
section
variable {X : Cx} {a b c : Expr} {ma mb mc : Sm T} {pos : Pos}
theorem ge_var (i : Nat) {x : Str} (hN : X.N[i]? = some x := by rfl) (hv : Vis X.env.scope x := by first | exact Or.inl rfl | exact Or.inr (Or.inl rfl) | exact Or.inr (Or.inr rfl)) (hd : (x == ("__debug__" : Str)) = false := by decide)
    (hcd : (x == ("__classdict__" : Str)) = false := by decide) : PE X (.Name x pos) (tSm Γ W (sVar i)) := PE.weak (pe_var hN hv hd hcd) fun _ _ _ => e_var
theorem ge_mv (i : Nat) {x : Str} (hN : X.N[i]? = some x := by rfl) (hv : Vis X.env.scope x := by first | exact Or.inl rfl | exact Or.inr (Or.inl rfl) | exact Or.inr (Or.inr rfl)) (hd : (x == ("__debug__" : Str)) = false := by decide)
    (hcd : (x == ("__classdict__" : Str)) = false := by decide) : PE X (.Name x pos) (tSm Γ W (sMv i)) := PE.weak (pe_var hN hv hd hcd) fun _ _ _ => e_mv
theorem ge_int {i : Int} {j : Nat} : PE X (.Constant (.int i) j pos) (tSm Γ W (sCst (.int i))) := PE.weak pe_int fun _ _ _ => e_cst fun _ => .int i
theorem ge_bl {i : Bool} {j : Nat} : PE X (.Constant (.bool i) j pos) (tSm Γ W (sCst (.bl i))) := PE.weak pe_bl fun _ _ _ => e_cst fun _ => .bl i
theorem ge_str {i : Str} {j : Nat} : PE X (.Constant (.str i) j pos) (tSm Γ W (sCst (.str i))) := PE.weak pe_str fun _ _ _ => e_cst fun _ => .str i
theorem ge_glob {x : Str} {v : V} {u : Value} {d : D} (hg : Gl X x) (hm : X.mg x = some u) (r : RelV v u) (c : pureD (Γ := Γ) v d) (hd : (x == ("__debug__" : Str)) = false := by decide) : PE X (.Name x pos) (tSm Γ W (sCst d)) :=
  PE.weak (pe_glob hg hm r hd) fun _ _ _ => e_cst c
variable (Γ) in
def OpD (r : R2) (f : D → D → Option T) : Prop := ∀ {B H : Hp} {x y : V} {d e : D} {t : T} {Q : VK}, Sub B H → Rp Γ B x d → Rp Γ B y e → f d e = some t → (∀ v H' B' G, NewV Γ B H t v H' B' G → Q v H') → r x y H Q
variable (Γ) in
def UnD (r : V → Hp → VK → Prop) (f : D → Option T) : Prop := ∀ {B H : Hp} {x : V} {d : D} {t : T} {Q : VK}, Sub B H → Rp Γ B x d → f d = some t → (∀ v H' B' G, NewV Γ B H t v H' B' G → Q v H') → r x H Q
variable (Γ) in
def CallD (r : List V → Hp → VK → Prop) (f : List D → Option T) : Prop := ∀ {B H : Hp} {x : List V} {d : List D} {t : T} {Q : VK}, Sub B H → RpL Γ B x d → f d = some t → (∀ v H' B' G, NewV Γ B H t v H' B' G → Q v H') → r x H Q
theorem run_ofO {α : Type} {o : Option α} {K : α → G.St → Prop} {KX : G.X → G.St → Prop} (h : RunP (Sm.ofO o st) K KX) : ∃ a, o = some a ∧ K a st := by
  cases o with
  | none => exact h.elim
  | some a => exact ⟨a, rfl, h⟩
/-- first a, then with its value as data -/
theorem e_then {m : Sm T} {β : Type} {k : D → Sm β} {Q : VK} {K : Hp → Hp → List Addr → β → G.St → Prop} {KX : Hp → Hp → List Addr → G.X → G.St → Prop}
    (hk : KX = fun B H F => OutX Γ W B H F σ)
    (hK : ∀ {B H F B1 H1 F1 st1 b st'}, PostS Γ B H F σ st1 H1 B1 F1 → K B H F b st' → K B1 H1 F1 b st')
    (h : ∃ B st F, Stt Γ B H σ st F ∧ RunP ((m st).bind (fun t => k t.toD)) (K B H F) (KX B H F))
    (n : ∀ v d B1 H1 st1 F1, Rp Γ B1 v d → Stt Γ B1 H1 σ st1 F1 → RunP (k d st1) (K B1 H1 F1) (KX B1 H1 F1) → Q v H1) : tSm Γ W m σ H Q := by
  obtain ⟨B, st, F, S, h⟩ := h
  refine ⟨B, st, F, S, ?_⟩
  subst hk
  rw [run_bind] at h
  refine h.mono (fun t st1 q v H1 B1 G F1 p => ?_) fun _ _ q => q
  obtain ⟨B2, r, ps⟩ := p.frz
  exact n v t.toD B2 H1 st1 F1 r ps.s (q.mono (fun b st' => hK ps) fun x st' => OutX.after ps)
/-- what an operation's end wants -/
def WantV (Q : VK) (σ : L2.St) (B H : Hp) (F : List Addr) : T → G.St → Prop := fun t st' => ∀ v H' B' G F', PostV Γ B H F σ t st' v H' B' G F' → Q v H'
theorem WantV.after {Q : VK} {t : T} {st' : G.St} (p : PostS Γ B H F σ st1 H1 B1 F1) (h : WantV (Γ := Γ) Q σ B H F t st') : WantV (Γ := Γ) Q σ B1 H1 F1 t st' := fun v H' B' G F' q => h v H' B' G F' (q.after p)
theorem e_op2 {r : R2} {f : D → D → Option T} (hd : OpD Γ r f) {Q : VK} (h : tSm Γ W (sOp2 f ma mb) σ H Q) : tOp r (tSm Γ W ma) (tSm Γ W mb) σ H Q := by
  refine e_then (k := fun d => Sm.bind mb fun y => Sm.ofO (f d y.toD)) (K := WantV (Γ := Γ) Q σ) rfl (fun p => WantV.after p) h fun x d B1 H1 st1 F1 rx S1 h1 => ?_
  refine e_then (k := fun e => Sm.ofO (f d e)) (K := fun B H F t st' => Sub B1 B ∧ WantV (Γ := Γ) Q σ B H F t st') rfl (fun p h => ⟨h.1.trans p.u.b, WantV.after p h.2⟩) ⟨B1, st1, F1, S1, ?_⟩ fun y e B2 H2 st2 F2 ry S2 h2 => ?_
  · exact h1.mono (fun t st' q => ⟨Sub.refl _, q⟩) fun _ _ q => q
  · obtain ⟨t, ht, s, q⟩ := run_ofO h2
    exact hd S2.ex (rx.mono Γ s) ry ht fun v H' B' G n => q v H' B' G F2 (n.post (PostS.refl S2))
theorem e_un {r : V → Hp → VK → Prop} {f : D → Option T} (hd : UnD Γ r f) {Q : VK} (h : tSm Γ W (sUn f ma) σ H Q) : tSm Γ W ma σ H (fun x H1 => r x H1 Q) := by
  refine e_then (k := fun d => Sm.ofO (f d)) (K := WantV (Γ := Γ) Q σ) rfl (fun p => WantV.after p) h fun x d B1 H1 st1 F1 rx S1 h1 => ?_
  obtain ⟨t, ht, q⟩ := run_ofO h1
  exact hd S1.ex rx ht fun v H' B' G n => q v H' B' G F1 (n.post (PostS.refl S1))
theorem ge_op2 {op : Operator} {r : R2} {f : D → D → Option T} (ho : OpR X (binaryOp op) r) (hd : OpD Γ r f) (ha : PE X a (tSm Γ W ma)) (hb : PE X b (tSm Γ W mb)) : PE X (.BinOp a op b pos) (tSm Γ W (sOp2 f ma mb)) :=
  PE.weak (pe_op ho ha hb) fun _ _ _ => e_op2 hd
theorem ge_un {op : UnaryOp} {r : V → Hp → VK → Prop} {f : D → Option T} (ho : UnR X (unaryOp op) r) (hd : UnD Γ r f) (ha : PE X a (tSm Γ W ma)) : PE X (.UnaryOp op a pos) (tSm Γ W (sUn f ma)) :=
  PE.weak (pe_un ho ha) fun _ _ _ => e_un hd
theorem ge_cmp {op : CmpOp} {r : R2} {f : D → D → Option T} (ho : OpR X (compareOp op) r) (hd : OpD Γ r f) (ha : PE X a (tSm Γ W ma)) (hb : PE X b (tSm Γ W mb)) (hm : behindInMarks op b = false) : PE X (.Compare a [op] [b] pos) (tSm Γ W (sOp2 f ma mb)) :=
  PE.weak (pe_cmpR ho ha hb hm) fun _ _ _ => e_op2 hd
theorem ge_ix {r : R2} {f : D → D → Option T} (ho : IxR X r) (hd : OpD Γ r f) (ha : PE X a (tSm Γ W ma)) (hb : PE X b (tSm Γ W mb)) (hs : PlainIx b) : PE X (.Subscript a b pos) (tSm Γ W (sOp2 f ma mb)) :=
  PE.weak (pe_ix ho ha hb hs) fun _ _ _ => e_op2 hd
theorem e_test {te : TE} {m : Sm T} (k : ∀ σ H Q, tSm Γ W m σ H Q → te σ H Q) {Q : Bool → Hp → Prop} (h : tBm Γ W (sTest m) σ H Q) : tTest te σ H Q := by
  refine k σ H _ ?_
  obtain ⟨B, st, F, S, h⟩ := h
  refine ⟨B, st, F, S, ?_⟩
  unfold sTest Sm.bind at h
  rw [run_bind] at h
  refine h.mono (fun t st1 q v H1 B1 G F1 p => ?_) fun _ _ q => q
  obtain ⟨B2, r, ps⟩ := p.frz
  cases e : t.toD with
  | bl b =>
    rw [e] at q r
    cases r
    exact ⟨b, rfl, q H1 B2 F1 ps⟩
  | _ => rw [e] at q; exact q.elim
theorem gt_val (h : PE X a (tSm Γ W ma)) (he : ∀ whole, isTrue a X.env whole = (do let v ← whole; standAt a.pos; holding [v] (truthy v)) := by intro _; rfl) : PT X a (tBm Γ W (sTest ma)) :=
  PT.weak (pt_val h he) fun _ _ _ => e_test fun _ _ _ h => h
theorem gt_cmp {op : CmpOp} {r : R2} {f : D → D → Option T} (ho : OpR X (compareOp op) r) (hd : OpD Γ r f) (ha : PE X a (tSm Γ W ma)) (hb : PE X b (tSm Γ W mb)) (hm : behindInMarks op b = false) : PT X (.Compare a [op] [b] pos) (tBm Γ W (sTest (sOp2 f ma mb))) :=
  PT.weak (pt_cmpR ho ha hb hm) fun _ _ _ => e_test fun _ _ _ => e_op2 hd
/-- first a test, then by its answer -/
theorem e_bthen {m : Sm Bool} {β : Type} {k : Bool → Sm β} {Q : Bool → Hp → Prop} {K : Hp → Hp → List Addr → β → G.St → Prop}
    (hK : ∀ {B H F B1 H1 F1 st1 b st'}, PostS Γ B H F σ st1 H1 B1 F1 → K B H F b st' → K B1 H1 F1 b st')
    (h : ∃ B st F, Stt Γ B H σ st F ∧ RunP ((m st).bind k) (K B H F) (OutX Γ W B H F σ))
    (n : ∀ b B1 H1 st1 F1, Stt Γ B1 H1 σ st1 F1 → RunP (k b st1) (K B1 H1 F1) (OutX Γ W B1 H1 F1 σ) → Q b H1) : tBm Γ W m σ H Q := by
  obtain ⟨B, st, F, S, h⟩ := h
  refine ⟨B, st, F, S, ?_⟩
  rw [run_bind] at h
  refine h.mono (fun b st1 q H1 B1 F1 p => ?_) fun _ _ q => q
  exact n b B1 H1 st1 F1 p.s (q.mono (fun b st' => hK p) fun x st' => OutX.after p)
def WantB (Q : Bool → Hp → Prop) (σ : L2.St) (B H : Hp) (F : List Addr) : Bool → G.St → Prop := fun b st' => ∀ H' B' F', PostS Γ B H F σ st' H' B' F' → Q b H'
theorem WantB.after {Q : Bool → Hp → Prop} {t : Bool} {st' : G.St} (p : PostS Γ B H F σ st1 H1 B1 F1) (h : WantB (Γ := Γ) Q σ B H F t st') : WantB (Γ := Γ) Q σ B1 H1 F1 t st' := fun H' B' F' q => h H' B' F' (p.trans q)
variable {ba bb : Sm Bool} {rest : List Expr}
theorem PW.weak {t t' : TT} (h : PW X a t) (k : ∀ σ H Q, t' σ H Q → t σ H Q) : PW X a t' := ⟨fun wh pins s σ H Q I q => h.run wh pins s σ H Q I (k σ H Q q)⟩
theorem gw_and (ha : PT X a (tBm Γ W ba)) (hb : PW X (.BoolOp .And (b :: rest) pos) (tBm Γ W bb)) : PW X (.BoolOp .And (a :: b :: rest) pos) (tBm Γ W (bAnd ba bb)) :=
  PW.weak (pw_and ha hb) fun σ H Q h => e_bthen (K := WantB (Γ := Γ) Q σ) (fun p => WantB.after p) h fun c B1 H1 st1 F1 S1 h1 => by
    cases c with
    | true => exact ⟨B1, st1, F1, S1, h1⟩
    | false => exact h1 H1 B1 F1 (PostS.refl S1)
theorem gw_or (ha : PT X a (tBm Γ W ba)) (hb : PW X (.BoolOp .Or (b :: rest) pos) (tBm Γ W bb)) : PW X (.BoolOp .Or (a :: b :: rest) pos) (tBm Γ W (bOr ba bb)) :=
  PW.weak (pw_or ha hb) fun σ H Q h => e_bthen (K := WantB (Γ := Γ) Q σ) (fun p => WantB.after p) h fun c B1 H1 st1 F1 S1 h1 => by
    cases c with
    | false => exact ⟨B1, st1, F1, S1, h1⟩
    | true => exact h1 H1 B1 F1 (PostS.refl S1)
theorem gt_not (ha : PT X a (tBm Γ W ba)) : PT X (.UnaryOp .Not a pos) (tBm Γ W (bNot ba)) :=
  PT.weak (pt_not ha) fun σ H Q h => e_bthen (K := WantB (Γ := Γ) Q σ) (fun p => WantB.after p) h fun c B1 H1 st1 F1 S1 h1 => h1 H1 B1 F1 (PostS.refl S1)
theorem e_testV {m : Sm T} {β : Type} {k : Bool → Sm β} {Q : V → Hp → Prop} {K : Hp → Hp → List Addr → β → G.St → Prop}
    (hK : ∀ {B H F B1 H1 F1 st1 b st'}, PostS Γ B H F σ st1 H1 B1 F1 → K B H F b st' → K B1 H1 F1 b st')
    (h : ∃ B st F, Stt Γ B H σ st F ∧ RunP ((sTest m st).bind k) (K B H F) (OutX Γ W B H F σ))
    (n : ∀ b B1 H1 st1 F1, Stt Γ B1 H1 σ st1 F1 → RunP (k b st1) (K B1 H1 F1) (OutX Γ W B1 H1 F1 σ) → Q (.bl b) H1) : tSm Γ W m σ H Q := by
  have h' := e_bthen (m := sTest m) (k := k) (K := K) (Q := fun b H1 => Q (.bl b) H1) (fun p => hK p) h n
  have h2 := e_test (te := tSm Γ W m) (fun _ _ _ h => h) h'
  obtain ⟨B, st, F, S, h2⟩ := h2
  refine ⟨B, st, F, S, h2.mono (fun t st' q v H' B' G F' p => ?_) fun _ _ q => q⟩
  obtain ⟨k, rfl, q⟩ := q v H' B' G F' p
  exact q
theorem ge_and (ha : PE X a (tSm Γ W ma)) (hb : PE X (.BoolOp .And (b :: rest) pos) (tSm Γ W mb)) : PE X (.BoolOp .And (a :: b :: rest) pos) (tSm Γ W (sAndV ma mb)) :=
  PE.weak (pe_and ha hb) fun σ H Q h => e_testV (K := WantV (Γ := Γ) Q σ) (fun p => WantV.after p) h fun c B1 H1 st1 F1 S1 h1 => ⟨c, rfl, by
    cases c with
    | true => exact ⟨B1, st1, F1, S1, h1⟩
    | false => exact h1 _ H1 B1 [] F1 (PostV.imm (PostS.refl S1) (.bl _))⟩
theorem ge_or (ha : PE X a (tSm Γ W ma)) (hb : PE X (.BoolOp .Or (b :: rest) pos) (tSm Γ W mb)) : PE X (.BoolOp .Or (a :: b :: rest) pos) (tSm Γ W (sOrV ma mb)) :=
  PE.weak (pe_or ha hb) fun σ H Q h => e_testV (K := WantV (Γ := Γ) Q σ) (fun p => WantV.after p) h fun c B1 H1 st1 F1 S1 h1 => ⟨c, rfl, by
    cases c with
    | false => exact ⟨B1, st1, F1, S1, h1⟩
    | true => exact h1 _ H1 B1 [] F1 (PostV.imm (PostS.refl S1) (.bl _))⟩
theorem ge_not (ha : PE X a (tSm Γ W ma)) : PE X (.UnaryOp .Not a pos) (tSm Γ W (sNotV ma)) :=
  PE.weak (pe_not ha) fun σ H Q h => e_testV (K := WantV (Γ := Γ) Q σ) (fun p => WantV.after p) h fun c B1 H1 st1 F1 S1 h1 => ⟨c, rfl, h1 _ H1 B1 [] F1 (PostV.imm (PostS.refl S1) (.bl _))⟩
variable {es : List Expr} {ra : Sa}
theorem ga_nil : PA X [] (tAm Γ W aNil) := PA.weak pa_nil fun σ H Q h => by
  obtain ⟨B, st, F, S, h⟩ := h
  exact h [] H B [] F ⟨S, .nil, by simpa using S.nd, fun _ m => (nomatch m), .refl, .nil⟩
theorem PostV.cons {ts : List T} {ls : List (Option Nat)} {vs : List V} (p : PostV Γ B H F σ t st1 v H1 B1 G1 F1) (q : PostA Γ B1 H1 F1 σ ts ls st2 vs H2 B2 G2 F2) {l : Option Nat} (hl : Lent σ (v :: vs) (l :: ls)) :
    PostA Γ B H F σ (t :: ts) (l :: ls) st2 (v :: vs) H2 B2 (G1 ++ G2) F2 := by
  have nd := nd_app.mp p.nd
  have th := p.o.there
  have ap := q.u.apart (fun a m => nd.2.2 a m) th
  refine ⟨q.s, .cons (p.o.at q.u.b (q.u.at fun a m => nd.2.2 a m)) q.o, ?_, fun a m => ?_, ?_, hl⟩
  · rw [List.append_assoc]
    exact nd_app.mpr ⟨nd.1, q.nd, ap⟩
  · rcases List.mem_append.mp m with m | m
    · exact q.u.frB (fun a m => nd.2.2 a m) p.fr th a m
    · exact q.fr a m
  · refine p.u.comp q.u (fun a m => List.mem_append_right _ m) fun a m => ?_
    rw [List.append_assoc] at m
    rcases List.mem_append.mp m with m | m
    · exact .inr (List.mem_append_left _ m)
    · exact .inl m
theorem ga_val (ha : PE X a (tSm Γ W ma)) (hr : PA X es (tAm Γ W ra)) (hs : starEach (a :: es) X.env = (false, eval a X.env) :: starEach es X.env := by rfl) : PA X (a :: es) (tAm Γ W (aVal ma ra)) :=
  PA.weak (pa_cons ha hr hs) fun σ H Q h => by
    obtain ⟨B, st, F, S, h⟩ := h
    refine ⟨B, st, F, S, ?_⟩
    unfold aVal Sm.bind at h
    rw [run_bind] at h
    refine h.mono (fun t st1 q v H1 B1 G1 F1 p => ?_) fun _ _ q => q
    rw [run_bind] at q
    refine ⟨B1, st1, F1, p.s, q.mono (fun ps st2 q vs H2 B2 G2 F2 p2 => ?_) fun x st' => OutX.after p.drop⟩
    exact q (v :: vs) H2 B2 (G1 ++ G2) F2 (p.cons p2 (.val p2.l))
theorem ga_lend (i : Nat) {x : Str} (hr : PA X es (tAm Γ W ra)) (hN : X.N[i]? = some x := by rfl) (hv : Vis X.env.scope x := by first | exact Or.inl rfl | exact Or.inr (Or.inl rfl) | exact Or.inr (Or.inr rfl)) (hd : (x == ("__debug__" : Str)) = false := by decide)
    (hcd : (x == ("__classdict__" : Str)) = false := by decide) (hs : starEach (.Name x pos :: es) X.env = (false, eval (.Name x pos) X.env) :: starEach es X.env := by rfl) : PA X (.Name x pos :: es) (tAm Γ W (aLend i ra)) :=
  PA.weak (pa_cons (pe_var hN hv hd hcd) hr hs) fun σ H Q h => by
    obtain ⟨B, st, F, S, h⟩ := h
    unfold aLend at h
    cases e : st[i]? with
    | none => rw [e] at h; exact h.elim
    | some o =>
      cases o with
      | none => rw [e] at h; exact h.elim
      | some t =>
        rw [e] at h
        obtain ⟨v, G1, F1, hv, p⟩ := S.take e
        refine ⟨v, hv, B, st.set i none, F1, p.s, ?_⟩
        have h' : RunP ((ra (st.set i none)).bind fun p st' => .ok (t :: p.1, some i :: p.2) st') _ _ := h
        rw [run_bind] at h'
        refine h'.mono (fun ps st2 q vs H2 B2 G2 F2 p2 => ?_) fun x st' => OutX.after p.drop
        exact q (v :: vs) H2 B2 (G1 ++ G2) F2 (p.cons p2 (.lend hv p2.l))
theorem PostA.frz {ts : List T} {ls : List (Option Nat)} {vs : List V} (p : PostA Γ B H F σ ts ls st1 vs H1 B1 G1 F1) : ∃ B2, RpL Γ B2 vs (T.toDs ts) ∧ PostS Γ B H F σ st1 H1 B2 F1 := by
  have nd := nd_app.mp p.nd
  refine ⟨frzB B1 H1 G1, p.o.frz (frzB_sub p.s.ex) frzB_at, ⟨frzB_ex p.s.ex, p.s.sl.at (frzB_sub p.s.ex) fun _ _ _ h => h, p.s.nd, fun a m => frzB_none (p.s.fr a m) fun z => nd.2.2 a z m⟩, ?_⟩
  refine ⟨p.u.b.trans (frzB_sub p.s.ex), p.u.keep, p.u.dom, fun a m => p.u.new a (List.mem_append_right _ m), fun a o h => ?_⟩
  unfold frzB at h
  split at h
  · rename_i m
    rcases p.u.new a (List.mem_append_left _ m) with q | q
    · exact .inr (.inl q)
    · exact .inr (.inr (Cel.no q))
  · exact p.u.frz a o h
theorem RpL.len {vs : List V} {ds : List D} : RpL Γ B vs ds → vs.length = ds.length
  | .nil => rfl
  | .cons _ r => by simp [RpL.len r]
theorem toDs_len (ts : List T) : (T.toDs ts).length = ts.length := by rw [toDs_map]; simp
theorem ge_tup {k : Nat} (h : PA X es (tAm Γ W ra)) : PE X (.Tuple es k pos) (tSm Γ W (sTup ra)) := PE.weak (pe_tup h) fun σ H Q h => by
  obtain ⟨B, st, F, S, h⟩ := h
  refine ⟨B, st, F, S, ?_⟩
  unfold sTup Sm.bind at h
  rw [run_bind] at h
  refine h.mono (fun ps st1 q vs H1 B1 G1 F1 p => ?_) fun _ _ q => q
  obtain ⟨B2, r, p'⟩ := p.frz
  by_cases hl : ps.1.length ≤ 1000
  · rw [if_pos hl] at q
    have hn : vs.length = ps.1.length := by rw [r.len, toDs_len]
    refine ⟨by rw [hn]; exact Nat.le_trans hl (by decide), fun x hx => ?_⟩
    exact q _ _ _ _ _ (NewV.post p' (NewV.obj p'.s.ex hx (.tup upd_same (r.mono Γ (Sub.new (p'.s.ex.none hx))))))
  · rw [if_neg hl] at q
    exact q.elim
theorem OwL.len {vs : List V} {ds : List T} {G : List Addr} : OwL Γ B H vs ds G → vs.length = ds.length
  | .nil => rfl
  | .cons _ r => by simp [OwL.len r]
theorem ge_lst (h : PA X es (tAm Γ W ra)) : PE X (.List es pos) (tSm Γ W (sLst ra)) := PE.weak (pe_lst h) fun σ H Q h => by
  obtain ⟨B, st, F, S, h⟩ := h
  refine ⟨B, st, F, S, ?_⟩
  unfold sLst Sm.bind at h
  rw [run_bind] at h
  refine h.mono (fun ps st1 q vs H1 B1 G1 F1 p => ?_) fun _ _ q => q
  by_cases hl : ps.1.length ≤ 1000
  · rw [if_pos hl] at q
    have hn : vs.length = ps.1.length := p.o.len
    refine ⟨by rw [hn]; exact Nat.le_trans hl (by decide), fun x hx => ?_⟩
    have k : Sub H1 (upd H1 x (.lst vs)) := Sub.new hx
    have th := p.o.there
    have xG : x ∉ G1 := fun z => (th x z).ne hx
    have xF : x ∉ F1 := fun z => (p.s.there x z).ne hx
    refine q (.ref x) _ B1 (x :: G1) F1 ⟨⟨p.s.ex.trans k, p.s.sl.at (Sub.refl _) fun a _ o h => k a o h, p.s.nd, p.s.fr⟩, .lst upd_same (p.o.at (Sub.refl _) fun a _ o h => k a o h), ?_, fun a m => ?_, ?_⟩
    · show (x :: (G1 ++ F1)).Nodup
      exact List.nodup_cons.mpr ⟨fun z => (List.mem_append.mp z).elim xG xF, p.nd⟩
    · rcases List.mem_cons.mp m with rfl | m
      · exact p.s.ex.none hx
      · exact p.fr a m
    · refine p.u.comp (upd_newH (B := B1) hx) (fun _ z => nomatch z) fun a m => ?_
      rcases List.mem_cons.mp m with rfl | m
      · exact .inl (List.mem_singleton.mpr rfl)
      · exact .inr m
  · rw [if_neg hl] at q
    exact q.elim
/-- a built-in's call on data -/
theorem e_blt {r : List V → Hp → VK → Prop} {f : List D → Option T} (hd : CallD Γ r f) {Q : VK} (h : tSm Γ W (sBlt f ra) σ H Q) : tCB r (tAm Γ W ra) σ H Q := by
  obtain ⟨B, st, F, S, h⟩ := h
  refine ⟨B, st, F, S, ?_⟩
  unfold sBlt Sm.bind at h
  rw [run_bind] at h
  refine h.mono (fun ps st1 q vs H1 B1 G1 F1 p => ?_) fun _ _ q => q
  obtain ⟨B2, rr, p'⟩ := p.frz
  obtain ⟨t, ht, q⟩ := run_ofO q
  exact hd p'.s.ex rr ht fun v H' B' G n => q v H' B' G F1 (n.post p')
theorem ge_callB {id : String} {x : Str} {p : Pos} {r : List V → Hp → VK → Prop} {f : List D → Option T} (hc : CallR X (.builtin id) r) (hd : CallD Γ r f) (hg : Gl X x) (hm : X.mg x = none) (hv : bootBuiltins x = some (.builtin id)) (ha : PA X (a :: es) (tAm Γ W ra)) (hn : x ≠ "__name__" := by decide) (hdb : (x == ("__debug__" : Str)) = false := by decide)
    (he : starEach (a :: es) X.env = (false, eval a X.env) :: starEach es X.env := by rfl) (hpl : (backTo pos (starEach es X.env)).any (·.1) = false := by rfl) : PE X (.Call (.Name x p) (a :: es) [] pos) (tSm Γ W (sBlt f ra)) :=
  PE.weak (pe_callB hc hg hm hv ha hn hdb he hpl) fun _ _ _ => e_blt hd
theorem ge_callTy {id : String} {x : Str} {p : Pos} {r : List V → Hp → VK → Prop} {f : List D → Option T} (hc : CallR X (.type id) r) (hd : CallD Γ r f) (hg : Gl X x) (hm : X.mg x = none) (hv : bootBuiltins x = some (.type id)) (ha : PA X (a :: es) (tAm Γ W ra)) (hn : x ≠ "__name__" := by decide) (hdb : (x == ("__debug__" : Str)) = false := by decide)
    (he : starEach (a :: es) X.env = (false, eval a X.env) :: starEach es X.env := by rfl) (hpl : (backTo pos (starEach es X.env)).any (·.1) = false := by rfl) : PE X (.Call (.Name x p) (a :: es) [] pos) (tSm Γ W (sBlt f ra)) :=
  PE.weak (pe_callTy hc hg hm hv ha hn hdb he hpl) fun _ _ _ => e_blt hd
variable (Γ) in
/-- a def's promise: it does what f does -/
def spOf (f : Fn) : Sp := fun vs H Q E => ∃ B ts F, Stt Γ B H (vs.map some) (ts.map some) F ∧ match f ts with
  | .no => False
  | .ret t ps => ∀ v H' B' G F', PostV Γ B H F (vs.map some) t ps v H' B' G F' → Q v H'
  | .ex x ps => ∀ cls d H' B' F', PostX Γ B H F (vs.map some) x ps cls d H' B' F' → E cls d H'
theorem OwL.sl {vs : List V} {ts : List T} {G : List Addr} : OwL Γ B H vs ts G → Sl Γ B H (vs.map some) (ts.map some) G
  | .nil => .nil
  | .cons o r => .cons o (OwL.sl r)
theorem wb_ok {vs : List V} {ls : List (Option Nat)} (l : Lent σ vs ls) : ∀ {ps : List (Option T)} {st : G.St} {F2 F : List Addr}, Sl Γ B H (vs.map some) ps F2 → Sl Γ B H σ st F → (F2 ++ F).Nodup →
    ∃ F', Sl Γ B H σ (wb ls ps st) F' ∧ F'.Nodup ∧ ∀ a ∈ F', a ∈ F2 ∨ a ∈ F := by
  induction l with
  | nil =>
    intro ps st F2 F h2 h nd
    cases h2
    exact ⟨F, h, nd, fun a m => .inr m⟩
  | val l ih =>
    intro ps st F2 F h2 h nd
    cases h2 with
    | skip h2 => exact ih h2 h nd
    | cons o h2 =>
      rw [List.append_assoc] at nd
      obtain ⟨F', s, n, q⟩ := ih h2 h (nd_app.mp nd).2.1
      exact ⟨F', s, n, fun a m => (q a m).imp (fun z => List.mem_append_right _ z) id⟩
  | @lend i v vs ls hi l ih =>
    intro ps st F2 F h2 h nd
    have hlt : i < st.length := by rw [← h.len]; exact lt_of_some hi
    obtain ⟨A, G, C, rfl, _, q⟩ := h.open hlt
    have q := q B H (Sub.refl B) at_self
    have sub : ∀ a ∈ A ++ C, a ∈ A ++ (G ++ C) := fun a m => by
      rcases List.mem_append.mp m with m | m
      · exact List.mem_append_left _ m
      · exact List.mem_append_right _ (List.mem_append_right _ m)
    have nd0 := nd_app.mp nd
    have ndA : (A ++ C).Nodup := (nd_app.mp (nd_mid.mp nd0.2.1)).2.1
    cases h2 with
    | skip h2 =>
      have s1 := q.2 (some v)
      rw [set_self hi] at s1
      obtain ⟨F', s, n, z⟩ := ih h2 s1 (nd_app.mpr ⟨nd0.1, ndA, fun a m z => nd0.2.2 a m (sub a z)⟩)
      exact ⟨F', s, n, fun a m => (z a m).imp id (sub a)⟩
    | @cons _ t _ st0 F0 G0 o h2 =>
      have s1 := q.1 v t _ o
      rw [set_self hi] at s1
      rw [List.append_assoc] at nd
      have nd1 := nd_app.mp nd
      have nd2 := nd_app.mp nd1.2.1
      have nd3 : (F0 ++ (A ++ (G0 ++ C))).Nodup := by
        refine nd_app.mpr ⟨nd2.1, nd_mid.mpr (nd_app.mpr ⟨nd1.1, ndA, fun a m z => nd1.2.2 a m (List.mem_append_right _ (sub a z))⟩), fun a m z => ?_⟩
        rcases List.mem_append.mp z with z | z
        · exact nd2.2.2 a m (List.mem_append_left _ z)
        · rcases List.mem_append.mp z with z | z
          · exact nd1.2.2 a z (List.mem_append_left _ m)
          · exact nd2.2.2 a m (List.mem_append_right _ (List.mem_append_right _ z))
      obtain ⟨F', s, n, z⟩ := ih h2 s1 nd3
      refine ⟨F', s, n, fun a m => ?_⟩
      rcases z a m with z | z
      · exact .inl (List.mem_append_right _ z)
      · rcases List.mem_append.mp z with z | z
        · exact .inr (List.mem_append_left _ z)
        · rcases List.mem_append.mp z with z | z
          · exact .inl (List.mem_append_left _ z)
          · exact .inr (List.mem_append_right _ (List.mem_append_right _ z))
/-- the lent things come back into the state -/
theorem PostA.back {ts : List T} {ls : List (Option Nat)} {vs : List V} {ps : List (Option T)} (p : PostA Γ B H F σ ts ls st1 vs H1 B1 G1 F1) (q : PostS Γ B1 H1 G1 (vs.map some) ps H2 B2 F2) :
    ∃ F3, PostS Γ B H F σ (wb ls ps st1) H2 B2 F3 ∧ ∀ a ∈ F3, a ∈ F2 ∨ a ∈ F1 := by
  have nd := nd_app.mp p.nd
  have d : ∀ a ∈ F1, a ∉ G1 := fun a m z => nd.2.2 a z m
  have th := p.s.there
  have ap := q.u.apart d th
  have frB := q.u.frB d p.s.fr th
  obtain ⟨F3, s, n, z⟩ := wb_ok p.l q.s.sl (p.s.sl.at q.u.b (q.u.at d)) (nd_app.mpr ⟨q.s.nd, p.s.nd, fun a m z => ap a z m⟩)
  refine ⟨F3, ⟨⟨q.s.ex, s, n, fun a m => (z a m).elim (q.s.fr a) (frB a)⟩, ?_⟩, z⟩
  exact p.u.comp q.u (fun a m => List.mem_append_left _ m) fun a m => (z a m).imp id (fun m => List.mem_append_right _ m)
theorem e_call {f : Fn} {Q : VK} (h : tSm Γ W (sCall f ra) σ H Q) : tCallS (spOf Γ f) (WE W) (tAm Γ W ra) σ H Q := by
  obtain ⟨B, st, F, S, h⟩ := h
  refine ⟨B, st, F, S, ?_⟩
  unfold sCall Sm.bind at h
  rw [run_bind] at h
  refine h.mono (fun ps st1 q vs H1 B1 G1 F1 p => ?_) fun _ _ q => q
  refine ⟨B1, ps.1, G1, ⟨p.s.ex, p.o.sl, (nd_app.mp p.nd).1, p.fr⟩, ?_⟩
  cases e : f ps.1 with
  | no => rw [e] at q; exact q.elim
  | ret t qs =>
    rw [e] at q
    intro v H2 B2 G2 F2 r
    have nd := nd_app.mp p.nd
    have d : ∀ a ∈ F1, a ∉ G1 := fun a m z => nd.2.2 a z m
    have ap := r.u.apart d p.s.there
    obtain ⟨F3, s, z⟩ := p.back r.drop
    have ndr := nd_app.mp r.nd
    refine q v H2 B2 G2 F3 ⟨s.s, r.o, nd_app.mpr ⟨ndr.1, s.s.nd, fun a m y => ?_⟩, r.fr, ?_⟩
    · rcases z a y with y | y
      · exact ndr.2.2 a m y
      · exact ap a y (List.mem_append_left _ m)
    · refine p.u.comp r.u (fun a m => List.mem_append_left _ m) fun a m => ?_
      rcases List.mem_append.mp m with m | m
      · exact .inl (List.mem_append_left _ m)
      · exact (z a m).imp (fun m => List.mem_append_right _ m) (fun m => List.mem_append_right _ m)
  | ex x qs =>
    rw [e] at q
    intro cls d H2 B2 F2 r
    obtain ⟨F3, s, z⟩ := p.back r.s
    exact q cls d H2 B2 F3 ⟨s, r.x⟩
theorem ge_call {f : Fn} {k : Nat} {g : Addr} {fd : FuncData} {ps : List Str} {x : Str} {p : Pos} (Fk : FnOk X.prog X.w X.K X.mg X.base (L2.CX X.prog X.w) k g fd ps (spOf Γ f)) (hr : Room k X.A) (hm : X.mg x = some (.ref g)) (hk : PySem.W.keepIn X.K (.ref g) = true) (hb : Binds X.K fd ps []) (tk : Takes X W)
    (ha : PA X (a :: es) (tAm Γ W ra)) (hg : Gl X x := by rfl) (hdb : (x == ("__debug__" : Str)) = false := by decide) (he : starEach (a :: es) X.env = (false, eval a X.env) :: starEach es X.env := by rfl) (hpl : (backTo pos (starEach es X.env)).any (·.1) = false := by rfl) :
    PE X (.Call (.Name x p) (a :: es) [] pos) (tSm Γ W (sCall f ra)) := PE.weak (pe_callS Fk hr hg hm hk hb (fun σ => passAt tk σ) ha hdb he hpl) fun _ _ _ => e_call
end
end
end G
set_option Elab.async false
set_option linter.all false
set_option maxRecDepth 100000
namespace G
open PySem L2
section
variable {Γ : Wh}
variable {B H B' H' B1 H1 B2 H2 : Hp} {σ σ1 σ2 : L2.St} {st st1 st2 : G.St} {F F' F1 F2 F3 F4 G1 G2 : List Addr} {t t1 t2 : T} {v v1 v2 : V} {W : L2.WX} {fx : List Nat}
variable (Γ) in
/-- behind a statement: the names' values may be others, but those of fx -/
structure PostT (B H : Hp) (F : List Addr) (fx : List Nat) (σ σ' : L2.St) (st' : G.St) (H' B' : Hp) (F' : List Addr) : Prop where
  s : Stt Γ B' H' σ' st' F'
  u : Upd B H F B' H' F'
  k : ∀ i ∈ fx, σ'[i]? = σ[i]?
  l : σ'.length = σ.length
variable (Γ) in
structure PostR (B H : Hp) (F : List Addr) (fx : List Nat) (σ σ' : L2.St) (t : T) (st' : G.St) (v : V) (H' B' : Hp) (G F' : List Addr) : Prop where
  v : PostV Γ B H F σ' t st' v H' B' G F'
  k : ∀ i ∈ fx, σ'[i]? = σ[i]?
  l : σ'.length = σ.length
variable (Γ) in
def EndS (D : Ends) (fx : List Nat) (σ : L2.St) (B H : Hp) (F : List Addr) : Fl → G.St → Prop := fun f st' => match f with
  | .nx => ∀ σ' H' B' F', PostT Γ B H F fx σ σ' st' H' B' F' → D.nx σ' H'
  | .bk => ∀ σ' H' B' F', PostT Γ B H F fx σ σ' st' H' B' F' → D.bk σ' H'
  | .ct => ∀ σ' H' B' F', PostT Γ B H F fx σ σ' st' H' B' F' → D.ct σ' H'
  | .rt t => ∀ σ' v H' B' G F', PostR Γ B H F fx σ σ' t st' v H' B' G F' → D.rt v H'
variable (Γ) in
def OutS (W : L2.WX) (fx : List Nat) (σ : L2.St) (B H : Hp) (F : List Addr) : G.X → G.St → Prop := fun x st' => ∀ σ' cls d H' B' F', PostT Γ B H F fx σ σ' st' H' B' F' → XRep Γ B' cls d x → W cls d σ' H'
variable (Γ) in
def tSs (W : L2.WX) (fx : List Nat) (m : Ss) : TS := fun D σ H => ∃ B st F, Stt Γ B H σ st F ∧ RunP (m st) (EndS Γ D fx σ B H F) (OutS Γ W fx σ B H F)
theorem PostT.refl (S : Stt Γ B H σ st F) : PostT Γ B H F fx σ σ st H B F := ⟨S, .refl, fun _ _ => rfl, rfl⟩
theorem PostT.ofS (p : PostS Γ B H F σ st1 H1 B1 F1) : PostT Γ B H F fx σ σ st1 H1 B1 F1 := ⟨p.s, p.u, fun _ _ => rfl, rfl⟩
theorem PostT.trans (p : PostT Γ B H F fx σ σ1 st1 H1 B1 F1) (q : PostT Γ B1 H1 F1 fx σ1 σ2 st2 H2 B2 F2) : PostT Γ B H F fx σ σ2 st2 H2 B2 F2 := ⟨q.s, p.u.trans q.u, fun i m => (q.k i m).trans (p.k i m), q.l.trans p.l⟩
theorem PostR.after (p : PostT Γ B H F fx σ σ1 st1 H1 B1 F1) (q : PostR Γ B1 H1 F1 fx σ1 σ2 t st2 v H2 B2 G2 F2) : PostR Γ B H F fx σ σ2 t st2 v H2 B2 G2 F2 := ⟨⟨q.v.s, q.v.o, q.v.nd, q.v.fr, p.u.trans q.v.u⟩, fun i m => (q.k i m).trans (p.k i m), q.l.trans p.l⟩
theorem EndS.after {D : Ends} {f : Fl} {st' : G.St} (p : PostT Γ B H F fx σ σ1 st1 H1 B1 F1) (h : EndS Γ D fx σ B H F f st') : EndS Γ D fx σ1 B1 H1 F1 f st' := by
  cases f with
  | nx => exact fun σ' H' B' F' q => h σ' H' B' F' (p.trans q)
  | bk => exact fun σ' H' B' F' q => h σ' H' B' F' (p.trans q)
  | ct => exact fun σ' H' B' F' q => h σ' H' B' F' (p.trans q)
  | rt t => exact fun σ' v H' B' G F' q => h σ' v H' B' G F' (PostR.after p q)
theorem OutS.after {x : G.X} {st' : G.St} (p : PostT Γ B H F fx σ σ1 st1 H1 B1 F1) (h : OutS Γ W fx σ B H F x st') : OutS Γ W fx σ1 B1 H1 F1 x st' := fun σ' cls d H' B' F' q => h σ' cls d H' B' F' (p.trans q)
theorem OutS.x {x : G.X} {st' : G.St} (h : OutS Γ W fx σ B H F x st') : OutX Γ W B H F σ x st' := fun cls d H' B' F' q => h σ cls d H' B' F' (PostT.ofS q.s) q.x
/-- an expression first -/
theorem e_sthen {m : Sm T} {k : T → Sm Fl} {D : Ends} {Q : VK}
    (h : ∃ B st F, Stt Γ B H σ st F ∧ RunP ((m st).bind k) (EndS Γ D fx σ B H F) (OutS Γ W fx σ B H F))
    (n : ∀ v t B H F B1 H1 st1 G1 F1, PostV Γ B H F σ t st1 v H1 B1 G1 F1 → RunP (k t st1) (EndS Γ D fx σ B H F) (OutS Γ W fx σ B H F) → Q v H1) : tSm Γ W m σ H Q := by
  obtain ⟨B, st, F, S, h⟩ := h
  refine ⟨B, st, F, S, ?_⟩
  rw [run_bind] at h
  exact h.mono (fun t st1 q v H1 B1 G1 F1 p => n v t B H F B1 H1 st1 G1 F1 p q) fun _ _ q => OutS.x q
theorem set_out {α : Type} {l : List α} {i : Nat} {x : α} (h : ¬ i < l.length) : l.set i x = l := List.set_eq_of_length_le (Nat.le_of_not_lt h)
/-- stored under a name -/
theorem PostV.store {i : Nat} (hi : i ∉ fx) (p : PostV Γ B H F σ t st1 v H1 B1 G1 F1) : ∃ F2, PostT Γ B H F fx σ (σ.set i (some v)) (st1.set i (some t)) H1 B1 F2 := by
  have k : ∀ j ∈ fx, (σ.set i (some v))[j]? = σ[j]? := fun j m => List.getElem?_set_ne fun e => hi (by rw [e]; exact m)
  by_cases hl : i < st1.length
  · obtain ⟨F2, q⟩ := p.put hl
    exact ⟨F2, q.s, q.u, k, List.length_set ..⟩
  · have hl2 : ¬ i < σ.length := by rw [p.s.sl.len]; exact hl
    refine ⟨F1, ?_, p.drop.u, k, List.length_set ..⟩
    rw [set_out hl, set_out hl2]
    exact p.s
theorem PostV.storeF {i : Nat} (hi : i ∉ fx) (p : PostV Γ B H F σ t st1 v H1 B1 G1 F1) : ∃ B2 F2, PostT Γ B H F fx σ (σ.set i (some v)) (st1.set i (some (.imm t.toD))) H1 B2 F2 := by
  obtain ⟨B2, r, ps⟩ := p.frz
  obtain ⟨F2, q⟩ := PostV.store (fx := fx) hi (PostV.imm ps r)
  exact ⟨B2, F2, q⟩
section
variable {X : Cx} {e a b c : Expr} {m ma : Sm T} {pos : Pos} {i : Nat} {x : Str} {s1 s2 : Ss}
theorem e_set {D : Ends} (hi : i ∉ fx) (h : tSs Γ W fx (sSet i m) D σ H) : tAsg (tSm Γ W m) (L2.gName i) D σ H :=
  e_sthen (Q := fun x H1 => D.nx (σ.set i (some x)) H1) h fun v t B H F B1 H1 st1 G1 F1 p q => by
    obtain ⟨F2, r⟩ := p.store (fx := fx) hi
    exact q _ _ _ _ r
theorem e_setF {D : Ends} (hi : i ∉ fx) (h : tSs Γ W fx (sSetF i m) D σ H) : tAsg (tSm Γ W m) (L2.gName i) D σ H :=
  e_sthen (Q := fun x H1 => D.nx (σ.set i (some x)) H1) h fun v t B H F B1 H1 st1 G1 F1 p q => by
    obtain ⟨B2, F2, r⟩ := p.storeF (fx := fx) hi
    exact q _ _ _ _ r
theorem gs_set {pos' : Pos} (hN : X.N.Nodup) (he : PE X e (tSm Γ W m)) (hi : X.N[i]? = some x := by rfl) (hf : i ∉ fx := by decide) (hx : Loc X.env.scope x := by first | exact Or.inl rfl | exact Or.inr rfl) (hs : swapsWith e (some (.Name x pos')) pos.line X.env = pure false := by rfl)
    (hy : X.fn x = true ∨ X.env.scope.names.lookup x = some .local := by first | exact .inl rfl | exact .inr rfl | assumption) : PS X (.Assign [.Name x pos'] e pos) (tSs Γ W fx (sSet i m)) := PS.weak (ps_set hN hi hx he hs hy) fun _ _ _ => e_set hf
theorem gs_setF {pos' : Pos} (hN : X.N.Nodup) (he : PE X e (tSm Γ W m)) (hi : X.N[i]? = some x := by rfl) (hf : i ∉ fx := by decide) (hx : Loc X.env.scope x := by first | exact Or.inl rfl | exact Or.inr rfl) (hs : swapsWith e (some (.Name x pos')) pos.line X.env = pure false := by rfl)
    (hy : X.fn x = true ∨ X.env.scope.names.lookup x = some .local := by first | exact .inl rfl | exact .inr rfl | assumption) : PS X (.Assign [.Name x pos'] e pos) (tSs Γ W fx (sSetF i m)) := PS.weak (ps_set hN hi hx he hs hy) fun _ _ _ => e_setF hf
theorem gs_expr (he : PE X e (tSm Γ W m)) (hs : swapsWith e none pos.line X.env = pure false := by rfl) : PS X (.Expr e pos) (tSs Γ W fx (sExpr m)) := PS.weak (ps_expr he hs) fun D σ H h =>
  e_sthen (Q := fun _ H1 => D.nx σ H1) h fun v t B H F B1 H1 st1 G1 F1 p q => q _ _ _ _ (PostT.ofS p.drop)
theorem gs_ret (he : PE X e (tSm Γ W m)) : PS X (.Return (some e) pos) (tSs Γ W fx (sRet m)) := PS.weak (ps_ret he) fun D σ H h =>
  e_sthen (Q := D.rt) h fun v t B H F B1 H1 st1 G1 F1 p q => q _ _ _ _ _ _ ⟨p, fun _ _ => rfl, rfl⟩
theorem gss_nil : PSs X [] (tSs Γ W fx sPass) := PSs.weak pss_nil fun D σ H h => by
  obtain ⟨B, st, F, S, h⟩ := h
  exact h _ _ _ _ (PostT.refl S)
variable {s : Stmt} {rest : List Stmt}
theorem gss_one (h : PS X s (tSs Γ W fx s1)) : PSs X [s] (tSs Γ W fx s1) := pss_one h
theorem gss_cons (h1 : PS X s (tSs Γ W fx s1)) (h2 : PSs X rest (tSs Γ W fx s2)) : PSs X (s :: rest) (tSs Γ W fx (sSeq s1 s2)) := PSs.weak (pss_cons h1 h2) fun D σ H h => by
  obtain ⟨B, st, F, S, h⟩ := h
  unfold sSeq Sm.bind at h
  rw [run_bind] at h
  refine ⟨B, st, F, S, h.mono (fun f st1 q => ?_) fun _ _ q => q⟩
  cases f with
  | nx => exact fun σ1 H1 B1 F1 p => ⟨B1, st1, F1, p.s, RunP.mono (show RunP (s2 st1) _ _ from q) (fun f st' => EndS.after p) fun x st' => OutS.after p⟩
  | bk => exact q
  | ct => exact q
  | rt t => exact q
variable {bs cs : List Stmt} {mc : Sm Bool}
theorem gs_if (hc : PT X c (tBm Γ W mc)) (ha : PSs X bs (tSs Γ W fx s1)) (hb : PSs X cs (tSs Γ W fx s2)) : PS X (.If c bs cs pos) (tSs Γ W fx (sIf mc s1 s2)) := PS.weak (ps_if hc ha hb) fun D σ H h => by
  obtain ⟨B, st, F, S, h⟩ := h
  unfold sIf Sm.bind at h
  rw [run_bind] at h
  refine ⟨B, st, F, S, h.mono (fun b st1 q H1 B1 F1 p => ?_) fun _ _ q => OutS.x q⟩
  cases b with
  | true => exact ⟨B1, st1, F1, p.s, RunP.mono q (fun f st' => EndS.after (PostT.ofS p)) fun x st' => OutS.after (PostT.ofS p)⟩
  | false => exact ⟨B1, st1, F1, p.s, RunP.mono q (fun f st' => EndS.after (PostT.ofS p)) fun x st' => OutS.after (PostT.ofS p)⟩
end
variable (Γ) in
/-- the target's names are ps -/
def PatOk (ps : List Nat) (tg : TG) (g : Pat) : Prop := ∀ {B H : Hp} {σ : L2.St} {st st' : G.St} {F : List Addr} {v : V} {d : D} {Q : L2.St → Hp → Prop}, Stt Γ B H σ st F → Rp Γ B v d → g d st = some st' →
  (∀ σ' F', Stt Γ B H σ' st' F' → (∀ a ∈ F', a ∈ F) → σ'.length = σ.length → (∀ i, i ∉ ps → σ'[i]? = σ[i]?) → Q σ' H) → tg v σ H Q
variable (Γ) in
def PatsOk (ps : List Nat) (tg : TGs) (g : List Pat) : Prop := ∀ {B H : Hp} {σ : L2.St} {st st' : G.St} {F : List Addr} {v : List V} {d : List D} {Q : L2.St → Hp → Prop}, Stt Γ B H σ st F → RpL Γ B v d → gAll g d st = some st' →
  (∀ σ' F', Stt Γ B H σ' st' F' → (∀ a ∈ F', a ∈ F) → σ'.length = σ.length → (∀ i, i ∉ ps → σ'[i]? = σ[i]?) → Q σ' H) → tg v σ H Q
variable (Γ) in
structure GP (X : Cx) (e : Expr) (ps : List Nat) (tg : TG) (g : Pat) : Prop where
  p : PG X e tg
  o : PatOk Γ ps tg g
variable (Γ) in
structure GPs (X : Cx) (e : List Expr) (ps : List Nat) (tg : TGs) (g : List Pat) : Prop where
  p : PGs X e tg
  o : PatsOk Γ ps tg g
theorem gp_name {X : Cx} {pos : Pos} (i : Nat) {x : Str} (hN : X.N.Nodup) (hi : X.N[i]? = some x := by rfl) (hx : Loc X.env.scope x := by first | exact Or.inl rfl | exact Or.inr rfl) (hf : X.fn x = true ∨ X.env.scope.names.lookup x = some .local := by first | exact .inl rfl | exact .inr rfl | assumption) :
    GP Γ X (.Name x pos) [i] (L2.gName i) (gName i) := ⟨pg_name hN hi hx hf, fun {B H σ st st' F v d Q} S r e k => by
  cases e
  have p : PostV Γ B H F σ (.imm d) st v H B [] F := PostV.imm (PostS.refl S) r
  obtain ⟨F2, q⟩ := PostV.store (fx := []) (i := i) (fun z => nomatch z) p
  refine k _ F2 q.s (fun a m => ?_) (List.length_set ..) fun j hj => List.getElem?_set_ne fun e => hj (by simp [e])
  rcases q.u.new a m with z | z
  · exact z
  · exact ((q.s.there a m).ne z).elim⟩
theorem gps_nil {X : Cx} : GPs Γ X [] [] L2.gNil [] := ⟨pgs_nil, fun {B H σ st st' F v d Q} S r e k => by
  cases r with
  | nil =>
    cases e
    exact ⟨rfl, k σ F S (fun _ m => m) rfl fun _ _ => rfl⟩
  | cons _ _ => exact nomatch e⟩
theorem gps_cons {X : Cx} {e : Expr} {es : List Expr} {p1 p2 : List Nat} {t1 : TG} {t2 : TGs} {g : Pat} {gs : List Pat} (h1 : GP Γ X e p1 t1 g) (h2 : GPs Γ X es p2 t2 gs)
    (hs : (assignEach (e :: es) X.env).map (·.2) = assign e X.env :: (assignEach es X.env).map (·.2) := by rfl) : GPs Γ X (e :: es) (p1 ++ p2) (L2.gCons t1 t2) (g :: gs) := ⟨pgs_cons h1.p h2.p hs, fun {B H σ st st' F v d Q} S r e k => by
  cases r with
  | nil => exact nomatch e
  | @cons v1 d1 vs ds r1 r2 =>
    refine ⟨v1, vs, rfl, ?_⟩
    have e' : (g d1 st).bind (gAll gs ds) = some st' := e
    cases q : g d1 st with
    | none => rw [q] at e'; exact nomatch e'
    | some s1 =>
      rw [q] at e'
      refine h1.o S r1 q fun σ1 F1 S1 f1 l1 k1 => ?_
      exact h2.o S1 r2 e' fun σ2 F2 S2 f2 l2 k2 => k σ2 F2 S2 (fun a m => f1 a (f2 a m)) (l2.trans l1) fun i hi => (k2 i fun z => hi (List.mem_append_right _ z)).trans (k1 i fun z => hi (List.mem_append_left _ z))⟩
theorem gAll_len : ∀ {gs : List Pat} {ds : List D} {st st' : G.St}, gAll gs ds st = some st' → gs.length = ds.length
  | [], [], _, _, _ => rfl
  | [], _ :: _, _, _, h => nomatch h
  | _ :: _, [], _, _, h => nomatch h
  | g :: gs, d :: ds, st, st', h => by
    have h' : (g d st).bind (gAll gs ds) = some st' := h
    cases q : g d st with
    | none => rw [q] at h'; exact nomatch h'
    | some s1 =>
      rw [q] at h'
      simp [gAll_len h']
theorem gp_tup {X : Cx} {es : List Expr} {k : Nat} {pos : Pos} {ps : List Nat} {tg : TGs} {gs : List Pat} (hK : X.K = Γ.K) (hc : X.calm = true) (h : GPs Γ X es ps tg gs)
    (hn : (assignEach es X.env).length = gs.length := by rfl) (hst : (assignEach es X.env).findIdx? (·.1) = none := by rfl) : GP Γ X (.Tuple es k pos) ps (L2.gTup Γ.K gs.length tg) (gTup gs) := ⟨by rw [← hK]; exact pg_tup hc h.p hn hst, fun {B H σ st st' F v d Q} S r e k => by
  cases r with
  | @tup a vs l hs rl =>
    refine ⟨a, vs, rfl, ?_, ?_, h.o S rl e k⟩
    · exact S.ex.st (SqT.of hs)
    · rw [rl.len, gAll_len e]
  | _ => exact nomatch e⟩
theorem gs_asg {X : Cx} {tg e : Expr} {m : Sm T} {ps : List Nat} {g : TG} {gg : Pat} {pos : Pos} (he : PE X e (tSm Γ W m)) (hg : GP Γ X tg ps g gg) (hf : ∀ i ∈ fx, i ∉ ps := by decide) (hs : swapsWithSole [tg] e pos.line X.env = pure false := by rfl) (hw : swappedStores [tg] e X.env = pure none := by rfl)
    (h1 : (assignEach [tg] X.env).map (·.2) = [assign tg X.env] := by rfl) : PS X (.Assign [tg] e pos) (tSs Γ W fx (sAsg gg m)) := PS.weak (ps_asg he hg.p hs hw h1) fun D σ H h =>
  e_sthen (Q := fun x H1 => g x σ H1 D.nx) h fun v t B H F B1 H1 st1 G1 F1 p q => by
    obtain ⟨B2, r, p'⟩ := p.frz
    cases z : gg t.toD st1 with
    | none => rw [z] at q; exact q.elim
    | some st2 =>
      rw [z] at q
      exact hg.o p'.s r z fun σ' F' S' f l k => q σ' H1 B2 F' ⟨S', p'.u.weak f, fun i hi => k i (hf i hi), l⟩
variable (Γ) in
/-- the iterator J yields the items ds -/
def Src (B : Hp) (J : It) (ds : List D) : Prop := ∀ i H, Sub B H → (ds.length ≤ i → J.stop i H) ∧ ∀ d, ds[i]? = some d → J.go i H ∧ ∀ x H', J.yld i H x H' → ∃ B', Upd B H [] B' H' [] ∧ Sub B' H' ∧ Rp Γ B' x d
theorem Src.mono {J : It} {ds : List D} (e : Sub B B') (h : Src Γ B J ds) : Src Γ B J ds := h
variable (Γ) in
def tIm (W : L2.WX) (src : Si) : TI := fun σ H R => ∃ B st F, Stt Γ B H σ st F ∧ RunP (src st) (fun ds st' => ∀ J H' B' F', PostS Γ B H F σ st' H' B' F' → Src Γ B' J ds → R J H') (OutX Γ W B H F σ)
/-- an item that came, over another ground -/
theorem upd_item {J : It} {ds : List D} {i : Nat} {d : D} (s : Src Γ B J ds) (e : Sub B B1) (ex : Sub B1 H) (hd : ds[i]? = some d) {x : V} {H' : Hp} (y : J.yld i H x H') : ∃ B', Upd B1 H [] B' H' [] ∧ Sub B' H' ∧ Rp Γ B' x d := by
  obtain ⟨B0, u, s0, r⟩ := (((s i H (e.trans ex)).2 d hd).2 x H' y)
  have mrg : ∀ a o, B1 a = some o → H' a = some o := fun a o h => u.keep a o (ex a o h) fun z => nomatch z
  refine ⟨fun a => match B1 a with | some o => some o | none => B0 a, ⟨fun a o h => by simp only [h], u.keep, u.dom, fun _ m => (nomatch m), fun a o h => ?_⟩, fun a o h => ?_, r.mono Γ fun a o h => ?_⟩
  · cases q : B1 a with
    | some o' => simp only [q] at h; exact .inl h
    | none =>
      simp only [q] at h
      rcases u.frz a o h with z | z | z
      · rw [e a o z] at q; cases q
      · exact nomatch z
      · exact .inr (.inr z)
  · cases q : B1 a with
    | some o' =>
      simp only [q] at h
      cases h
      exact mrg a _ q
    | none => simp only [q] at h; exact s0 a o h
  · cases q : B1 a with
    | some o' =>
      have := mrg a o' q
      rw [s0 a o h] at this
      exact this.symm
    | none => simp only; exact h
theorem RpL.get {d : D} : ∀ {vs : List V} {ds : List D} {i : Nat}, RpL Γ B vs ds → ds[i]? = some d → ∃ x, vs[i]? = some x ∧ Rp Γ B x d
  | _, _, _, .nil, q => by simp at q
  | _, _, 0, .cons r1 r2, q => by
    have e := Option.some.inj q
    exact ⟨_, rfl, e ▸ r1⟩
  | _, _, i + 1, .cons r1 r2, q => RpL.get (i := i) r2 q
theorem Src.list {a : Addr} {vs : List V} {ds : List D} (h : SqL Γ.K B a vs) (r : RpL Γ B vs ds) : Src Γ B (Itl Γ.K a) ds := fun i H e => by
  have hs := e.sl h
  refine ⟨fun q => ⟨vs, hs, by rw [r.len]; exact q⟩, fun d q => ?_⟩
  obtain ⟨x, hx, rx⟩ := RpL.get r q
  refine ⟨⟨vs, x, hs, hx⟩, fun y H' z => ?_⟩
  obtain ⟨rfl, z⟩ := z
  have e1 := z vs hs
  rw [hx] at e1
  cases e1
  exact ⟨B, .refl, e, rx⟩
theorem Src.tup {a : Addr} {vs : List V} {ds : List D} (h : SqT Γ.K B a vs) (r : RpL Γ B vs ds) : Src Γ B (Itt Γ.K a) ds := fun i H e => by
  have hs := e.st h
  refine ⟨fun q => ⟨vs, hs, by rw [r.len]; exact q⟩, fun d q => ?_⟩
  obtain ⟨x, hx, rx⟩ := RpL.get r q
  refine ⟨⟨vs, x, hs, hx⟩, fun y H' z => ?_⟩
  obtain ⟨rfl, z⟩ := z
  have e1 := z vs hs
  rw [hx] at e1
  cases e1
  exact ⟨B, .refl, e, rx⟩
theorem rng_get : ∀ {n : Nat} {lo c : Int} {i : Nat} {d : D}, (rng lo c n)[i]? = some d → i < n ∧ d = .int (lo + (i : Int) * c)
  | 0, _, _, _, _, h => by simp [rng] at h
  | n + 1, lo, c, 0, d, h => by
    have e : D.int lo = d := by simpa [rng] using h
    refine ⟨Nat.succ_pos _, e ▸ ?_⟩
    congr 1
    simp
  | n + 1, lo, c, i + 1, d, h => by
    obtain ⟨h1, h2⟩ := rng_get (n := n) (lo := lo + c) (c := c) (i := i) (d := d) (by simpa [rng] using h)
    refine ⟨Nat.succ_lt_succ h1, h2.trans ?_⟩
    congr 1
    have : ((i + 1 : Nat) : Int) * c = (i : Int) * c + c := by rw [Int.natCast_add, Int.add_mul]; simp
    rw [this]
    omega
theorem rng_len (n : Nat) : ∀ (lo c : Int), (rng lo c n).length = n := by
  induction n with
  | zero => intro _ _; rfl
  | succ n ih => intro lo c; show (rng (lo + c) c n).length + 1 = _; rw [ih]
theorem Src.range {lo : Int} {n : Nat} : Src Γ B (Itr lo n) (rng lo 1 n) := fun i H e => by
  refine ⟨fun q => by rw [rng_len] at q; exact q, fun d q => ?_⟩
  obtain ⟨h1, rfl⟩ := rng_get q
  refine ⟨h1, fun x H' z => ?_⟩
  obtain ⟨rfl, rfl⟩ := z
  rw [Int.mul_one]
  exact ⟨B, .refl, e, .int _⟩
theorem Src.rangeC {lo c : Int} {n : Nat} : Src Γ B (Itc lo c n) (rng lo c n) := fun i H e => by
  refine ⟨fun q => by rw [rng_len] at q; exact q, fun d q => ?_⟩
  obtain ⟨h1, rfl⟩ := rng_get q
  refine ⟨h1, fun x H' z => ?_⟩
  obtain ⟨rfl, rfl⟩ := z
  exact ⟨B, .refl, e, .int _⟩
section
variable {X : Cx} {tg l a b c : Expr} {m : Sm T} {p pos : Pos} {ra : Sa}
theorem gi_list (hK : X.K = Γ.K) (hl : PE X l (tSm Γ W m)) : PI X tg l (tIm Γ W (iList m)) := PI.weak (pi_list hl) fun σ H R h => by
  obtain ⟨B, st, F, S, h⟩ := h
  unfold iList Sm.bind at h
  rw [run_bind] at h
  refine ⟨B, st, F, S, h.mono (fun t st1 q v H1 B1 G1 F1 p => ?_) fun _ _ q => q⟩
  obtain ⟨B2, r, p'⟩ := p.frz
  rw [hK]
  cases e : t.toD with
  | lst ds =>
    rw [e] at q r
    cases r with
    | @lst a vs _ hs rl => exact ⟨a, rfl, ⟨vs, p'.s.ex.sl (SqL.of hs)⟩, q _ H1 B2 F1 p' (Src.list (SqL.of hs) rl)⟩
  | rol ds =>
    rw [e] at q r
    cases r with
    | @rol a vs _ hs rl => exact ⟨a, rfl, ⟨vs, p'.s.ex.sl hs⟩, q _ H1 B2 F1 p' (Src.list hs rl)⟩
  | _ => rw [e] at q; exact q.elim
theorem gi_tup (hK : X.K = Γ.K) (hl : PE X l (tSm Γ W m)) : PI X tg l (tIm Γ W (iTup m)) := PI.weak (pi_tup hl) fun σ H R h => by
  obtain ⟨B, st, F, S, h⟩ := h
  unfold iTup Sm.bind at h
  rw [run_bind] at h
  refine ⟨B, st, F, S, h.mono (fun t st1 q v H1 B1 G1 F1 p => ?_) fun _ _ q => q⟩
  obtain ⟨B2, r, p'⟩ := p.frz
  rw [hK]
  cases e : t.toD with
  | tup ds =>
    rw [e] at q r
    cases r with
    | @tup a vs _ hs rl => exact ⟨a, rfl, ⟨vs, p'.s.ex.st (SqT.of hs)⟩, q _ H1 B2 F1 p' (Src.tup (SqT.of hs) rl)⟩
  | _ => rw [e] at q; exact q.elim
theorem small_62 {i : Int} (h : small i = true) : -(2 ^ 62) ≤ i ∧ i < 2 ^ 62 ∧ -1000000000 ≤ i ∧ i ≤ 1000000000 := by
  unfold small at h
  simp only [Bool.and_eq_true, decide_eq_true_eq] at h
  omega
theorem e_range {f : List D → Option (List D)} {R : It → Hp → Prop} {K : List V → Hp → Prop} (h : tIm Γ W (iRange f ra) σ H R)
    (n : ∀ vs ds its B1 H1, Sub B1 H1 → RpL Γ B1 vs ds → f ds = some its → (∀ J, Src Γ B1 J its → R J H1) → K vs H1) : tAm Γ W ra σ H K := by
  obtain ⟨B, st, F, S, h⟩ := h
  unfold iRange Sm.bind at h
  rw [run_bind] at h
  refine ⟨B, st, F, S, h.mono (fun ps st1 q vs H1 B1 G1 F1 p => ?_) fun _ _ q => q⟩
  obtain ⟨B2, r, p'⟩ := p.frz
  obtain ⟨its, e, q⟩ := run_ofO q
  exact n vs _ its B2 H1 p'.s.ex r e fun J s => q J H1 B2 F1 p' s
theorem gi_range1 (hg : Gl X "range") (hm : X.mg "range" = none) (ha : PA X [a] (tAm Γ W ra)) (hs : starEach [a] X.env = [(false, eval a X.env)] := by rfl) : PI X tg (.Call (.Name "range" p) [a] [] pos) (tIm Γ W (iRange rng1 ra)) :=
  PI.weak (pi_range1 hg hm ha hs) fun σ H R h => e_range h fun vs ds its B1 H1 ex r e k => by
    match ds, r, e with
    | [.int n], .cons (.int _) .nil, e =>
      have e' : (if small n then some (rng 0 1 n.toNat) else none) = some its := e
      by_cases z : small n = true
      · rw [if_pos z] at e'
        cases e'
        have b := small_62 z
        exact ⟨n, rfl, b.1, b.2.1, k _ Src.range⟩
      · rw [if_neg z] at e'
        exact nomatch e'
theorem gi_range3 (hg : Gl X "range") (hm : X.mg "range" = none) (ha : PA X [a, b, c] (tAm Γ W ra))
    (hs : starEach [a, b, c] X.env = (false, eval a X.env) :: starEach [b, c] X.env := by rfl) (hpl : (backTo pos (starEach [b, c] X.env)).any (·.1) = false := by rfl) :
    PI X tg (.Call (.Name "range" p) [a, b, c] [] pos) (tIm Γ W (iRange rng3 ra)) :=
  PI.weak (pi_range3 hg hm ha hs hpl) fun σ H R h => e_range h fun vs ds its B1 H1 ex r e k => by
    match ds, r, e with
    | [.int n, .int n2, .int n3], .cons (.int _) (.cons (.int _) (.cons (.int _) .nil)), e =>
      have e' : (if small n && small n2 && small n3 && decide (0 < n3) then some (rng n n3 (if n < n2 then (n2 - n - 1) / n3 + 1 else 0).toNat) else none) = some its := e
      by_cases z : (small n && small n2 && small n3 && decide (0 < n3)) = true
      · rw [if_pos z] at e'
        cases e'
        simp only [Bool.and_eq_true, decide_eq_true_eq] at z
        obtain ⟨⟨⟨z1, z2⟩, z3⟩, z4⟩ := z
        have b := small_62 z1
        have b2 := small_62 z2
        have b3 := small_62 z3
        have es : Builtin.Range.rangeSize n n2 n3 = ((if n < n2 then (n2 - n - 1) / n3 + 1 else 0).toNat : Int) := by
          unfold Builtin.Range.rangeSize
          rw [if_pos (show n3 > 0 from z4)]
          by_cases y : n < n2
          · rw [if_pos y]
            have := Int.ediv_nonneg (show (0 : Int) ≤ n2 - n - 1 by omega) (Int.le_of_lt z4)
            omega
          · rw [if_neg y]
            rfl
        refine ⟨n, n2, n3, _, rfl, ⟨by omega, by omega, ?_, es⟩, k _ Src.rangeC⟩
        unfold Builtin.Range.small
        rw [es]
        have hb : ((if n < n2 then (n2 - n - 1) / n3 + 1 else 0).toNat : Int) ≤ 2000000001 := by
          by_cases y : n < n2
          · rw [if_pos y]
            have h1 := Int.ediv_nonneg (show (0 : Int) ≤ n2 - n - 1 by omega) (Int.le_of_lt z4)
            have h2 : (n2 - n - 1) / n3 ≤ n2 - n - 1 := Int.ediv_le_self _ (by omega)
            omega
          · rw [if_neg y]
            decide
        simp only [Builtin.Range.rangeFitsLong, Bool.and_eq_true, Bool.or_eq_true, decide_eq_true_eq, beq_iff_eq]
        rw [if_pos z4, Bool.and_eq_true, decide_eq_true_eq, decide_eq_true_eq]
        have hq : (0 : Int) ≤ ((if n < n2 then (n2 - n - 1) / n3 + 1 else 0).toNat : Int) := Int.natCast_nonneg _
        omega
      · rw [if_neg z] at e'
        exact nomatch e'
end
end
end G
set_option Elab.async false
set_option linter.all false
set_option maxRecDepth 100000
namespace G
open PySem L2
section
variable {Γ : Wh}
variable {B H B' H' B1 H1 B2 H2 : Hp} {σ σ1 σ2 : L2.St} {st st1 st2 : G.St} {F F' F1 F2 F3 F4 G1 G2 : List Addr} {t t1 t2 : T} {v v1 v2 : V} {W : L2.WX} {fx : List Nat}
/-- the heap grew by data -/
theorem Stt.grow (S : Stt Γ B H σ st F) (u : Upd B H [] B' H' []) (ex : Sub B' H') : PostT Γ B H F fx σ σ st H' B' F :=
  ⟨⟨ex, S.sl.at u.b (u.at fun _ _ z => nomatch z), S.nd, u.frB (fun _ _ z => nomatch z) S.fr S.there⟩, Upd.refl.comp u (fun _ z => nomatch z) fun a m => .inr m, fun _ _ => rfl, rfl⟩
theorem drop_cons {α : Type} {l : List α} {i : Nat} (h : i < l.length) : ∃ d, l[i]? = some d ∧ l.drop i = d :: l.drop (i + 1) := ⟨l[i], List.getElem?_eq_getElem h, List.drop_eq_getElem_cons h⟩
section
variable {X : Cx} {tgt it : Expr} {bs : List Stmt} {pos : Pos} {ps : List Nat} {tg : TG} {g : Pat} {src : Si} {body : Ss} {wi : TI}
theorem e_for {D : Ends} (hg : PatOk Γ ps tg g) (hf : ∀ i ∈ fx, i ∉ ps) (h : tSs Γ W fx (sFor src g body) D σ H) : tFor (tIm Γ W src) tg (tSs Γ W fx body) D σ H := by
  obtain ⟨B, st, F, S, h⟩ := h
  unfold sFor Sm.bind at h
  rw [run_bind] at h
  refine ⟨B, st, F, S, h.mono (fun ds st1 q J H1 B1 F1 p s => ?_) fun _ _ q => OutS.x q⟩
  let N : Nat → L2.St → Hp → Prop := fun i σ' H' => ∃ B' st' F', Stt Γ B' H' σ' st' F' ∧ Sub B1 B' ∧ RunP (loopFor g body (ds.drop i) st') (EndS Γ D fx σ' B' H' F') (OutS Γ W fx σ' B' H' F')
  refine ⟨fun i m σ' H' => m = ds.length - i ∧ i ≤ ds.length ∧ N i σ' H', ⟨ds.length, by simp, Nat.zero_le _, B1, st1, F1, p.s, Sub.refl _, ?_⟩, ?_⟩
  · exact RunP.mono q (fun f st' => EndS.after (PostT.ofS p)) fun x st' => OutS.after (PostT.ofS p)
  · rintro i m σ' H' ⟨rfl, hi, B', st', F', S', e, r⟩
    by_cases hlt : i < ds.length
    · obtain ⟨d, hd, hdr⟩ := drop_cons hlt
      rw [hdr] at r
      have sj := (s i H' (e.trans S'.ex)).2 d hd
      refine .inr ⟨sj.1, N (i + 1), fun σ2 H2 n => ⟨ds.length - (i + 1), by omega, rfl, hlt, n⟩, fun x H2 y => ?_⟩
      obtain ⟨B2, u, ex2, rx⟩ := upd_item s e S'.ex hd y
      have p1 : PostT Γ B' H' F' fx σ' σ' st' H2 B2 F' := S'.grow u ex2
      cases z : g d st' with
      | none =>
        have r' : RunP (match g d st' with
          | none => .no
          | some st1 => (body st1).bind fun f st2 => match f with
            | .nx => loopFor g body (ds.drop (i + 1)) st2
            | .ct => loopFor g body (ds.drop (i + 1)) st2
            | .bk => .ok .nx st2
            | .rt t => .ok (.rt t) st2) _ _ := r
        rw [z] at r'
        exact r'.elim
      | some st2 =>
        have r' : RunP (match g d st' with
          | none => .no
          | some st1 => (body st1).bind fun f st2 => match f with
            | .nx => loopFor g body (ds.drop (i + 1)) st2
            | .ct => loopFor g body (ds.drop (i + 1)) st2
            | .bk => .ok .nx st2
            | .rt t => .ok (.rt t) st2) _ _ := r
        rw [z] at r'
        have r2 : RunP ((body st2).bind fun f st2 => match f with
            | .nx => loopFor g body (ds.drop (i + 1)) st2
            | .ct => loopFor g body (ds.drop (i + 1)) st2
            | .bk => .ok .nx st2
            | .rt t => .ok (.rt t) st2) _ _ := r'
        rw [run_bind] at r2
        refine hg p1.s rx z fun σ2 F2 S2 f l k => ?_
        have p2 : PostT Γ B' H' F' fx σ' σ2 st2 H2 B2 F2 := ⟨S2, p1.u.weak f, fun j hj => k j (hf j hj), l⟩
        refine ⟨B2, st2, F2, S2, r2.mono (fun fl st3 q => ?_) fun x st3 q => OutS.after p2 q⟩
        cases fl with
        | nx => exact fun σ3 H3 B3 F3 p3 => ⟨B3, st3, F3, p3.s, (e.trans p2.u.b).trans p3.u.b, RunP.mono q (fun f st' => EndS.after (p2.trans p3)) fun x st' => OutS.after (p2.trans p3)⟩
        | ct => exact fun σ3 H3 B3 F3 p3 => ⟨B3, st3, F3, p3.s, (e.trans p2.u.b).trans p3.u.b, RunP.mono q (fun f st' => EndS.after (p2.trans p3)) fun x st' => OutS.after (p2.trans p3)⟩
        | bk => exact fun σ3 H3 B3 F3 p3 => q σ3 H3 B3 F3 (p2.trans p3)
        | rt t => exact fun σ3 v H3 B3 G3 F3 p3 => q σ3 v H3 B3 G3 F3 (PostR.after p2 p3)
    · have ei : i = ds.length := by omega
      subst ei
      refine .inl ⟨(s ds.length H' (e.trans S'.ex)).1 (Nat.le_refl _), ?_⟩
      rw [List.drop_length] at r
      exact r σ' H' B' F' (PostT.refl S')
theorem gs_for (hp : PassesOwn (model X.prog X.w) X.A X.env X.xe) (hc : X.calm = true) (hi : PI X tgt it (tIm Γ W src)) (hg : GP Γ X tgt ps tg g) (hb : PSs X bs (tSs Γ W fx body)) (hf : ∀ i ∈ fx, i ∉ ps := by decide)
    (hs : ∀ x, foldedSetIterable it X.env x = pure x := by intro _; rfl) : PS X (.For tgt it bs [] pos) (tSs Γ W fx (sFor src g body)) := PS.weak (ps_for hp hc hi hg.p hb hs) fun D σ H => e_for hg.o hf
theorem e_while {D : Ends} {c : Sm Bool} {n : Nat} (h : tSs Γ W fx (loopW c body n) D σ H) : tWhile (tBm Γ W c) (tSs Γ W fx body) D σ H := by
  refine ⟨fun m σ H => tSs Γ W fx (loopW c body m) D σ H, ⟨n, h⟩, fun m σ H h => ?_⟩
  obtain ⟨B, st, F, S, h⟩ := h
  cases m with
  | zero => exact h.elim
  | succ m =>
    have h' : RunP ((c st).bind fun b => if b then Sm.bind body fun f => match f with
      | .nx => loopW c body m
      | .ct => loopW c body m
      | .bk => fun st => .ok .nx st
      | .rt t => fun st => .ok (.rt t) st
      else fun st => .ok .nx st) (EndS Γ D fx σ B H F) (OutS Γ W fx σ B H F) := h
    rw [run_bind] at h'
    refine ⟨B, st, F, S, h'.mono (fun b st1 q H1 B1 F1 p => ?_) fun _ _ q => OutS.x q⟩
    have p0 : PostT Γ B H F fx σ σ st1 H1 B1 F1 := PostT.ofS p
    cases b with
    | false => exact q σ H1 B1 F1 p0
    | true =>
      refine ⟨fun σ H => tSs Γ W fx (loopW c body m) D σ H, fun σ' H' w => ⟨m, Nat.lt_succ_self m, w⟩, B1, st1, F1, p.s, ?_⟩
      have q' : RunP ((body st1).bind fun f => match f with
        | .nx => loopW c body m
        | .ct => loopW c body m
        | .bk => fun st => .ok .nx st
        | .rt t => fun st => .ok (.rt t) st) (EndS Γ D fx σ B H F) (OutS Γ W fx σ B H F) := q
      rw [run_bind] at q'
      refine q'.mono (fun fl st2 q => ?_) fun x st' => OutS.after p0
      cases fl with
      | nx => exact fun σ3 H3 B3 F3 p3 => ⟨B3, st2, F3, p3.s, RunP.mono q (fun f st' => EndS.after (p0.trans p3)) fun x st' => OutS.after (p0.trans p3)⟩
      | ct => exact fun σ3 H3 B3 F3 p3 => ⟨B3, st2, F3, p3.s, RunP.mono q (fun f st' => EndS.after (p0.trans p3)) fun x st' => OutS.after (p0.trans p3)⟩
      | bk => exact fun σ3 H3 B3 F3 p3 => q σ3 H3 B3 F3 (p0.trans p3)
      | rt t => exact fun σ3 v H3 B3 G3 F3 p3 => q σ3 v H3 B3 G3 F3 (PostR.after p0 p3)
theorem gs_while (n : Nat) {c : Expr} {mc : Sm Bool} (hp : PassesOwn (model X.prog X.w) X.A X.env X.xe) (hc : PT X c (tBm Γ W mc)) (hb : PSs X bs (tSs Γ W fx body)) : PS X (.While c bs [] pos) (tSs Γ W fx (loopW mc body n)) :=
  PS.weak (ps_while hp hc hb) fun D σ H => e_while
end
/-- the slots vs taken off the state, and how they come back -/
theorem Sl.wipe (S : Stt Γ B H σ st F) : ∀ vs : List Nat, ∃ Fh Fi, Stt Γ B H (L2.wipe σ vs) (G.wipe st vs) Fi ∧ (∀ a ∈ Fi, a ∈ F) ∧ (∀ a ∈ Fh, a ∈ F) ∧ (∀ a ∈ Fh, a ∉ Fi) ∧
    ∀ B' H' sx Fx, Sub B B' → At H H' Fh → Sl Γ B' H' (L2.wipe σ vs) sx Fx → Fx.Nodup → (∀ a ∈ Fh, a ∉ Fx) → ∃ Fy, Sl Γ B' H' σ (G.back st vs sx) Fy ∧ Fy.Nodup ∧ ∀ a ∈ Fy, a ∈ Fh ∨ a ∈ Fx
  | [] => ⟨[], F, S, fun _ m => m, fun _ m => (nomatch m), fun _ m => (nomatch m), fun B' H' sx Fx _ _ s n _ => ⟨Fx, s, n, fun a m => .inr m⟩⟩
  | i :: vs => by
    obtain ⟨Fh, Fi, S1, i1, h1, d1, k1⟩ := Sl.wipe S vs
    by_cases hl : i < (G.wipe st vs).length
    · obtain ⟨A, Gg, C, rfl, g, p⟩ := S1.sl.open hl
      have nd := nd_mid.mp S1.nd
      have nd2 := nd_app.mp nd
      have sub : ∀ a ∈ A ++ C, a ∈ A ++ (Gg ++ C) := fun a m => by
        rcases List.mem_append.mp m with m | m
        · exact List.mem_append_left _ m
        · exact List.mem_append_right _ (List.mem_append_right _ m)
      have subG : ∀ a ∈ Gg, a ∈ A ++ (Gg ++ C) := fun a m => List.mem_append_right _ (List.mem_append_left _ m)
      refine ⟨Gg ++ Fh, A ++ C, ⟨S1.ex, (p B H (Sub.refl B) at_self).2 none, nd2.2.1, fun a m => S1.fr a (sub a m)⟩, fun a m => i1 a (sub a m), fun a m => ?_, fun a m z => ?_, fun B' H' sx Fx e k s n d => ?_⟩
      · rcases List.mem_append.mp m with m | m
        · exact i1 a (subG a m)
        · exact h1 a m
      · rcases List.mem_append.mp m with m | m
        · exact nd2.2.2 a m z
        · exact d1 a m (sub a z)
      · have hl2 : i < sx.length := by
          rw [← s.len]
          show i < ((L2.wipe σ vs).set i none).length
          rw [List.length_set, S1.sl.len]
          exact hl
        obtain ⟨A', G', C', rfl, _, p'⟩ := s.open hl2
        have ndx := nd_app.mp (nd_mid.mp n)
        have sub' : ∀ a ∈ A' ++ C', a ∈ A' ++ (G' ++ C') := fun a m => by
          rcases List.mem_append.mp m with m | m
          · exact List.mem_append_left _ m
          · exact List.mem_append_right _ (List.mem_append_right _ m)
        have p' := p' B' H' (Sub.refl _) at_self
        have dG : ∀ a ∈ Gg, a ∉ A' ++ C' := fun a m z => d a (List.mem_append_left _ m) (sub' a z)
        have dH : ∀ a ∈ Fh, a ∉ A' ++ C' := fun a m z => d a (List.mem_append_right _ m) (sub' a z)
        have es : ∀ x, (L2.wipe σ vs)[i]? = some x → ((L2.wipe σ vs).set i none).set i x = L2.wipe σ vs := fun x hx => by
          rw [List.set_set]
          exact set_self hx
        have hx0 : ∃ x, (L2.wipe σ vs)[i]? = some x := by
          have : i < (L2.wipe σ vs).length := by rw [S1.sl.len]; exact hl
          exact ⟨_, List.getElem?_eq_getElem this⟩
        show ∃ Fy, Sl Γ B' H' σ (G.back st vs (sx.set i ((G.wipe st vs)[i]?.getD none))) Fy ∧ Fy.Nodup ∧ _
        cases q : (G.wipe st vs)[i]? with
        | none => exact absurd (List.getElem?_eq_none_iff.mp q) (Nat.not_le_of_lt hl)
        | some o =>
          cases o with
          | none =>
            obtain ⟨x, hx⟩ := hx0
            have s2 := p'.2 x
            have s2' : Sl Γ B' H' (((L2.wipe σ vs).set i none).set i x) (sx.set i none) (A' ++ C') := s2
            rw [es x hx] at s2'
            obtain ⟨Fy, sy, ny, zy⟩ := k1 B' H' _ _ e k.r s2' ndx.2.1 dH
            exact ⟨Fy, sy, ny, fun a m => (zy a m).imp (fun m => List.mem_append_right _ m) (sub' a)⟩
          | some t =>
            obtain ⟨v, hv, o⟩ := g t q
            have s2 := p'.1 v t Gg (o.at e k.l)
            have s2' : Sl Γ B' H' (((L2.wipe σ vs).set i none).set i (some v)) (sx.set i (some t)) (A' ++ (Gg ++ C')) := s2
            rw [es _ hv] at s2'
            have ndG : Gg.Nodup := nd2.1
            have n2 : (A' ++ (Gg ++ C')).Nodup := nd_mid.mpr (nd_app.mpr ⟨ndG, ndx.2.1, dG⟩)
            have d2 : ∀ a ∈ Fh, a ∉ A' ++ (Gg ++ C') := fun a m z => by
              rcases List.mem_append.mp z with z | z
              · exact dH a m (List.mem_append_left _ z)
              · rcases List.mem_append.mp z with z | z
                · exact d1 a m (subG a z)
                · exact dH a m (List.mem_append_right _ z)
            obtain ⟨Fy, sy, ny, zy⟩ := k1 B' H' _ _ e k.r s2' n2 d2
            refine ⟨Fy, sy, ny, fun a m => ?_⟩
            rcases zy a m with z | z
            · exact .inl (List.mem_append_right _ z)
            · rcases List.mem_append.mp z with z | z
              · exact .inr (List.mem_append_left _ z)
              · rcases List.mem_append.mp z with z | z
                · exact .inl (List.mem_append_left _ z)
                · exact .inr (List.mem_append_right _ (List.mem_append_right _ z))
    · have e1 : G.wipe st (i :: vs) = G.wipe st vs := set_out hl
      have hl2 : ¬ i < (L2.wipe σ vs).length := by rw [S1.sl.len]; exact hl
      have e2 : L2.wipe σ (i :: vs) = L2.wipe σ vs := set_out hl2
      rw [e1, e2]
      refine ⟨Fh, Fi, S1, i1, h1, d1, fun B' H' sx Fx e k s n d => ?_⟩
      have hx : ¬ i < sx.length := by rw [← s.len]; exact hl2
      have e3 : G.back st (i :: vs) sx = G.back st vs sx := by
        show G.back st vs (sx.set i _) = _
        rw [set_out hx]
      rw [e3]
      exact k1 B' H' sx Fx e k s n d
theorem run_nox {α : Type} {m : Sm α} {K : α → G.St → Prop} {KX KX' : G.X → G.St → Prop} (h : RunP (nox m st) K KX) : RunP (m st) K KX' := by
  unfold nox at h
  cases e : m st with
  | no => rw [e] at h; exact h
  | ok a s => rw [e] at h; exact h
  | ex x s => rw [e] at h; exact h.elim
theorem run_nox' {α : Type} {m : Sm α} {K : α → G.St → Prop} {KX : G.X → G.St → Prop} (h : RunP (nox m st) K KX) : RunP (nox m st) K fun _ _ => False := by
  unfold nox at h ⊢
  cases e : m st with
  | no => rw [e] at h; exact h
  | ok a s => rw [e] at h; exact h
  | ex x s => rw [e] at h; exact h.elim
abbrev W0 : L2.WX := fun _ _ _ _ => False
section
variable {own : List Nat} {tg : TG} {g : Pat} {src : Si} {test : Sm Bool} {elt : Sm T} {ps : List Nat}
/-- what stands within a comprehension -/
structure LcSt (own : List Nat) (g : Pat) (test : Sm Bool) (elt : Sm T) (ds : List D) (Da : Addr) (B0 H0 : Hp) (σ : L2.St) (F0 : List Addr) (K : List T → G.St → Prop) (i : Nat) (H : Hp) (B : Hp) (st : G.St) (F G : List Addr) (vs : List V) (acc : List T) : Prop where
  s : Stt Γ B H (L2.wipe σ own) st F
  d : H Da = some (.lst vs)
  o : OwL Γ B H vs acc G
  nd : (Da :: (G ++ F)).Nodup
  fr : ∀ a ∈ Da :: G, B a = none
  u : Upd B0 H0 F0 B H (Da :: (G ++ F))
  r : RunP (loopLC own g test elt (ds.drop i) acc st) K fun _ _ => False
theorem wipe_of_len {σ σ' : L2.St} : ∀ {own : List Nat}, σ'.length = σ.length → (∀ i, i ∉ own → σ'[i]? = σ[i]?) → L2.wipe σ' own = L2.wipe σ own := fun {own} hl h => by
  have get : ∀ (τ : L2.St) (vs : List Nat) (i : Nat), (L2.wipe τ vs)[i]? = if i ∈ vs ∧ i < τ.length then some none else τ[i]? := by
    intro τ vs
    induction vs with
    | nil => intro i; simp [L2.wipe]
    | cons w ws ih =>
      intro i
      show ((L2.wipe τ ws).set w none)[i]? = _
      rw [List.getElem?_set, ih i]
      have hlw : (L2.wipe τ ws).length = τ.length := L2.wipe_length τ ws
      rw [hlw]
      by_cases e : w = i
      · subst e
        by_cases hw : w < τ.length
        · simp [hw]
        · simp [hw]
      · simp [e, List.mem_cons, Ne.symm e]
  apply List.ext_getElem?
  intro i
  rw [get, get, hl]
  by_cases hi : i ∈ own ∧ i < σ.length
  · simp [hi]
  · rw [if_neg hi, if_neg hi]
    by_cases ho : i ∈ own
    · have h1 : ¬ i < σ.length := fun z => hi ⟨ho, z⟩
      rw [List.getElem?_eq_none (by omega), List.getElem?_eq_none (by omega)]
    · exact h i ho
theorem wipe_wipe {σ : L2.St} {own : List Nat} : L2.wipe (L2.wipe σ own) own = L2.wipe σ own := by
  refine wipe_of_len (L2.wipe_length σ own) fun i hi => ?_
  have : ∀ (vs : List Nat), i ∉ vs → (L2.wipe σ vs)[i]? = σ[i]? := by
    intro vs
    induction vs with
    | nil => intro _; rfl
    | cons w ws ih =>
      intro hn
      show ((L2.wipe σ ws).set w none)[i]? = _
      rw [List.getElem?_set_ne (fun e => hn (by rw [e]; exact List.mem_cons_self))]
      exact ih fun z => hn (List.mem_cons_of_mem _ z)
  exact this own hi
theorem lcg_core {σ : L2.St} {B H B1 H1 : Hp} {st1 : G.St} {F F1 : List Addr} {J : It} {ds : List G.D} {Q : VK} (hg : PatOk Γ ps tg g) (hps : ∀ i ∈ ps, i ∈ own) (p : PostS Γ B H F σ st1 H1 B1 F1) (s : Src Γ B1 J ds)
    (q : RunP ((loopLC own g test elt ds [] (G.wipe st1 own)).bind fun l st' => .ok (.lst l) (back st1 own st')) (fun t st' => ∀ v H' B' G F', PostV Γ B H F σ t st' v H' B' G F' → Q v H') (OutX Γ W B H F σ)) : tLc (fun _ H R => R J H) tg (tBm Γ W0 test) (tSm Γ W0 elt) own σ H1 Q := by
  rw [run_bind] at q
  intro D hD
  obtain ⟨Fh, Fi, Si, i1, h1, d1, k1⟩ := Sl.wipe p.s own
  have q : RunP (loopLC own g test elt ds [] (G.wipe st1 own)) (fun l st' => ∀ v H' B' G F', PostV Γ B H F σ (.lst l) (back st1 own st') v H' B' G F' → Q v H') fun _ _ => False := by
    have nox_loop : ∀ (ds : List G.D) (acc : List T) (st : G.St) (K : List T → G.St → Prop) (KX KX' : G.X → G.St → Prop), RunP (loopLC own g test elt ds acc st) K KX → RunP (loopLC own g test elt ds acc st) K KX' := by
      intro ds
      induction ds with
      | nil => intro acc st K KX KX' h; exact h
      | cons d r ih =>
        intro acc st K KX KX' h
        unfold loopLC at h ⊢
        cases z : g d st with
        | none => rw [z] at h; exact h
        | some s1 =>
          rw [z] at h
          simp only at h ⊢
          rw [run_bind] at h ⊢
          have h := run_nox' h
          refine RunP.mono h (fun b s2 h => ?_) fun _ _ h => h.elim
          cases b with
          | true =>
            simp only [if_true] at h ⊢
            rw [run_bind] at h ⊢
            have h := run_nox' h
            refine RunP.mono h (fun t s3 h => ?_) fun _ _ h => h.elim
            by_cases hl : acc.length < line
            · rw [if_pos hl] at h ⊢; exact ih _ _ _ _ _ h
            · rw [if_neg hl] at h; exact h.elim
          | false => exact ih _ _ _ _ _ h
    exact nox_loop _ _ _ _ _ _ (q.mono (fun l st' z => z) fun _ _ z => z)
  have sD : Sub H1 (upd H1 D (.lst [])) := Sub.new hD
  have DF : D ∉ Fi := fun z => (Si.there D z).ne hD
  let Inv : Nat → Hp → Prop := fun i H' => i ≤ ds.length ∧ Sub B1 H' ∧ ∃ B' st' F' G' vs acc, LcSt (Γ := Γ) own g test elt ds D B1 H1 σ Fi (fun l st' => ∀ v H' B' G F', PostV Γ B H F σ (.lst l) (back st1 own st') v H' B' G F' → Q v H') i H' B' st' F' G' vs acc
  refine ⟨fun i m H' => m = ds.length - i ∧ Inv i H', ⟨ds.length, by simp, Nat.zero_le _, p.s.ex.trans sD, B1, G.wipe st1 own, Fi, [], [], [], ⟨⟨Si.ex.trans sD, Si.sl.at (Sub.refl _) fun a _ o h => sD a o h, Si.nd, Si.fr⟩, upd_same, .nil, ?_, ?_, ?_, q⟩⟩, ?_⟩
  · exact List.nodup_cons.mpr ⟨DF, Si.nd⟩
  · intro a m
    rw [List.mem_singleton.mp m]
    exact Si.ex.none hD
  · refine Upd.refl.comp (upd_newH (B := B1) hD) (fun _ z => nomatch z) fun a m => ?_
    rcases List.mem_cons.mp m with rfl | m
    · exact .inl (List.mem_singleton.mpr rfl)
    · exact .inr m
  · rintro i m H' ⟨rfl, hi, eH, B', st', F', G', vs, acc, L⟩
    by_cases hlt : i < ds.length
    · obtain ⟨d, hd, hdr⟩ := drop_cons hlt
      have sj := (s i H' eH).2 d hd
      refine .inr ⟨sj.1, Inv (i + 1), fun H2 n => ⟨ds.length - (i + 1), by omega, rfl, n⟩, fun x H2 y => ?_⟩
      obtain ⟨B2, u, ex2, rx⟩ := upd_item s L.u.b L.s.ex hd y
      have r := L.r
      rw [hdr] at r
      unfold loopLC at r
      have p1 : PostT Γ B' H' F' [] (L2.wipe σ own) (L2.wipe σ own) st' H2 B2 F' := L.s.grow u ex2
      cases z : g d st' with
      | none => rw [z] at r; exact r.elim
      | some st2 =>
        rw [z] at r
        simp only at r
        rw [run_bind] at r
        refine hg p1.s rx z fun σ2 F2 S2 f l k => ?_
        have ew : L2.wipe σ2 own = L2.wipe σ own := by
          rw [← wipe_wipe (σ := σ)]
          exact wipe_of_len l fun j hj => k j fun z => hj (hps j z)
        refine ⟨ew, B2, st2, F2, S2, (run_nox (KX' := OutX Γ W0 B2 H2 F2 σ2) r).mono (fun b st3 r H3 B3 F3 p3 => ?_) fun _ _ z => z⟩
        -- how far we are from the turn's start
        have p2 : Upd B' H' F' B2 H2 F2 := p1.u.weak f
        have p23 : Upd B' H' F' B3 H3 F3 := p2.trans p3.u
        have ndL := nd_app.mp (show ([D] ++ (G' ++ F')).Nodup from L.nd)
        have ndL2 := nd_app.mp ndL.2.1
        have dD : D ∉ F' := fun z => ndL.2.2 D (List.mem_singleton.mpr rfl) (List.mem_append_right _ z)
        have dDG : D ∉ G' := fun z => ndL.2.2 D (List.mem_singleton.mpr rfl) (List.mem_append_left _ z)
        have tG := L.o.there
        cases b with
        | false =>
          have r : RunP (loopLC own g test elt (ds.drop (i + 1)) acc (G.wipe st3 own)) _ _ := r
          obtain ⟨Fh3, Fi3, S3, i3, h3, d3, k3⟩ := Sl.wipe p3.s own
          rw [ew] at S3
          have ap := p23.apart (G' := D :: G') (fun a m => by
            rcases List.mem_cons.mp m with rfl | m
            · exact dD
            · exact ndL2.2.2 a m) fun a m => by
            rcases List.mem_cons.mp m with rfl | m
            · exact ⟨_, L.d, fun _ z => by cases z⟩
            · exact tG a m
          have at3 : At H' H3 (D :: G') := p23.at fun a m => by
            rcases List.mem_cons.mp m with rfl | m
            · exact dD
            · exact ndL2.2.2 a m
          refine ⟨hlt, (L.u.b.trans p23.b).trans p3.s.ex, B3, G.wipe st3 own, Fi3, G', vs, acc, S3, at3.h L.d, L.o.at p23.b at3.t, ?_, ?_, ?_, r⟩
          · refine List.nodup_cons.mpr ⟨fun z => ?_, nd_app.mpr ⟨ndL2.1, S3.nd, fun a m z => ap a (List.mem_cons_of_mem _ m) (i3 a z)⟩⟩
            rcases List.mem_append.mp z with z | z
            · exact dDG z
            · exact ap D List.mem_cons_self (i3 D z)
          · exact p23.frB (fun a m => by
              rcases List.mem_cons.mp m with rfl | m
              · exact dD
              · exact ndL2.2.2 a m) L.fr fun a m => by
              rcases List.mem_cons.mp m with rfl | m
              · exact ⟨_, L.d, fun _ z => by cases z⟩
              · exact tG a m
          · refine L.u.comp p23 (fun a m => List.mem_cons_of_mem _ (List.mem_append_right _ m)) fun a m => ?_
            rcases List.mem_cons.mp m with rfl | m
            · exact .inr List.mem_cons_self
            · rcases List.mem_append.mp m with m | m
              · exact .inr (List.mem_cons_of_mem _ (List.mem_append_left _ m))
              · exact .inl (i3 a m)
        | true =>
          have r : RunP ((nox elt st3).bind fun t st4 => if acc.length < line then loopLC own g test elt (ds.drop (i + 1)) (acc ++ [t]) (G.wipe st4 own) else .no) _ _ := r
          rw [run_bind] at r
          show tSm Γ W0 elt σ2 H3 _
          refine ⟨B3, st3, F3, p3.s, (run_nox (KX' := OutX Γ W0 B3 H3 F3 σ2) r).mono (fun t st4 r w H4 B4 G4 F4 p4 => ?_) fun _ _ z => z⟩
          have p24 : Upd B' H' F' B4 H4 (G4 ++ F4) := p23.trans p4.u
          have ap := p24.apart (G' := D :: G') (fun a m => by
            rcases List.mem_cons.mp m with rfl | m
            · exact dD
            · exact ndL2.2.2 a m) fun a m => by
            rcases List.mem_cons.mp m with rfl | m
            · exact ⟨_, L.d, fun _ z => by cases z⟩
            · exact tG a m
          have at4 : At H' H4 (D :: G') := p24.at fun a m => by
            rcases List.mem_cons.mp m with rfl | m
            · exact dD
            · exact ndL2.2.2 a m
          have fr4 := p24.frB (G' := D :: G') (fun a m => by
              rcases List.mem_cons.mp m with rfl | m
              · exact dD
              · exact ndL2.2.2 a m) L.fr fun a m => by
              rcases List.mem_cons.mp m with rfl | m
              · exact ⟨_, L.d, fun _ z => by cases z⟩
              · exact tG a m
          have hacc : vs.length = acc.length := L.o.len
          by_cases hl : acc.length < line
          · rw [if_pos hl] at r
            refine ⟨vs, at4.h L.d, by rw [hacc]; exact hl, ?_⟩
            obtain ⟨Fh4, Fi4, S4, i4, h4, d4, k4⟩ := Sl.wipe p4.s own
            rw [ew] at S4
            have nd4 := nd_app.mp p4.nd
            have DG4 : D ∉ G4 := fun z => ap D List.mem_cons_self (List.mem_append_left _ z)
            have DF4 : D ∉ F4 := fun z => ap D List.mem_cons_self (List.mem_append_right _ z)
            have up : ∀ (A : List Addr), D ∉ A → At H4 (upd H4 D (.lst (vs ++ [w]))) A := fun A hA a m o h => by
              rw [upd_ne (fun z => hA (by rw [← z]; exact m))]
              exact h
            have bD : B4 D = none := fr4 D List.mem_cons_self
            have app : ∀ {vs : List V} {acc : List T} {G : List Addr}, OwL Γ B4 (upd H4 D (.lst (vs ++ [w]))) vs acc G → True := fun _ => trivial
            have snoc : ∀ {H : Hp} {us : List V} {ts : List T} {G : List Addr}, OwL Γ B4 H us ts G → Ow Γ B4 H w t G4 → OwL Γ B4 H (us ++ [w]) (ts ++ [t]) (G ++ G4) := by
              intro H us
              induction us with
              | nil =>
                intro ts G o1 o2
                cases o1
                have := OwL.cons o2 OwL.nil
                simpa using this
              | cons u us ih =>
                intro ts G o1 o2
                cases o1 with
                | cons o1 o3 =>
                  rw [List.append_assoc]
                  exact .cons o1 (ih o3 o2)
            refine ⟨hlt, ?_, B4, G.wipe st4 own, Fi4, G' ++ G4, vs ++ [w], acc ++ [t], ⟨fun a o h => ?_, S4.sl.at (Sub.refl _) (up _ fun z => DF4 (i4 D z)), S4.nd, S4.fr⟩, upd_same,
              snoc ((L.o.at p24.b at4.t).at (Sub.refl _) (up _ dDG)) (p4.o.at (Sub.refl _) (up _ DG4)), ?_, fun a m => ?_, ?_, r⟩
            · intro a o h
              have h2 := (L.u.b.trans p24.b) a o h
              rw [upd_ne (fun z => by rw [z, bD] at h2; cases h2)]
              exact p4.s.ex a o h2
            · rw [upd_ne (fun z => by rw [z, bD] at h; cases h)]
              exact S4.ex a o h
            · refine List.nodup_cons.mpr ⟨fun z => ?_, ?_⟩
              · simp only [List.mem_append] at z
                rcases z with (z | z) | z
                · exact dDG z
                · exact DG4 z
                · exact DF4 (i4 D z)
              · rw [List.append_assoc]
                refine nd_app.mpr ⟨ndL2.1, nd_app.mpr ⟨nd4.1, S4.nd, fun a m z => nd4.2.2 a m (i4 a z)⟩, fun a m z => ap a (List.mem_cons_of_mem _ m) ?_⟩
                rcases List.mem_append.mp z with z | z
                · exact List.mem_append_left _ z
                · exact List.mem_append_right _ (i4 a z)
            · rcases List.mem_cons.mp m with rfl | m
              · exact bD
              · rcases List.mem_append.mp m with m | m
                · exact fr4 a (List.mem_cons_of_mem _ m)
                · exact p4.fr a m
            · have u5 : Upd B1 H1 Fi B4 H4 (D :: ((G' ++ G4) ++ Fi4)) := L.u.comp p24 (fun a m => List.mem_cons_of_mem _ (List.mem_append_right _ m)) fun a m => by
                simp only [List.mem_cons, List.mem_append] at m ⊢
                rcases m with m | (m | m) | m
                · exact .inr (.inl m)
                · exact .inr (.inr (.inl m))
                · exact .inl (.inl m)
                · exact .inl (.inr (i4 a m))
              have u6 : Upd B4 H4 [D] B4 (upd H4 D (.lst (vs ++ [w]))) [D] := ⟨Sub.refl _, fun a o h n => by rw [upd_ne (fun z => n (by simp [z]))]; exact h, fun a h => by
                by_cases z : a = D
                · rw [z, upd_same]; exact fun y => by cases y
                · rw [upd_ne z]; exact h, fun a m => .inl m, fun a o h => .inl h⟩
              exact u5.comp u6 (fun a m => by rw [List.mem_singleton.mp m]; exact List.mem_cons_self) fun a m => .inr m
          · rw [if_neg hl] at r
            exact r.elim
    · have ei : i = ds.length := by omega
      subst ei
      refine .inl ⟨(s ds.length H' eH).1 (Nat.le_refl _), ?_⟩
      have r := L.r
      rw [List.drop_length] at r
      have r : ∀ v H'' B'' G F'', PostV Γ B H F σ (.lst acc) (back st1 own st') v H'' B'' G F'' → Q v H'' := r
      have ndL := nd_app.mp (show ([D] ++ (G' ++ F')).Nodup from L.nd)
      have ndL2 := nd_app.mp ndL.2.1
      have dF : ∀ a ∈ Fh, a ∉ Fi := d1
      have tF : ∀ a ∈ Fh, Cel H1 a := fun a m => p.s.there a (h1 a m)
      have ap := L.u.apart dF tF
      obtain ⟨Fy, sy, ny, zy⟩ := k1 B' H' st' F' L.u.b (L.u.at dF) L.s.sl L.s.nd fun a m z => ap a m (List.mem_cons_of_mem _ (List.mem_append_right _ z))
      have frh := L.u.frB dF (fun a m => p.s.fr a (h1 a m)) tF
      refine r (.ref D) H' B' (D :: G') Fy ⟨⟨L.s.ex, sy, ny, fun a m => (zy a m).elim (frh a) (L.s.fr a)⟩, .lst L.d L.o, ?_, L.fr, ?_⟩
      · refine nd_app.mpr ⟨List.nodup_cons.mpr ⟨fun z => ndL.2.2 D (List.mem_singleton.mpr rfl) (List.mem_append_left _ z), ndL2.1⟩, ny, fun a m z => ?_⟩
        rcases zy a z with z | z
        · refine ap a z ?_
          rcases List.mem_cons.mp m with rfl | m
          · exact List.mem_cons_self
          · exact List.mem_cons_of_mem _ (List.mem_append_left _ m)
        · rcases List.mem_cons.mp m with rfl | m
          · exact ndL.2.2 a (List.mem_singleton.mpr rfl) (List.mem_append_right _ z)
          · exact ndL2.2.2 a m z
      · refine p.u.comp L.u i1 fun a m => ?_
        rcases List.mem_append.mp m with m | m
        · refine .inl ?_
          rcases List.mem_cons.mp m with rfl | m
          · exact List.mem_cons_self
          · exact List.mem_cons_of_mem _ (List.mem_append_left _ m)
        · rcases zy a m with m | m
          · exact .inr (h1 a m)
          · exact .inl (List.mem_cons_of_mem _ (List.mem_append_right _ m))
theorem e_lc {σ : L2.St} {H : Hp} {Q : VK} (hg : PatOk Γ ps tg g) (hps : ∀ i ∈ ps, i ∈ own) (h : tSm Γ W (sLC own src g test elt) σ H Q) : tLc (tIm Γ W src) tg (tBm Γ W0 test) (tSm Γ W0 elt) own σ H Q := by
  obtain ⟨B, st, F, S, h⟩ := h
  unfold sLC Sm.bind at h
  rw [run_bind] at h
  exact ⟨B, st, F, S, h.mono (fun ds st1 q J H1 B1 F1 p s => lcg_core hg hps p s q) fun _ _ q => q⟩
end
end
end G
set_option Elab.async false
set_option linter.all false
set_option maxRecDepth 100000
set_option maxHeartbeats 2000000
namespace GR
open PySem PySem.W PySem.Calls PyProof.Rows PyProof.V PySem.Spec L2 RT
section
variable {prog : Program} {w : World} {A : Around} {s : Shared} {E : Value → Shared → Prop}
theorem extend_rev {R : Result → Shared → Prop} {it l : Addr} {items : Array Value} (hh : A.handled = none) (hit : s.heap.IsRevIter it l ((items.size : Int) - 1)) (hl : s.heap.IsList l items) (hne : l ≠ it) (hn : items.size ≤ sizeLine)
    (S : Addr) (res : Value) (c0 : Nat) (hSi : S ≠ it) (hSl : S ≠ l) (hS : s.heap.get? S = some { cls := .type "list", data := .seq #[] c0 })
    (hR : ∀ h' tk acc c', (∀ b o, b ≠ S → b ≠ it → s.heap.get? b = some o → h'.get? b = some o) → h'.get? S = some { cls := .type "list", dict := none, data := .seq acc c', slots := #[] } →
      ItemsOf (fun i v => items[items.size - 1 - i]? = some v) acc items.size → R (.ok (.ret res)) { s with heap := h', toks := tk }) :
    wpAny (model prog w) A.in1 (Builtin.List.listExtendWith (.ref S) (.ref it) res)
      (fun fin s' => match fin with | .done f => R (.ok f) s' | .again c' => c'.quiet = true ∧ codeAny (model prog w) A c' R s') (fun e s' => R (.error e) s') s := by
  have W := (Walks.listRev (prog := prog) (w := w) (A := A.in1) hh it l hne items).toS
  have hSf : S ∉ [it, l] := by simp only [List.mem_cons, List.not_mem_nil, or_false, not_or]; exact ⟨hSi, hSl⟩
  have hT : s.TypeIs (.ref it) "list_reverseiterator" := hit.typeIs
  have h1 : Builtin.List.listSameRef (.ref S) (.ref it) = false := by simp [Builtin.List.listSameRef, hSi]
  unfold Builtin.List.listExtendWith
  refine wpAny_bind (wpAny_typeOf hT ?_)
  rw [if_neg (by rw [h1]; decide)]
  refine wpAny_bind (wpAny_pyIter_revIter hit ?_)
  refine wpAny_bind (wpAny_holding ?_)
  unfold Builtin.List.listLengthHint
  refine wpAny_bind (wpAny_specialOf hT nolen_lri ?_)
  show wpAny _ A.in1 (specialOf (Value.ref it) (Str.ofString "__length_hint__") >>= _) _ _ _
  refine wpAny_bind (wpAny_specialOf hT hint_lri ?_)
  generalize hid : ("list_reverseiterator.__length_hint__" : String) = id0
  wp_delta
  rw [show splitId id0 = some ("list_reverseiterator", "__length_hint__") from by subst hid; decide +kernel]
  subst hid
  refine wpAny_bind (wpAny_isInstance (b := true) hT (by rw [isSubtype_type]; kernel_rfl) ?_)
  refine wpAny_pure ?_
  rw [if_neg (by decide)]
  have e0 : ((items.size : Nat) : Int) - 1 - ((0 : Nat) : Int) = (items.size : Int) - 1 := by omega
  refine wpAny_pure ⟨plainId_quiet F.plain_extend_loop _, codeAny_extend_loopS W hn _ hSf _ items.size 0 _ _ _ rfl (Nat.zero_le _) ⟨Nat.zero_le _, by rw [e0]; exact hit, hl⟩ hS (ItemsOf.nil _) fun s' acc' c' hm hS' hacc => ?_⟩
  rw [Moved.eq_with hm]
  refine hR s'.heap s'.toks acc' c' (fun b o hb hb2 e => hm.heap b o (fun hmem => ?_) e) hS' hacc
  rcases List.mem_cons.mp hmem with e' | hmem
  · exact hb e'
  · exact hb2 (List.mem_singleton.mp hmem)
theorem init_rev {R : Result → Shared → Prop} {it l : Addr} {items : Array Value} (hh : A.handled = none) (hit : s.heap.IsRevIter it l ((items.size : Int) - 1)) (hl : s.heap.IsList l items) (hne : l ≠ it) (hn : items.size ≤ sizeLine)
    (S : Addr) (hSi : S ≠ it) (hSl : S ≠ l) (hS : s.heap.get? S = some { cls := .type "list", data := .seq #[] })
    (hR : ∀ h' tk acc c', (∀ b o, b ≠ S → b ≠ it → s.heap.get? b = some o → h'.get? b = some o) → h'.get? S = some { cls := .type "list", dict := none, data := .seq acc c', slots := #[] } →
      ItemsOf (fun i v => items[items.size - 1 - i]? = some v) acc items.size → R (.ok (.ret .none)) { s with heap := h', toks := tk }) :
    wpAny (model prog w) A.in1 (Builtin.«list.__init__» ⟨[.ref S, .ref it], []⟩)
      (fun fin s' => match fin with | .done f => R (.ok f) s' | .again c' => c'.quiet = true ∧ codeAny (model prog w) A c' R s') (fun e s' => R (.error e) s') s := by
  show wpAny _ _ (do let old ← Builtin.List.listItems (.ref S); Builtin.List.listUpdate (.ref S) (fun _ => #[]); letGo old.toList.reverse; Builtin.List.listExtendWith (.ref S) (.ref it) .none) _ _ s
  refine wpAny_bind ?_
  unfold Builtin.List.listItems
  refine wpAny_bind (wpAny_seqItems hS rfl (wpAny_pure ?_))
  show wpAny _ _ (updateSeq S (fun _ => #[]) >>= fun _ => letGo (#[] : Array Value).toList.reverse >>= fun _ => Builtin.List.listExtendWith (.ref S) (.ref it) .none) _ _ s
  refine wpAny_bind (wpAny_updateSeq hS rfl ?_)
  have hS2 := Heap.get?_update_self (Obj.mapSeq (fun _ => (#[] : Array Value))) hS rfl
  have oth : ∀ b o, b ≠ S → s.heap.get? b = some o → (s.heap.update S (Obj.mapSeq (fun _ => (#[] : Array Value)))).get? b = some o :=
    fun b o hb e => (Heap.get?_update_other _ _ (Ne.symm hb)).trans e
  refine wpAny_bind (wpAny_letGo ?_)
  have hit2 : (s.heap.update S (Obj.mapSeq (fun _ => (#[] : Array Value)))).IsRevIter it l ((items.size : Int) - 1) := hit.at fun o e => oth it o (Ne.symm hSi) e
  have hl2 : (s.heap.update S (Obj.mapSeq (fun _ => (#[] : Array Value)))).IsList l items := by
    obtain ⟨o, ho, r⟩ := hl
    exact ⟨o, oth l o (Ne.symm hSl) ho, r⟩
  refine extend_rev hh hit2 hl2 hne hn S .none _ hSi hSl hS2 fun h' tk acc' c' hk hS' hacc => ?_
  exact hR h' tk acc' c' (fun b o hb hb2 e => hk b o hb hb2 (oth b o hb e)) hS' hacc
theorem call_list_rev {it l : Addr} {items : Array Value} {Q : Value → Shared → Prop} (hh : A.handled = none) (hit : s.heap.IsRevIter it l ((items.size : Int) - 1)) (hl : s.heap.IsList l items) (hne : l ≠ it) (hn : items.size ≤ sizeLine)
    (hQ : ∀ (h' : Heap) (tk : Nat) (acc : Array Value) (c' : Nat), (∀ b o, b ≠ it → s.heap.get? b = some o → h'.get? b = some o) → h'.get? s.heap.objs.size = some { cls := .type "list", dict := none, data := .seq acc c', slots := #[] } →
      ItemsOf (fun i v => items[items.size - 1 - i]? = some v) acc items.size → Q (.ref s.heap.objs.size) { s with heap := h', toks := tk }) :
    wpAny (model prog w) A (call (.type "list") [.ref it]) Q E s := by
  obtain ⟨oi, hoi, _⟩ := id hit
  obtain ⟨ol, hol, _⟩ := id hl
  refine callType_codes (Q₁ := fun obj s₁ => obj = .ref s.heap.objs.size ∧ s₁ = { s with heap := s.heap.push { cls := .type "list", data := .seq #[] } }) F.called_list (F.typeCall_list_1 _) F.entry_list_init
    (code_list_new _ ⟨rfl, rfl⟩) fun obj s₁ h₁ => ?_
  obtain ⟨rfl, rfl⟩ := h₁
  have hS : (s.heap.push { cls := .type "list", data := .seq #[] }).get? s.heap.objs.size = some { cls := .type "list", data := .seq #[] } := Heap.get?_push_size _ rfl
  have hit1 : (s.heap.push { cls := .type "list", data := .seq #[] }).IsRevIter it l ((items.size : Int) - 1) := hit.at fun o e => Heap.get?_push_of_some _ e
  refine ⟨⟨_, hS, rfl⟩, F.args_list_init_2 _ _, init_rev (A := A.in1) hh hit1 (hl.push _) hne hn _ (Nat.ne_of_gt (Heap.lt_size hoi)) (Nat.ne_of_gt (Heap.lt_size hol)) hS fun h' tk acc c' hk hS' hacc => ?_⟩
  exact ⟨rfl, hQ h' tk acc c' (fun b o hb e => hk b o (Nat.ne_of_lt (Heap.lt_size e)) hb (Heap.get?_push_of_some _ e)) hS' hacc⟩
end
end GR
set_option Elab.async false
set_option linter.all false
set_option maxRecDepth 100000
set_option maxHeartbeats 2000000
namespace GT
open PySem PySem.W PySem.Calls PyProof.Rows PyProof.V PySem.Spec L2 RT
theorem nolen_rt : typeLookup (.type "reversed") "__len__" = pure none := by rw [typeLookup_type, builtinLookup_eq_fast]; kernel_rfl
theorem slot_rt_hint : Slot "reversed" "__length_hint__" "reversed.__length_hint__" :=
  .of (owner := "reversed") (n := "__length_hint__") (by rw [typeLookup_type, builtinLookup_eq_fast]; kernel_rfl) (by decide +kernel) (by decide +kernel) (by decide +kernel)
    (by first | exact .inl (by decide +kernel) | exact .inr (by decide +kernel)) (by rw [isSubtype_type]; kernel_rfl)
theorem entry_rt_hint : entryFor table "reversed.__length_hint__" = some Builtin.«reversed.__length_hint__» := entryFor_of_tree (by kernel_rfl)
theorem args_rt_hint (a : Value) : argsOk "reversed.__length_hint__" ⟨[a], []⟩ := by
  unfold argsOk; rw [signature?_of (id := "reversed.__length_hint__") (n := "__tnih_htgnel__".toList) (o := ['d', 'e', 's', 'r', 'e', 'v', 'e', 'r']) (by kernel_rfl) owner_rt]; kernel_rfl
section
variable {prog : Program} {w : World} {A : Around} {s : Shared} {E : Value → Shared → Prop}
theorem walks_rt (hh : A.handled = none) (I t : Addr) (hne : t ≠ I) (items : Array Value) (hsz : items.size ≤ sizeLine) :
    Walks prog w A I [I, t] [I] items.size (fun i v => items[items.size - 1 - i]? = some v) (fun i h => i ≤ items.size ∧ IsRt h I t ((items.size : Int) - 1 - (i : Int)) ∧ IsTup h t items) where
  sub := fun b hb => by simp at hb; simp [hb]
  frame := fun _ _ _ x hk => ⟨x.1, x.2.1.at fun o e => hk I (by simp) o e, let ⟨o, ho, r⟩ := x.2.2; ⟨o, hk t (by simp) o ho, r⟩⟩
  item := fun i s Q E hi x hQ => by
    have e : (items.size : Int) - 1 - (i : Int) = ((items.size - 1 - i : Nat) : Int) := by omega
    have hit := x.2.1
    rw [e] at hit
    have hx : items[items.size - 1 - i]? = some (items[items.size - 1 - i]'(by omega)) := Array.getElem?_eq_getElem (by omega)
    refine next_rt_item hit x.2.2 hx hsz fun h' hit' hs' => ?_
    have e2 : ((items.size - 1 - i : Nat) : Int) - 1 = (items.size : Int) - 1 - ((i + 1 : Nat) : Int) := by omega
    rw [e2] at hit'
    exact hQ _ h' (s.toks + 1) hx ⟨hi, hit', let ⟨o, ho, r⟩ := x.2.2; ⟨o, (hs'.2 t hne).trans ho, r⟩⟩ fun b o hb eo => hs'.extBut b o (fun h => hb (by simp [h])) eo
  done := fun s Q E x hQ => by
    have e : (items.size : Int) - 1 - (items.size : Int) = -1 := by omega
    have hit := x.2.1
    rw [e] at hit
    exact next_rt_end hh hit fun h' hk => hQ h' s.toks fun b o hb eo => hk b o (fun h => hb (by simp [h])) eo
  self := fun i s Q E x hQ => by
    exact iter_rt x.2.1 hQ
end
end GT
namespace GT
open PySem PySem.W PySem.Calls PyProof.Rows PyProof.V PySem.Spec L2 RT
section
variable {prog : Program} {w : World} {A : Around} {s : Shared} {E : Value → Shared → Prop}
theorem call_hint {it t : Addr} {items : Array Value} {Q : Value → Shared → Prop} (hit : IsRt s.heap it t ((items.size : Int) - 1)) (ht : IsTup s.heap t items) (hsz : items.size ≤ sizeLine)
    (hQ : ∀ tk k, s.toks ≤ tk → Q (.int items.size k) { s with toks := tk }) : wpAny (model prog w) A (call (.builtin "reversed.__length_hint__") [.ref it]) Q E s := by
  obtain ⟨o, ho, hc, hd⟩ := id hit
  refine wpAny_call_entry slot_rt_hint hit.typeIs entry_rt_hint ?_ (args_rt_hint _)
  unfold Builtin.«reversed.__length_hint__»
  refine wpAny_bind (wpAny_of_eq (a := (Value.ref it)) rfl ?_)
  try dsimp only
  refine wpAny_bind (wpAny_field ho hd (x := .ref t) rfl ?_)
  rw [if_neg (by simp)]
  rw [sizeLine_eq] at hsz
  refine wpAny_bind (len_tuple ht (by omega) ?_)
  refine wpAny_bind (wpAny_of_eq (a := some ((items.size : Nat) : Int)) rfl ?_)
  try dsimp only
  refine wpAny_bind (wpAny_field (s := { s with toks := s.toks + 1 + 1 }) ho hd (x := rawInt ((items.size : Int) - 1)) rfl ?_)
  show wpAny _ _ (if (items.size : Int) < (items.size : Int) - 1 + 1 then _ else _) _ _ _
  rw [if_neg (by omega)]
  unfold retInt
  refine wpAny_bind (wpAny_mkInt ?_)
  have e : (items.size : Int) - 1 + 1 = items.size := by omega
  rw [e]
  exact wpAny_pure ⟨_, rfl, hQ _ _ (by show s.toks ≤ s.toks + 1 + 1 + 1; omega)⟩
theorem hint_rt {it t : Addr} {items : Array Value} {Q : Bool → Shared → Prop} (hit : IsRt s.heap it t ((items.size : Int) - 1)) (ht : IsTup s.heap t items) (hsz : items.size ≤ sizeLine)
    (hQ : ∀ b tk, Q b { s with toks := tk }) : wpAny (model prog w) A (Builtin.List.listLengthHint (.ref it)) Q E s := by
  have hT := hit.typeIs
  unfold Builtin.List.listLengthHint
  refine wpAny_bind (wpAny_specialOf hT nolen_rt ?_)
  show wpAny _ A (specialOf (Value.ref it) (Str.ofString "__length_hint__") >>= _) _ _ _
  refine wpAny_bind (wpAny_specialOf hT slot_rt_hint.lookup ?_)
  generalize hid : ("reversed.__length_hint__" : String) = id0
  wp_delta
  rw [show splitId id0 = some ("reversed", "__length_hint__") from by subst hid; decide +kernel]
  refine wpAny_bind (wpAny_isInstance (b := true) hT (by rw [isSubtype_type]; kernel_rfl) ?_)
  rw [if_neg (by decide)]
  try dsimp only
  subst hid
  rw [if_neg (by decide +kernel)]
  refine wpAny_bind (wpAny_rule ?_)
  rw [slot_rt_hint.bind]
  refine wpAny_bind (wpAny_pure ?_)
  try dsimp only
  refine wpAny_bind (wpAny_attempt (call_hint hit ht hsz fun tk k _ => ?_))
  show wpAny _ _ (asInt? (Value.int items.size k) >>= _) _ _ _
  have ei : asInt? (Value.int ((items.size : Nat) : Int) k) = pure (some ((items.size : Nat) : Int)) := rfl
  refine wpAny_bind ?_
  rw [ei]
  refine wpAny_pure ?_
  try dsimp only
  rw [sizeLine_eq] at hsz
  have f1 : Builtin.List.listFitsIndex ((items.size : Nat) : Int) = true := by
    unfold Builtin.List.listFitsIndex
    rw [Bool.and_eq_true]
    exact ⟨decide_eq_true (by omega), decide_eq_true (by omega)⟩
  have f2 : Builtin.List.listTooLong (((items.size : Nat) : Int)).toNat = false := by
    unfold Builtin.List.listTooLong
    rw [sizeLine_eq]
    exact decide_eq_false (by omega)
  rw [f1, f2, if_neg (by decide), if_neg (by omega), if_neg (by decide)]
  exact wpAny_pure (hQ _ _)
end
end GT
namespace GT
open PySem PySem.W PySem.Calls PyProof.Rows PyProof.V PySem.Spec L2 RT
section
variable {prog : Program} {w : World} {A : Around} {s : Shared} {E : Value → Shared → Prop}
theorem tup_at {h h' : Heap} {t : Addr} {items : Array Value} (x : IsTup h t items) (e : ∀ o, h.get? t = some o → h'.get? t = some o) : IsTup h' t items := let ⟨o, ho, r⟩ := x; ⟨o, e o ho, r⟩
theorem ext_loop {R : Result → Shared → Prop} {it l : Addr} {items : Array Value} (hh : A.handled = none) (hit : IsRt s.heap it l ((items.size : Int) - 1)) (hl : IsTup s.heap l items) (hne : l ≠ it) (hn : items.size ≤ sizeLine)
    (S : Addr) (res : Value) (c0 : Nat) (hSi : S ≠ it) (hSl : S ≠ l) (hS : s.heap.get? S = some { cls := .type "list", data := .seq #[] c0 })
    (hR : ∀ h' tk acc c', (∀ b o, b ≠ S → b ≠ it → s.heap.get? b = some o → h'.get? b = some o) → h'.get? S = some { cls := .type "list", dict := none, data := .seq acc c', slots := #[] } →
      ItemsOf (fun i v => items[items.size - 1 - i]? = some v) acc items.size → R (.ok (.ret res)) { s with heap := h', toks := tk }) :
    wpAny (model prog w) A.in1 (again (.builtin "list.extend.loop" ⟨[.ref S, .ref it, res], []⟩))
      (fun fin s' => match fin with | .done f => R (.ok f) s' | .again c' => c'.quiet = true ∧ codeAny (model prog w) A c' R s') (fun e s' => R (.error e) s') s := by
  have W := (walks_rt (prog := prog) (w := w) (A := A.in1) hh it l hne items hn).toS
  have hSf : S ∉ [it, l] := by simp only [List.mem_cons, List.not_mem_nil, or_false, not_or]; exact ⟨hSi, hSl⟩
  have e0 : ((items.size : Nat) : Int) - 1 - ((0 : Nat) : Int) = (items.size : Int) - 1 := by omega
  refine wpAny_pure ⟨plainId_quiet F.plain_extend_loop _, codeAny_extend_loopS W hn _ hSf _ items.size 0 _ _ _ rfl (Nat.zero_le _) ⟨Nat.zero_le _, by rw [e0]; exact hit, hl⟩ hS (ItemsOf.nil _) fun s' acc' c' hm hS' hacc => ?_⟩
  rw [Moved.eq_with hm]
  refine hR s'.heap s'.toks acc' c' (fun b o hb hb2 e => hm.heap b o (fun hmem => ?_) e) hS' hacc
  rcases List.mem_cons.mp hmem with e' | hmem
  · exact hb e'
  · exact hb2 (List.mem_singleton.mp hmem)
theorem extend_rt {R : Result → Shared → Prop} {it l : Addr} {items : Array Value} (hh : A.handled = none) (hit : IsRt s.heap it l ((items.size : Int) - 1)) (hl : IsTup s.heap l items) (hne : l ≠ it) (hn : items.size ≤ sizeLine)
    (S : Addr) (res : Value) (c0 : Nat) (hSi : S ≠ it) (hSl : S ≠ l) (hS : s.heap.get? S = some { cls := .type "list", data := .seq #[] c0 })
    (hR : ∀ h' tk acc c', (∀ b o, b ≠ S → b ≠ it → s.heap.get? b = some o → h'.get? b = some o) → h'.get? S = some { cls := .type "list", dict := none, data := .seq acc c', slots := #[] } →
      ItemsOf (fun i v => items[items.size - 1 - i]? = some v) acc items.size → R (.ok (.ret res)) { s with heap := h', toks := tk }) :
    wpAny (model prog w) A.in1 (Builtin.List.listExtendWith (.ref S) (.ref it) res)
      (fun fin s' => match fin with | .done f => R (.ok f) s' | .again c' => c'.quiet = true ∧ codeAny (model prog w) A c' R s') (fun e s' => R (.error e) s') s := by
  have hT : s.TypeIs (.ref it) "reversed" := hit.typeIs
  have h1 : Builtin.List.listSameRef (.ref S) (.ref it) = false := by simp [Builtin.List.listSameRef, hSi]
  unfold Builtin.List.listExtendWith
  refine wpAny_bind (wpAny_typeOf hT ?_)
  rw [if_neg (by rw [h1]; decide)]
  refine wpAny_bind (iter_rt hit ?_)
  refine wpAny_bind (wpAny_holding ?_)
  refine hint_rt hit hl hn fun b tk => ?_
  cases b with
  | false =>
    rw [if_neg (by decide)]
    exact ext_loop (s := { s with toks := tk }) hh hit hl hne hn S res c0 hSi hSl hS hR
  | true =>
    rw [if_pos (by decide)]
    refine wpAny_bind (wpAny_rule ?_)
    refine wpAny_bind ?_
    unfold Builtin.List.listTouch
    refine wpAny_bind ?_
    show wpAny _ _ (updateSeq S (fun x => x.push .none)) _ _ _
    refine wpAny_updateSeq (s := { s with toks := tk }) hS rfl ?_
    have hS1 := Heap.get?_update_self (Obj.mapSeq (fun x : Array Value => x.push .none)) hS rfl
    show wpAny _ _ (updateSeq S (fun x => x.pop)) _ _ _
    refine wpAny_updateSeq (s := { s with toks := tk, heap := s.heap.update S (Obj.mapSeq (fun x : Array Value => x.push .none)) }) hS1 rfl ?_
    have hS2 := Heap.get?_update_self (Obj.mapSeq (fun x : Array Value => x.pop)) hS1 rfl
    have oth : ∀ b o, b ≠ S → s.heap.get? b = some o → ((s.heap.update S (Obj.mapSeq (fun x : Array Value => x.push .none))).update S (Obj.mapSeq (fun x : Array Value => x.pop))).get? b = some o :=
      fun b o hb e => (Heap.get?_update_other _ _ (Ne.symm hb)).trans ((Heap.get?_update_other _ _ (Ne.symm hb)).trans e)
    refine ext_loop (s := { s with toks := tk, heap := (s.heap.update S (Obj.mapSeq (fun x : Array Value => x.push .none))).update S (Obj.mapSeq (fun x : Array Value => x.pop)) }) hh (hit.at fun o e => oth it o (Ne.symm hSi) e) (tup_at hl fun o e => oth l o (Ne.symm hSl) e) hne hn S res _ hSi hSl hS2 fun h' tk acc c' hk hS' hacc => ?_
    exact hR h' tk acc c' (fun b o hb hb2 e => hk b o hb hb2 (oth b o hb e)) hS' hacc
theorem init_rt {R : Result → Shared → Prop} {it l : Addr} {items : Array Value} (hh : A.handled = none) (hit : IsRt s.heap it l ((items.size : Int) - 1)) (hl : IsTup s.heap l items) (hne : l ≠ it) (hn : items.size ≤ sizeLine)
    (S : Addr) (hSi : S ≠ it) (hSl : S ≠ l) (hS : s.heap.get? S = some { cls := .type "list", data := .seq #[] })
    (hR : ∀ h' tk acc c', (∀ b o, b ≠ S → b ≠ it → s.heap.get? b = some o → h'.get? b = some o) → h'.get? S = some { cls := .type "list", dict := none, data := .seq acc c', slots := #[] } →
      ItemsOf (fun i v => items[items.size - 1 - i]? = some v) acc items.size → R (.ok (.ret .none)) { s with heap := h', toks := tk }) :
    wpAny (model prog w) A.in1 (Builtin.«list.__init__» ⟨[.ref S, .ref it], []⟩)
      (fun fin s' => match fin with | .done f => R (.ok f) s' | .again c' => c'.quiet = true ∧ codeAny (model prog w) A c' R s') (fun e s' => R (.error e) s') s := by
  show wpAny _ _ (do let old ← Builtin.List.listItems (.ref S); Builtin.List.listUpdate (.ref S) (fun _ => #[]); letGo old.toList.reverse; Builtin.List.listExtendWith (.ref S) (.ref it) .none) _ _ s
  refine wpAny_bind ?_
  unfold Builtin.List.listItems
  refine wpAny_bind (wpAny_seqItems hS rfl (wpAny_pure ?_))
  show wpAny _ _ (updateSeq S (fun _ => #[]) >>= fun _ => letGo (#[] : Array Value).toList.reverse >>= fun _ => Builtin.List.listExtendWith (.ref S) (.ref it) .none) _ _ s
  refine wpAny_bind (wpAny_updateSeq hS rfl ?_)
  have hS2 := Heap.get?_update_self (Obj.mapSeq (fun _ => (#[] : Array Value))) hS rfl
  have oth : ∀ b o, b ≠ S → s.heap.get? b = some o → (s.heap.update S (Obj.mapSeq (fun _ => (#[] : Array Value)))).get? b = some o :=
    fun b o hb e => (Heap.get?_update_other _ _ (Ne.symm hb)).trans e
  refine wpAny_bind (wpAny_letGo ?_)
  refine extend_rt hh (hit.at fun o e => oth it o (Ne.symm hSi) e) (tup_at hl fun o e => oth l o (Ne.symm hSl) e) hne hn S .none _ hSi hSl hS2 fun h' tk acc' c' hk hS' hacc => ?_
  exact hR h' tk acc' c' (fun b o hb hb2 e => hk b o hb hb2 (oth b o hb e)) hS' hacc
theorem call_list_rt {it l : Addr} {items : Array Value} {Q : Value → Shared → Prop} (hh : A.handled = none) (hit : IsRt s.heap it l ((items.size : Int) - 1)) (hl : IsTup s.heap l items) (hne : l ≠ it) (hn : items.size ≤ sizeLine)
    (hQ : ∀ (h' : Heap) (tk : Nat) (acc : Array Value) (c' : Nat), (∀ b o, b ≠ it → s.heap.get? b = some o → h'.get? b = some o) → h'.get? s.heap.objs.size = some { cls := .type "list", dict := none, data := .seq acc c', slots := #[] } →
      ItemsOf (fun i v => items[items.size - 1 - i]? = some v) acc items.size → Q (.ref s.heap.objs.size) { s with heap := h', toks := tk }) :
    wpAny (model prog w) A (call (.type "list") [.ref it]) Q E s := by
  obtain ⟨oi, hoi, _⟩ := id hit
  obtain ⟨ol, hol, _⟩ := id hl
  refine callType_codes (Q₁ := fun obj s₁ => obj = .ref s.heap.objs.size ∧ s₁ = { s with heap := s.heap.push { cls := .type "list", data := .seq #[] } }) F.called_list (F.typeCall_list_1 _) F.entry_list_init
    (code_list_new _ ⟨rfl, rfl⟩) fun obj s₁ h₁ => ?_
  obtain ⟨rfl, rfl⟩ := h₁
  have hS : (s.heap.push { cls := .type "list", data := .seq #[] }).get? s.heap.objs.size = some { cls := .type "list", data := .seq #[] } := Heap.get?_push_size _ rfl
  refine ⟨⟨_, hS, rfl⟩, F.args_list_init_2 _ _, init_rt (A := A.in1) hh (hit.at fun o e => Heap.get?_push_of_some _ e) (tup_at hl fun o e => Heap.get?_push_of_some _ e) hne hn _ (Nat.ne_of_gt (Heap.lt_size hoi)) (Nat.ne_of_gt (Heap.lt_size hol)) hS fun h' tk acc c' hk hS' hacc => ?_⟩
  exact ⟨rfl, hQ h' tk acc c' (fun b o hb e => hk b o (Nat.ne_of_lt (Heap.lt_size e)) hb (Heap.get?_push_of_some _ e)) hS' hacc⟩
end
end GT
namespace GT
open PySem PySem.W PySem.Calls PyProof.Rows PyProof.V PySem.Spec L2 RT GR
/-- list(reversed(x)), x a list or a tuple: a new list -/
def tListRevA (K : PySem.W.Frag) (te : TE) : TE := fun σ H Q => te σ H fun v H1 => ∃ (a : Addr) (xs : List V), v = .ref a ∧ (SqL K H1 a xs ∨ SqT K H1 a xs) ∧ ∀ q, H1 q = none → Q (.ref q) (upd H1 q (.lst xs.reverse))
section
variable {X : Cx}
theorem pe_listRevA {e : Expr} {te : TE} {p p2 pos pos2 : Pos} (hc : X.calm = true) (hg : Gl X "list") (hm : X.mg "list" = none) (hg2 : Gl X "reversed") (hm2 : X.mg "reversed" = none) (he : PE X e te)
    (hs : starEach [e] X.env = (false, eval e X.env) :: starEach [] X.env := by rfl)
    (hs2 : starEach [.Call (.Name "reversed" p2) [e] [] pos2] X.env = (false, eval (.Call (.Name "reversed" p2) [e] [] pos2) X.env) :: starEach [] X.env := by rfl) :
    PE X (.Call (.Name "list" p) [.Call (.Name "reversed" p2) [e] [] pos2] [] pos) (tListRevA X.K te) := by
  refine ⟨fun pins s σ H Q I h => ?_⟩
  refine Call_ (ld_blt I hg hm (u := Value.type "list") (by decide +kernel) (PyProof.Rows.callWith_type1 (args_cons (Call_ (ld_blt I hg2 hm2 PyProof.Rows.boot_reversed (PyProof.Rows.callWith_type1 (args_cons (thn (he.run pins s σ H _ I h) fun u s1 ⟨v, H1, I1, r1, q1⟩ => args_nil ?_) hs) hs rfl))) hs2) hs2 rfl))
  obtain ⟨a, xs, ev, hq, q⟩ := q1
  subst ev
  obtain rfl : u = Value.ref a := r1
  rcases hq with hq | hq
  ·
    obtain ⟨its, rv, p', hz⟩ := I1.list hq
    refine call_reversed_list p'.isList (args_nil ?_)
    have k0 : ∀ b o, s1.heap.get? b = some o → (s1.heap.push (revObj a ((its.toArray.size : Int) - 1))).get? b = some o := fun b o e => Heap.get?_push_of_some _ e
    have I2 : Inv X pins σ H1 { s1 with heap := s1.heap.push (revObj a ((its.toArray.size : Int) - 1)) } := I1.kept (t' := s1.toks) k0
    obtain ⟨f0, f1, f2, f3, f4, f5⟩ := I1.fpOk (H' := H1) (b := s1.heap.objs.size) (Nat.le_refl _) (I1.hok.fresh (Nat.le_refl _))
    have hl := p'.isList
    obtain ⟨ol, hol, _⟩ := id hl
    have hne : a ≠ s1.heap.objs.size := Nat.ne_of_lt (Heap.lt_size hol)
    have hn : its.toArray.size ≤ sizeLine := by rw [List.size_toArray, ← rv.length]; exact hz
    have I2f : H1 (s1.heap.push (revObj a ((its.toArray.size : Int) - 1))).objs.size = none := I2.hok.fresh (Nat.le_refl _)
    refine call_list_rev (s := { s1 with heap := s1.heap.push (revObj a ((its.toArray.size : Int) - 1)) }) (I1.ok.hd hc) ⟨_, Heap.get?_push_size _ rfl, rfl, rfl⟩ (hl.push _) hne hn fun h' tk acc c' hk hS hi => ?_
    have hit0 : H1 s1.heap.objs.size = none := I1.hok.fresh (Nat.le_refl _)
    generalize hL : (s1.heap.push (revObj a ((its.toArray.size : Int) - 1))).objs.size = L at *
    have old : ∀ b o, (s1.heap.push (revObj a ((its.toArray.size : Int) - 1))).get? b = some o → b ≠ L := fun b o e => Nat.ne_of_lt (hL ▸ Heap.lt_size e)
    refine ⟨.ref L, upd H1 L (.lst xs.reverse), ?_, rfl, q _ I2f⟩
    refine Inv.step (X := X) (ch := [s1.heap.objs.size]) (g' := s1.gens) (t' := tk) (d' := s1.drawn) (h' := h') (H' := upd H1 L (.lst xs.reverse)) I2 (fun b hb => ?_) (fun b o _ _ hc e _ => hk b o (fun z => hc (by simp [z])) e) (fun b o _ _ hc e _ => ⟨o.slots, hk b o (fun z => hc (by simp [z])) e⟩) (fun b o _ e n => by rw [upd_ne (old b o e)]; exact n)
      (fun b o hc e => ⟨o, hk b o (fun z => hc (by simp [z])) e⟩) (fun b ys e => by rw [upd_ne (ne_of_none e I2f)]; exact e) (fun b o u e => by rw [upd_ne (ne_of_none e I2f)]; exact e) (fun b ps e => ⟨#[], by rw [upd_ne (ne_of_none e I2f), e]; simp⟩) (fun m hm => ?_) (fun b u e => ?_) I2.bare
    · have e : b = s1.heap.objs.size := by simpa using hb
      subst e
      exact ⟨f3, f1, f4, f5⟩
    · obtain ⟨o, es, ep, ho, r⟩ := hm
      exact ⟨o, es, ep, hk _ o (Ne.symm f1) ho, r⟩
    · by_cases hb : b = L
      · subst hb
        rw [upd_same] at e
        cases e
        exact ⟨by rw [List.length_reverse]; exact hz, acc.toList, c', vals_rev rv hi, by rw [Array.toArray_toList]; exact hS⟩
      · rw [upd_ne hb] at e
        refine (I2.hok b u e).stay (fun c v hc q => hk c v (fun z => ?_) q) (fun c q => by rw [upd_ne (ne_of_none q I2f)]; exact q) fun c ys q => by rw [upd_ne (ne_of_none q I2f)]; exact q
        rcases hc with r | r
        · rw [← r, z, hit0] at e; cases e
        · rw [z, hit0] at r; cases r
  ·
    obtain ⟨its, rv, p', hz⟩ := I1.tuple hq
    have hn63 := line63
    have hlen := rv.length
    refine call_reversed_tup p' (fun A E Q k => len_tuple p' (by simp only [List.size_toArray] <;> omega) k) (args_nil ?_)
    have k0 : ∀ b o, s1.heap.get? b = some o → (s1.heap.push (rtObj a ((its.toArray.size : Int) - 1))).get? b = some o := fun b o e => Heap.get?_push_of_some _ e
    have I2 : Inv X pins σ H1 { s1 with heap := s1.heap.push (rtObj a ((its.toArray.size : Int) - 1)), toks := s1.toks + 1 + 1 } := I1.kept (t' := s1.toks + 1 + 1) k0
    obtain ⟨f0, f1, f2, f3, f4, f5⟩ := I1.fpOk (H' := H1) (b := s1.heap.objs.size) (Nat.le_refl _) (I1.hok.fresh (Nat.le_refl _))
    have hl := p'
    obtain ⟨ol, hol, _⟩ := id hl
    have hne : a ≠ s1.heap.objs.size := Nat.ne_of_lt (Heap.lt_size hol)
    have hn : its.toArray.size ≤ sizeLine := by rw [List.size_toArray, ← rv.length]; exact hz
    have I2f : H1 (s1.heap.push (rtObj a ((its.toArray.size : Int) - 1))).objs.size = none := I2.hok.fresh (Nat.le_refl _)
    refine call_list_rt (s := { s1 with heap := s1.heap.push (rtObj a ((its.toArray.size : Int) - 1)), toks := s1.toks + 1 + 1 }) (I1.ok.hd hc) ⟨_, Heap.get?_push_size _ rfl, rfl, rfl⟩ (tup_at hl fun o e => k0 a o e) hne hn fun h' tk acc c' hk hS hi => ?_
    have hit0 : H1 s1.heap.objs.size = none := I1.hok.fresh (Nat.le_refl _)
    generalize hL : (s1.heap.push (rtObj a ((its.toArray.size : Int) - 1))).objs.size = L at *
    have old : ∀ b o, (s1.heap.push (rtObj a ((its.toArray.size : Int) - 1))).get? b = some o → b ≠ L := fun b o e => Nat.ne_of_lt (hL ▸ Heap.lt_size e)
    refine ⟨.ref L, upd H1 L (.lst xs.reverse), ?_, rfl, q _ I2f⟩
    refine Inv.step (X := X) (ch := [s1.heap.objs.size]) (g' := s1.gens) (t' := tk) (d' := s1.drawn) (h' := h') (H' := upd H1 L (.lst xs.reverse)) I2 (fun b hb => ?_) (fun b o _ _ hc e _ => hk b o (fun z => hc (by simp [z])) e) (fun b o _ _ hc e _ => ⟨o.slots, hk b o (fun z => hc (by simp [z])) e⟩) (fun b o _ e n => by rw [upd_ne (old b o e)]; exact n)
      (fun b o hc e => ⟨o, hk b o (fun z => hc (by simp [z])) e⟩) (fun b ys e => by rw [upd_ne (ne_of_none e I2f)]; exact e) (fun b o u e => by rw [upd_ne (ne_of_none e I2f)]; exact e) (fun b ps e => ⟨#[], by rw [upd_ne (ne_of_none e I2f), e]; simp⟩) (fun m hm => ?_) (fun b u e => ?_) I2.bare
    · have e : b = s1.heap.objs.size := by simpa using hb
      subst e
      exact ⟨f3, f1, f4, f5⟩
    · obtain ⟨o, es, ep, ho, r⟩ := hm
      exact ⟨o, es, ep, hk _ o (Ne.symm f1) ho, r⟩
    · by_cases hb : b = L
      · subst hb
        rw [upd_same] at e
        cases e
        exact ⟨by rw [List.length_reverse]; exact hz, acc.toList, c', vals_rev rv hi, by rw [Array.toArray_toList]; exact hS⟩
      · rw [upd_ne hb] at e
        refine (I2.hok b u e).stay (fun c v hc q => hk c v (fun z => ?_) q) (fun c q => by rw [upd_ne (ne_of_none q I2f)]; exact q) fun c ys q => by rw [upd_ne (ne_of_none q I2f)]; exact q
        rcases hc with r | r
        · rw [← r, z, hit0] at e; cases e
        · rw [z, hit0] at r; cases r
end
end GT
set_option Elab.async false
set_option linter.all false
set_option maxRecDepth 100000
namespace G
open PySem PySem.Spec PyProof.Rows L2
section
variable {Γ : Wh}
variable {B H B' H' B1 H1 B2 H2 : Hp} {σ σ1 σ2 : L2.St} {st st1 st2 : G.St} {F F' F1 F2 F3 F4 G1 G2 : List Addr} {t t1 t2 : T} {v v1 v2 : V} {W : L2.WX} {fx : List Nat}
section
variable {X : Cx} {tg iter elt : Expr} {ifs : List Expr} {scope : Scope} {own : List (Str × Nat)} {on ps : List Nat} {pos pos' py spos : Pos} {tt : TG} {g : Pat} {src : Si} {test : Sm Bool} {me : Sm T}
theorem gts_nil : PTs X [] (tBm Γ W bYes) := ⟨fun pins s σ H Q I h => pts_nil.run pins s σ H Q I (by
  obtain ⟨B, st, F, S, h⟩ := h
  exact h H B F (PostS.refl S))⟩
theorem gts_one {c : Expr} {m : Sm Bool} (h : PT X c (tBm Γ W m)) : PTs X [c] (tBm Γ W m) := pts_one h
theorem ge_lc (hc : X.calm = true) (hN : X.N.Nodup) (hi : PI X tg iter (tIm Γ W src)) (ok : BlkOk X.N X.env.scope scope own)
    (hg : ∀ (s : Shared) (H : Hp) (C : Addr) (cl : List (Str × Addr)) (fp : List Addr), GP Γ (X.blk s H scope (compEnvC scope cl C X.env) fp) tg ps tt g) (ht : ∀ (s : Shared) (H : Hp) (C : Addr) (cl : List (Str × Addr)) (fp : List Addr), PTs (X.blk s H scope (compEnvC scope cl C X.env) fp) ifs (tBm Γ W0 test))
    (he : ∀ (s : Shared) (H : Hp) (C : Addr) (cl : List (Str × Addr)) (fp : List Addr), PE (X.blk s H scope (compEnvC scope cl C X.env) fp) elt (tSm Γ W0 me)) (ho : own.map (·.2) = on := by rfl) (hp : ∀ i ∈ ps, i ∈ on := by decide) (hs : ∀ x, foldedSetIterable iter X.env x = pure x := by intro _; rfl) :
    PE X (.ListComp elt [⟨tg, iter, ifs, 0⟩] scope pos) (tSm Γ W (sLC on src g test me)) := by
  subst ho
  refine ⟨fun pins s σ H Q I h => ?_⟩
  have go : PatOk Γ ps tt g := (hg s H 0 [] []).o
  exact (PE.weak (t' := tSm Γ W (sLC (own.map (·.2)) src g test me)) (pe_lc hc hN hi ok (fun s H C cl fp => (hg s H C cl fp).p) ht he hs) fun σ H Q h => e_lc go hp h).run pins s σ H Q I h
theorem gs_setLcF {i : Nat} {y : Str} (hc : X.calm = true) (hN : X.N.Nodup) (hi : PI X tg iter (tIm Γ W src)) (ok : BlkOk X.N X.env.scope scope own)
    (hg : ∀ (s : Shared) (H : Hp) (C : Addr) (cl : List (Str × Addr)) (fp : List Addr), GP Γ (X.blk s H scope (compEnvC scope cl C X.env) fp) tg ps tt g) (ht : ∀ (s : Shared) (H : Hp) (C : Addr) (cl : List (Str × Addr)) (fp : List Addr), PTs (X.blk s H scope (compEnvC scope cl C X.env) fp) ifs (tBm Γ W0 test))
    (he : ∀ (s : Shared) (H : Hp) (C : Addr) (cl : List (Str × Addr)) (fp : List Addr), PE (X.blk s H scope (compEnvC scope cl C X.env) fp) elt (tSm Γ W0 me)) (hsw : swapsWith (.ListComp elt [⟨tg, iter, ifs, 0⟩] scope pos) (some (.Name y py)) spos.line X.env = pure true) (ho : own.map (·.2) = on := by rfl) (hp : ∀ i ∈ ps, i ∈ on := by decide)
    (hy : X.N[i]? = some y := by rfl) (hyl : X.env.scope.names.lookup y = some .local := by rfl) (hf : i ∉ fx := by decide) (hs : ∀ x, foldedSetIterable iter X.env x = pure x := by intro _; rfl) :
    PS X (.Assign [.Name y py] (.ListComp elt [⟨tg, iter, ifs, 0⟩] scope pos) spos) (tSs Γ W fx (sSetF i (sLC on src g test me))) := by
  subst ho
  refine ⟨fun pins s σ H D I h => ?_⟩
  have go : PatOk Γ ps tt g := (hg s H 0 [] []).o
  exact (PS.weak (t' := tSs Γ W fx (sSetF i (sLC (own.map (·.2)) src g test me))) (ps_setLc hc hN hy hyl hsw hi ok (fun s H C cl fp => (hg s H C cl fp).p) ht he hs) fun D σ H h => e_lc go hp (e_setF hf h)).run pins s σ H D I h
end
variable (Γ) in
structure PostM (B H : Hp) (F : List Addr) (x : V) (l : List T) (r : T) (v : V) (H' B' : Hp) (F' G' : List Addr) : Prop where
  ex : Sub B' H'
  o : Ow Γ B' H' x (.lst l) F'
  r : Ow Γ B' H' v r G'
  nd : (G' ++ F').Nodup
  fr : ∀ a ∈ G' ++ F', B' a = none
  u : Upd B H F B' H' (G' ++ F')
variable (Γ) in
def MethD (r : V → List V → Hp → VK → Prop) (f : List T → List T → Option (List T × T)) : Prop := ∀ {B H : Hp} {a : Addr} {us xs : List V} {l ts l' : List T} {res : T} {F G : List Addr} {Q : VK}, Sub B H → H a = some (.lst us) → OwL Γ B H us l F → OwL Γ B H xs ts G →
  (G ++ (a :: F)).Nodup → (∀ b ∈ G ++ (a :: F), B b = none) → f l ts = some (l', res) → (∀ v H' B' F' G', PostM Γ B H (G ++ (a :: F)) (.ref a) l' res v H' B' F' G' → Q v H') → r (.ref a) xs H Q
theorem Ow.lst_inv {l : List T} {F : List Addr} (h : Ow Γ B H v (.lst l) F) : ∃ a us F', v = .ref a ∧ F = a :: F' ∧ H a = some (.lst us) ∧ OwL Γ B H us l F' := by
  cases h with
  | @lst a us l F' e o => exact ⟨a, us, F', rfl, rfl, e, o⟩
/-- the thing under a name is changed by place -/
theorem PostA.meth {ts : List T} {ls : List (Option Nat)} {vs : List V} {i : Nat} {l l' : List T} {res : T} {r : V → List V → Hp → VK → Prop} {f : List T → List T → Option (List T × T)} (hd : MethD Γ r f)
    (p : PostA Γ B H F σ ts ls st1 vs H1 B1 G1 F1) (e : st1[i]? = some (some (.lst l))) (hf : f l ts = some (l', res)) {x : V} (hx : σ[i]? = some (some x)) {Q : VK}
    (q : ∀ v H' B' G F', PostV Γ B H F σ res (st1.set i (some (.lst l'))) v H' B' G F' → Q v H') : r x vs H1 Q := by
  obtain ⟨A, Gm, C, rfl, g, k⟩ := p.s.sl.open (lt_of_some e)
  obtain ⟨v, hv, o⟩ := g _ e
  rw [hx] at hv
  cases hv
  obtain ⟨a, us, Fl, rfl, rfl, ha, ol⟩ := o.lst_inv
  have nd := nd_app.mp p.nd
  have nd2 := nd_app.mp (nd_mid.mp nd.2.1)
  have sub : ∀ b ∈ A ++ C, b ∈ A ++ ((a :: Fl) ++ C) := fun b m => by
    rcases List.mem_append.mp m with m | m
    · exact List.mem_append_left _ m
    · exact List.mem_append_right _ (List.mem_append_right _ m)
  have subM : ∀ b ∈ a :: Fl, b ∈ A ++ ((a :: Fl) ++ C) := fun b m => List.mem_append_right _ (List.mem_append_left _ m)
  have dis : ∀ b ∈ A ++ C, b ∉ G1 ++ (a :: Fl) := fun b m z => by
    rcases List.mem_append.mp z with z | z
    · exact nd.2.2 b z (sub b m)
    · exact nd2.2.2 b z m
  refine hd p.s.ex ha ol p.o (nd_app.mpr ⟨nd.1, nd2.1, fun b m z => nd.2.2 b m (subM b z)⟩) (fun b m => ?_) hf fun v H2 B2 F2 G2 P => ?_
  · rcases List.mem_append.mp m with m | m
    · exact p.fr b m
    · exact p.s.fr b (subM b m)
  · have th : ∀ b ∈ A ++ C, Cel H1 b := fun b m => p.s.there b (sub b m)
    have at2 := P.u.at dis
    have ap := P.u.apart dis th
    have fr2 := P.u.frB dis (fun b m => p.s.fr b (sub b m)) th
    have s2 := (k B2 H2 P.u.b at2).1 (.ref a) (.lst l') F2 P.o
    rw [set_self hx] at s2
    have ndP := nd_app.mp P.nd
    have ndF : (A ++ (F2 ++ C)).Nodup := nd_mid.mpr (nd_app.mpr ⟨ndP.2.1, nd2.2.1, fun b m z => ap b z (List.mem_append_right _ m)⟩)
    have cas : ∀ b ∈ A ++ (F2 ++ C), b ∈ F2 ∨ b ∈ A ++ C := fun b m => by
      simp only [List.mem_append] at m ⊢
      rcases m with m | m | m
      · exact .inr (.inl m)
      · exact .inl m
      · exact .inr (.inr m)
    refine q v H2 B2 G2 (A ++ (F2 ++ C)) ⟨⟨P.ex, s2, ndF, fun b m => ?_⟩, P.r, nd_app.mpr ⟨ndP.1, ndF, fun b m z => ?_⟩, fun b m => P.fr b (List.mem_append_left _ m), ?_⟩
    · rcases cas b m with m | m
      · exact P.fr b (List.mem_append_right _ m)
      · exact fr2 b m
    · rcases cas b z with z | z
      · exact ndP.2.2 b m z
      · exact ap b z (List.mem_append_left _ m)
    · refine p.u.comp P.u (fun b m => ?_) fun b m => ?_
      · rcases List.mem_append.mp m with m | m
        · exact List.mem_append_left _ m
        · exact List.mem_append_right _ (subM b m)
      · rcases List.mem_append.mp m with m | m
        · exact .inl (List.mem_append_left _ m)
        · rcases cas b m with m | m
          · exact .inl (List.mem_append_right _ m)
          · exact .inr (List.mem_append_right _ (sub b m))
theorem run_sMeth {i : Nat} {f : List T → List T → Option (List T × T)} {ra : Sa} {K : T → G.St → Prop} {KX : G.X → G.St → Prop} (h : RunP (sMeth i f ra st) K KX) :
    ∃ l0, st[i]? = some (some (.lst l0)) ∧ RunP (ra st) (fun p st1 => ∃ l l' r, st1[i]? = some (some (.lst l)) ∧ f l p.1 = some (l', r) ∧ K r (st1.set i (some (.lst l')))) KX := by
  unfold sMeth at h
  split at h
  · rename_i l0 e
    refine ⟨l0, e, ?_⟩
    rw [run_bind] at h
    refine h.mono (fun p st1 q => ?_) fun _ _ q => q
    split at q
    · rename_i l e1
      split at q
      · rename_i l' r e2
        exact ⟨l, l', r, e1, e2, q⟩
      · exact q.elim
    · exact q.elim
  · exact h.elim
theorem tyV_lst {K : PySem.W.Frag} {a : Addr} {us : List V} (h : H a = some (.lst us)) : tyV K "list" (.ref a) H := .inl ⟨rfl, us, SqL.of h⟩
section
variable {X : Cx} {o a : Expr} {es : List Expr} {name : Str} {id : String} {apos pos npos : Pos} {ra : Sa} {r : V → List V → Hp → VK → Prop} {f : List T → List T → Option (List T × T)} {i : Nat}
theorem e_meth (hd : MethD Γ r f) {Q : VK} (h : tSm Γ W (sMeth i f ra) σ H Q) : tBM Γ.K "list" r (tVar i) (tAm Γ W ra) σ H Q := by
  obtain ⟨B, st, F, S, h⟩ := h
  obtain ⟨l0, e0, h⟩ := run_sMeth h
  obtain ⟨A, Gm, C, hF, g, k⟩ := S.sl.open (lt_of_some e0)
  obtain ⟨x, hx, o⟩ := g _ e0
  obtain ⟨ad, us, Fl, rfl, _, ha, _⟩ := o.lst_inv
  refine ⟨_, hx, tyV_lst ha, B, st, F, S, h.mono (fun p st1 q vs H1 B1 G1 F1 P => ?_) fun _ _ q => q⟩
  obtain ⟨l, l', res, e1, e2, q⟩ := q
  exact PostA.meth hd P e1 e2 hx q
theorem e_meth0 (hd : MethD Γ r f) {Q : VK} (h : tSm Γ W (sMeth i f aNil) σ H Q) : tBM0 Γ.K "list" r (tVar i) σ H Q := by
  obtain ⟨B, st, F, S, h⟩ := h
  obtain ⟨l0, e0, h⟩ := run_sMeth h
  obtain ⟨A, Gm, C, hF, g, k⟩ := S.sl.open (lt_of_some e0)
  obtain ⟨x, hx, o⟩ := g _ e0
  obtain ⟨ad, us, Fl, rfl, _, ha, _⟩ := o.lst_inv
  refine ⟨_, hx, tyV_lst ha, ?_⟩
  obtain ⟨l, l', res, e1, e2, q⟩ := (show ∃ l l' r, st[i]? = some (some (.lst l)) ∧ f l [] = some (l', r) ∧ _ from h)
  exact PostA.meth (ts := []) (ls := []) hd ⟨S, .nil, by simpa using S.nd, fun _ m => (nomatch m), .refl, .nil⟩ e1 e2 hx q
theorem ge_meth (hK : X.K = Γ.K) (i : Nat) {x : Str} (hd : MethD Γ r f) (pe : PE X (.Call (.Attribute (.Name x npos) name apos) (a :: es) [] pos) (tBM X.K "list" r (tVar i) (tAm Γ W ra))) :
    PE X (.Call (.Attribute (.Name x npos) name apos) (a :: es) [] pos) (tSm Γ W (sMeth i f ra)) := by
  rw [hK] at pe
  exact PE.weak pe fun _ _ _ => e_meth hd
theorem ge_meth0 (hK : X.K = Γ.K) (i : Nat) {x : Str} (hd : MethD Γ r f) (pe : PE X (.Call (.Attribute (.Name x npos) name apos) [] [] pos) (tBM0 X.K "list" r (tVar i))) :
    PE X (.Call (.Attribute (.Name x npos) name apos) [] [] pos) (tSm Γ W (sMeth i f aNil)) := by
  rw [hK] at pe
  exact PE.weak pe fun _ _ _ => e_meth0 hd
end
theorem upd_mut {a : Addr} {o : HO} {F F' : List Addr} (m : a ∈ F) (h : H a ≠ none) (s : ∀ b ∈ F', b ∈ F) : Upd B H F B (upd H a o) F' where
  b := Sub.refl B
  keep := fun b u q n => by rw [upd_ne fun z => n (by rw [z]; exact m)]; exact q
  dom := fun b q => by
    by_cases z : b = a
    · rw [z, upd_same]; exact fun y => by cases y
    · rw [upd_ne z]; exact q
  new := fun b m => .inl (s b m)
  frz := fun b u q => .inl q
theorem at_mut {a : Addr} {o : HO} {F : List Addr} (n : a ∉ F) : At H (upd H a o) F := fun b m u q => by
  rw [upd_ne fun z => n (by rw [← z]; exact m)]
  exact q
theorem sub_mut {a : Addr} {o : HO} (e : Sub B H) (n : B a = none) : Sub B (upd H a o) := e.put n
theorem OwL.snoc {w : V} {G4 : List Addr} : ∀ {us : List V} {ts : List T} {G : List Addr}, OwL Γ B H us ts G → Ow Γ B H w t G4 → OwL Γ B H (us ++ [w]) (ts ++ [t]) (G ++ G4)
  | _, _, _, .nil, o2 => by
    have := OwL.cons o2 OwL.nil
    simpa using this
  | _, _, _, .cons o1 o3, o2 => by
    rw [List.append_assoc]
    exact .cons o1 (OwL.snoc o3 o2)
theorem OwL.one {xs : List V} {G : List Addr} (h : OwL Γ B H xs [t] G) : ∃ w, xs = [w] ∧ Ow Γ B H w t G := by
  cases h with
  | cons o1 o2 =>
    cases o2
    exact ⟨_, rfl, by simpa using o1⟩
theorem md_append : MethD Γ rAppend mAppend := fun {B H a us xs l ts l' res F G Q} e ha ol ox nd fr hf q => by
  match ts, hf, ox with
  | [t], hf, ox =>
    have hf : (if l.length < line then some (l ++ [t], T.imm .non) else none) = some (l', res) := hf
    by_cases hl : l.length < line
    · rw [if_pos hl] at hf
      cases hf
      obtain ⟨w, rfl, ow⟩ := ox.one
      have n1 := nd_app.mp nd
      have n2 := List.nodup_cons.mp n1.2.1
      have aG : a ∉ G := fun z => n1.2.2 a z List.mem_cons_self
      refine ⟨a, us, w, rfl, rfl, ha, by rw [ol.len]; exact hl, q .non _ B (a :: (F ++ G)) [] ⟨sub_mut e (fr a (List.mem_append_right _ List.mem_cons_self)), .lst upd_same (OwL.snoc (ol.at (Sub.refl _) (at_mut n2.1)) (ow.at (Sub.refl _) (at_mut aG))), .imm .non, ?_, fun b m => fr b ?_, upd_mut (List.mem_append_right _ List.mem_cons_self) (by rw [ha]; exact fun z => by cases z) fun b m => ?_⟩⟩
      · show (a :: (F ++ G)).Nodup
        refine List.nodup_cons.mpr ⟨fun z => (List.mem_append.mp z).elim n2.1 aG, nd_app.mpr ⟨n2.2, n1.1, fun b m z => n1.2.2 b z (List.mem_cons_of_mem _ m)⟩⟩
      · simp only [List.nil_append, List.mem_cons, List.mem_append] at m ⊢
        rcases m with m | m | m
        · exact .inr (.inl m)
        · exact .inr (.inr m)
        · exact .inl m
      · simp only [List.nil_append, List.mem_cons, List.mem_append] at m ⊢
        rcases m with m | m | m
        · exact .inr (.inl m)
        · exact .inr (.inr m)
        · exact .inl m
    · rw [if_neg hl] at hf
      cases hf
theorem OwL.appR {us : List V} {ts : List T} {G : List Addr} (h : OwL Γ B H us ts G) : ∀ {ws : List V} {ds : List D}, RpL Γ B ws ds → OwL Γ B H (us ++ ws) (ts ++ ims ds) G
  | [], [], .nil => by simpa using h
  | w :: ws, d :: ds, .cons r1 r2 => by
    have h2 := OwL.appR (OwL.snoc h (.imm r1)) r2
    simpa [ims, List.append_assoc] using h2
theorem OwL.unsnoc : ∀ {ts : List T} {us : List V} {G : List Addr}, OwL Γ B H us ts G → ∀ {t}, ts[ts.length - 1]? = some t → ∃ w G1 G2, us[us.length - 1]? = some w ∧ G = G1 ++ G2 ∧ OwL Γ B H us.dropLast ts.dropLast G1 ∧ Ow Γ B H w t G2
  | [], _, _, _, t, h => by simp at h
  | [t0], _, _, .cons (v := v) o .nil, t, h => by
    have e : t0 = t := by simpa using h
    subst e
    exact ⟨v, [], _, rfl, by simp, .nil, o⟩
  | t0 :: t1 :: ts, _, _, .cons (v := v) (F := F) o (.cons (v := v1) (vs := vs) o1 o2), t, h => by
    obtain ⟨w, G1, G2, hw, e, ol, ow⟩ := OwL.unsnoc (ts := t1 :: ts) (.cons o1 o2) (t := t) (by simpa using h)
    refine ⟨w, F ++ G1, G2, by simpa using hw, ?_, .cons o ol, ow⟩
    rw [List.append_assoc, ← e]
theorem md_pop : MethD Γ rPop mPop := fun {B H a us xs l ts l' res F G Q} e ha ol ox nd fr hf q => by
  match ts, hf, ox with
  | [], hf, ox =>
    cases ox
    have hf : (match l[l.length - 1]? with
      | some t => some (l.dropLast, t)
      | none => none) = some (l', res) := hf
    cases ht : l[l.length - 1]? with
    | none => rw [ht] at hf; cases hf
    | some t =>
      rw [ht] at hf
      cases hf
      obtain ⟨w, G1, G2, hw, rfl, ol1, ow⟩ := OwL.unsnoc ol ht
      have nd : (a :: (G1 ++ G2)).Nodup := nd
      have n2 := List.nodup_cons.mp nd
      have n3 := nd_app.mp n2.2
      refine ⟨a, us, w, rfl, rfl, ha, hw, q w _ B (a :: G1) G2 ⟨sub_mut e (fr a List.mem_cons_self), .lst upd_same (ol1.at (Sub.refl _) (at_mut fun z => n2.1 (List.mem_append_left _ z))), ow.at (Sub.refl _) (at_mut fun z => n2.1 (List.mem_append_right _ z)), ?_, fun b m => fr b ?_, upd_mut (by exact List.mem_cons_self) (by rw [ha]; exact fun z => by cases z) fun b m => ?_⟩⟩
      · refine nd_app.mpr ⟨n3.2.1, List.nodup_cons.mpr ⟨fun z => n2.1 (List.mem_append_left _ z), n3.1⟩, fun b m z => ?_⟩
        rcases List.mem_cons.mp z with rfl | z
        · exact n2.1 (List.mem_append_right _ m)
        · exact n3.2.2 b z m
      · simp only [List.nil_append, List.mem_cons, List.mem_append] at m ⊢
        rcases m with m | m | m
        · exact .inr (.inr m)
        · exact .inl m
        · exact .inr (.inl m)
      · simp only [List.nil_append, List.mem_cons, List.mem_append] at m ⊢
        rcases m with m | m | m
        · exact .inr (.inr m)
        · exact .inl m
        · exact .inr (.inl m)
  | _ :: _, hf, ox => cases hf
variable (Γ) in
def IpD (ti : TIp) (f : D → D → Option T) : Prop := ∀ {B H : Hp} {x y : V} {d e : D} {t : T} {Q : VK}, Sub B H → Rp Γ B x d → Rp Γ B y e → f d e = some t → (∀ v H' B' G, NewV Γ B H t v H' B' G → Q v H') → ti x y H Q
theorem e_aug {i : Nat} {f : D → D → Option T} {ti : TIp} {m : Sm T} {D : Ends} (hd : IpD Γ ti f) (hf : i ∉ fx) (h : tSs Γ W fx (sAug i f m) D σ H) : tAug i (tSm Γ W m) ti D σ H := by
  obtain ⟨B, st, F, S, h⟩ := h
  unfold sAug at h
  split at h
  · rename_i d e
    obtain ⟨A, Gm, C, hF, g, k⟩ := S.sl.open (lt_of_some e)
    obtain ⟨x, hx, o⟩ := g _ e
    cases o with
    | imm rx =>
      rw [run_bind] at h
      refine ⟨x, hx, B, st, F, S, h.mono (fun t1 st1 q v H1 B1 G1 F1 p => ?_) fun _ _ q => OutS.x q⟩
      obtain ⟨B2, ry, p'⟩ := p.frz
      split at q
      · rename_i t2 e2
        refine hd p'.s.ex (rx.mono Γ p'.u.b) ry e2 fun w H2 B3 G3 n => ?_
        obtain ⟨B4, F4, r⟩ := PostV.storeF (fx := fx) hf (n.post p')
        exact q _ H2 B4 F4 r
      · exact q.elim
  · exact h.elim
theorem gs_aug {X : Cx} {e : Expr} {m : Sm T} {pos pos' : Pos} {i : Nat} {x : Str} {op : Operator} {f : D → D → Option T} {ti : TIp} (hN : X.N.Nodup) (ho : PIp X op ti) (hd : IpD Γ ti f) (he : PE X e (tSm Γ W m)) (hi : X.N[i]? = some x := by rfl) (hf : i ∉ fx := by decide) (hx : Loc X.env.scope x := by first | exact Or.inl rfl | exact Or.inr rfl)
    (hy : X.fn x = true ∨ X.env.scope.names.lookup x = some .local := by first | exact .inl rfl | exact .inr rfl | assumption) : PS X (.AugAssign (.Name x pos') op e pos) (tSs Γ W fx (sAug i f m)) := PS.weak (ps_aug hN hi hx he ho hy) fun _ _ _ => e_aug hd hf
theorem Sl.nones : ∀ n : Nat, Sl Γ B H (List.replicate n none) (List.replicate n none) []
  | 0 => .nil
  | n + 1 => .skip (Sl.nones n)
theorem Sl.app {τ : L2.St} {su : G.St} (h : Sl Γ B H σ st F) (k : Sl Γ B H τ su []) : Sl Γ B H (σ ++ τ) (st ++ su) F := by
  induction h with
  | nil => exact k
  | skip _ ih => exact .skip ih
  | cons o _ ih => exact .cons o ih
theorem Sl.fin : ∀ {vs : List V} {σ : L2.St} {st : G.St} {F : List Addr} {i : Nat}, Sl Γ B H σ st F → vs.length ≤ σ.length → (∀ j, j < vs.length → i + j ∈ fx → σ[j]? = (vs.map some)[j]?) →
    ∃ F', Sl Γ B H (vs.map some) (G.fin fx i vs.length st) F' ∧ (∀ a ∈ F', a ∈ F) ∧ (F.Nodup → F'.Nodup)
  | [], σ, st, F, i, h, _, _ => ⟨[], .nil, fun _ m => (nomatch m), fun _ => .nil⟩
  | v :: vs, σ, st, F, i, h, hl, k => by
    cases h with
    | nil => exact absurd hl (by simp)
    | skip h =>
      obtain ⟨F', s, f, n⟩ := Sl.fin (vs := vs) (i := i + 1) h (by simpa using hl) fun j hj m => by
        have := k (j + 1) (by simpa using hj) (by rw [Nat.add_assoc, Nat.add_comm 1] at m; exact m)
        simpa using this
      refine ⟨F', ?_, f, n⟩
      show Sl Γ B H (some v :: vs.map some) ((if i ∈ fx then none else none) :: G.fin fx (i + 1) vs.length _) F'
      rw [ite_self]
      exact .skip s
    | @cons w t σ' st' F0 G0 o h =>
      obtain ⟨F', s, f, n⟩ := Sl.fin (vs := vs) (i := i + 1) h (by simpa using hl) fun j hj m => by
        have := k (j + 1) (by simpa using hj) (by rw [Nat.add_assoc, Nat.add_comm 1] at m; exact m)
        simpa using this
      show ∃ F', Sl Γ B H (some v :: vs.map some) ((if i ∈ fx then some t else none) :: G.fin fx (i + 1) vs.length st') F' ∧ _
      by_cases hi : i ∈ fx
      · have e := k 0 (by simp) (by simpa using hi)
        have e' : w = v := by simpa using e
        subst e'
        rw [if_pos hi]
        refine ⟨G0 ++ F', .cons o s, fun a m => ?_, fun nd => ?_⟩
        · rcases List.mem_append.mp m with m | m
          · exact List.mem_append_left _ m
          · exact List.mem_append_right _ (f a m)
        · have nd := nd_app.mp nd
          exact nd_app.mpr ⟨nd.1, n nd.2.1, fun a m z => nd.2.2 a m (f a z)⟩
      · rw [if_neg hi]
        exact ⟨F', .skip s, fun a m => List.mem_append_right _ (f a m), fun nd => n (nd_app.mp nd).2.1⟩
/-- an exception that leaves a def -/
abbrev Wof (E : XK) : L2.WX := fun cls d _ H => E cls d H
theorem e_def {np n : Nat} {body : Ss} {vs : List V} {Q : VK} {E : XK} (h : spOf Γ (sDef np n fx body) vs H Q E) (hn : np ≤ n) :
    tSs Γ (Wof E) fx body { nx := fun _ H' => Q .non H', rt := Q } (vs.map some ++ List.replicate (n - vs.length) none) H := by
  obtain ⟨B, ts, F, S, h⟩ := h
  have hl : vs.length = ts.length := by simpa using S.sl.len
  unfold sDef at h
  by_cases hp : ts.length = np
  · rw [if_pos hp] at h
    have S' : Stt Γ B H (vs.map some ++ List.replicate (n - vs.length) none) (ts.map some ++ List.replicate (n - np) none) F := by
      rw [hl, hp]
      exact ⟨S.ex, S.sl.app (Sl.nones _), S.nd, S.fr⟩
    have key : ∀ {σ' : L2.St} {st' : G.St} {H' B' : Hp} {F' : List Addr}, Stt Γ B' H' σ' st' F' → (∀ i ∈ fx, σ'[i]? = (vs.map some ++ List.replicate (n - vs.length) none)[i]?) → σ'.length = (vs.map some ++ List.replicate (n - vs.length) none).length →
        ∃ F2, Stt Γ B' H' (vs.map some) (G.fin fx 0 np st') F2 ∧ ∀ a ∈ F2, a ∈ F' := by
      intro σ' st' H' B' F' S2 k hlen
      obtain ⟨F2, s, f, nd⟩ := Sl.fin (fx := fx) (vs := vs) (i := 0) S2.sl (by rw [hlen, List.length_append, List.length_map]; exact Nat.le_add_right _ _) fun j hj m => by
        rw [Nat.zero_add] at m
        rw [k j m, List.getElem?_append_left (by simpa using hj)]
      rw [hl, hp] at s
      exact ⟨F2, ⟨S2.ex, s, nd S2.nd, fun a m => S2.fr a (f a m)⟩, f⟩
    refine ⟨B, _, F, S', ?_⟩
    cases hb : body (ts.map some ++ List.replicate (n - np) none) with
    | no => rw [hb] at h; exact h.elim
    | ex x st' =>
      rw [hb] at h
      intro σ' cls d H' B' F' p r
      obtain ⟨F2, S2, f⟩ := key p.s p.k p.l
      exact h cls d H' B' F2 ⟨⟨S2, p.u.weak f⟩, r⟩
    | ok fl st' =>
      rw [hb] at h
      cases fl with
      | nx =>
        intro σ' H' B' F' p
        obtain ⟨F2, S2, f⟩ := key p.s p.k p.l
        exact h .non H' B' [] F2 (PostV.imm ⟨S2, p.u.weak f⟩ .non)
      | rt t =>
        intro σ' v H' B' G F' p
        obtain ⟨F2, S2, f⟩ := key p.v.s p.k p.l
        have nd := nd_app.mp p.v.nd
        refine h v H' B' G F2 ⟨S2, p.v.o, nd_app.mpr ⟨nd.1, S2.nd, fun a m z => nd.2.2 a m (f a z)⟩, p.v.fr, p.v.u.weak fun a m => ?_⟩
        rcases List.mem_append.mp m with m | m
        · exact List.mem_append_left _ m
        · exact List.mem_append_right _ (f a m)
      | bk => exact h.elim
      | ct => exact h.elim
  · rw [if_neg hp] at h
    exact h.elim
/-- a def of the text does what its combinators do -/
theorem fn_ok {P : Program} {w : World} {K : PySem.W.Frag} {mg : Str → Option Value} {base : Heap} {x qual : Str} {st : Stmt} {f : Addr} {fd : FuncData} {N ps : List Str} {k : Nat} {body : Ss} (Fk : Fun K x qual st f fd) (S : FnScope N ps (defScope st))
    (h : ∀ (cdv : Value) (A : Around) (outer : List Env) (s : Shared) (H : Hp) (E : XK), Room k (A.deeper (envOfC qual (defScope st) s.heap.objs.size f cdv)) →
      PSs (cxOf (L2.CX P w) P w K mg base N qual (defScope st) f cdv A outer s H E) (defBody st) (tSs Γ (Wof E) fx body)) (hn : ps.length ≤ N.length := by decide) :
    FnOk P w K mg base (L2.CX P w) (k + 1) f fd ps (spOf Γ (sDef ps.length N.length fx body)) := by
  refine Fk.okX S (fun vs H Q E q => ?_) fun cdv A outer s H vs Q E hr q => ⟨_, h cdv A outer s H E hr, ?_⟩
  · obtain ⟨B, ts, F, S, h⟩ := q
    have hl : vs.length = ts.length := by simpa using S.sl.len
    rw [hl]
    unfold sDef at h
    by_cases hp : ts.length = ps.length
    · exact hp
    · rw [if_neg hp] at h
      exact h.elim
  · exact e_def q hn
end
end G
set_option Elab.async false
set_option linter.all false
set_option maxRecDepth 100000
namespace G
open PySem PySem.Spec PyProof.Rows L2
section
variable {Γ : Wh} {X : Cx}
variable {B H B' H' : Hp} {v : V} {d : D}
theorem kEq_one (k k' : Key) : kEq (keyD k') (keyD k) = decide (k' = k) := by
  cases k <;> cases k' <;> simp [kEq, keyD]
theorem kEq1_one (k k' : Key) : kEq1 (keyD k') (keyD k) = decide (k' = k) := by
  cases k <;> cases k' <;> simp [kEq1, keyD]
theorem kEqL_map : ∀ ks ks' : List Key, kEqL (ks'.map keyD) (ks.map keyD) = decide (ks' = ks)
  | [], [] => rfl
  | [], _ :: _ => rfl
  | _ :: _, [] => rfl
  | k :: ks, k' :: ks' => by
    show (kEq1 (keyD k') (keyD k) && kEqL (ks'.map keyD) (ks.map keyD)) = _
    rw [kEq1_one, kEqL_map ks ks']
    simp
theorem kEq_tup (ks ks' : List Key) : kEq (.tup (ks'.map keyD)) (.tup (ks.map keyD)) = decide (ks' = ks) := kEqL_map ks ks'
theorem Rp.key1 {y : V} {kd : D} (r : Rp Γ B y kd) (h : isKey1 kd = true) : ∃ k : Key, y = kV k ∧ kd = keyD k := by
  cases r with
  | int i => exact ⟨.inl i, rfl, rfl⟩
  | str i => exact ⟨.inr i, rfl, rfl⟩
  | _ => cases h
theorem Rp.keyK {y : V} {kd : D} (r : Rp Γ B y kd) (h : isKey false kd = true) : ∃ k : Key, y = kV k ∧ kd = keyD k := by
  cases r with
  | int i => exact ⟨.inl i, rfl, rfl⟩
  | str i => exact ⟨.inr i, rfl, rfl⟩
  | _ => cases h
theorem RpL.keys : ∀ {l : List D} {vs : List V}, RpL Γ B vs l → l.all isKey1 = true → ∃ ks : List Key, vs = ks.map kV ∧ l = ks.map keyD
  | _, _, .nil, _ => ⟨[], rfl, rfl⟩
  | _, _, .cons a r, h => by
    rw [List.all_cons, Bool.and_eq_true] at h
    obtain ⟨k, rfl, rfl⟩ := a.key1 h.1
    obtain ⟨ks, rfl, rfl⟩ := RpL.keys r h.2
    exact ⟨k :: ks, rfl, rfl⟩
theorem Rp.keyT {y : V} {kd : D} (r : Rp Γ B y kd) (h : isKey true kd = true) : ∃ (b : Addr) (ks : List Key), y = .ref b ∧ B b = some (.tup (ks.map kV)) ∧ kd = .tup (ks.map keyD) := by
  cases r with
  | @tup a vs l ha rl =>
    have h : (true && l.all isKey1) = true := h
    obtain ⟨ks, rfl, rfl⟩ := rl.keys (by simpa using h)
    exact ⟨a, ks, rfl, ha, rfl⟩
  | _ => cases h
theorem RpK.find (k : Key) : ∀ {vs : List (Key × V)} {l : List (D × D)}, RpK Γ B vs l → (dFind l (keyD k) = none ∧ valV vs k = none) ∨ ∃ d v, dFind l (keyD k) = some d ∧ valV vs k = some v ∧ Rp Γ B v d
  | _, _, .nil => .inl ⟨rfl, rfl⟩
  | _, _, @RpK.cons _ _ k' v d vs l r rs => by
    by_cases e : k' = k
    · refine .inr ⟨d, v, ?_, valV_pos e, r⟩
      show (if kEq (keyD k') (keyD k) then some d else dFind l (keyD k)) = _
      rw [kEq_one, if_pos (decide_eq_true e)]
    · have e1 : dFind ((keyD k', d) :: l) (keyD k) = dFind l (keyD k) := by
        show (if kEq (keyD k') (keyD k) then some d else dFind l (keyD k)) = _
        rw [kEq_one, if_neg (by simpa using e)]
      rw [e1, valV_neg (p := (k', v)) e]
      exact RpK.find k rs
theorem RpU.find (k : List Key) : ∀ {vs : List (List Key × V)} {l : List (D × D)}, RpU Γ B vs l → (dFind l (.tup (k.map keyD)) = none ∧ valV vs k = none) ∨ ∃ d v, dFind l (.tup (k.map keyD)) = some d ∧ valV vs k = some v ∧ Rp Γ B v d
  | _, _, .nil => .inl ⟨rfl, rfl⟩
  | _, _, @RpU.cons _ _ k' v d vs l r rs => by
    by_cases e : k' = k
    · refine .inr ⟨d, v, ?_, valV_pos e, r⟩
      show (if kEq (.tup (k'.map keyD)) (.tup (k.map keyD)) then some d else dFind l (.tup (k.map keyD))) = _
      rw [kEq_tup, if_pos (decide_eq_true e)]
    · have e1 : dFind ((.tup (k'.map keyD), d) :: l) (.tup (k.map keyD)) = dFind l (.tup (k.map keyD)) := by
        show (if kEq (.tup (k'.map keyD)) (.tup (k.map keyD)) then some d else dFind l (.tup (k.map keyD))) = _
        rw [kEq_tup, if_neg (by simpa using e)]
      rw [e1, valV_neg (p := (k', v)) e]
      exact RpU.find k rs
/-- what a dict as data holds at a key -/
theorem Rp.dget {x y : V} {b : Bool} {kvs : List (D × D)} {kd : D} (s : Sub B H) (rx : Rp Γ B x (.dct b kvs)) (ry : Rp Γ B y kd) (hk : isKey b kd = true) :
    ∃ a, x = .ref a ∧ ((dFind kvs kd = none ∧ DGet H a y none) ∨ ∃ d v, dFind kvs kd = some d ∧ Rp Γ B v d ∧ DGet H a y (some v)) := by
  cases rx with
  | @dK a vs l ha nd r =>
    obtain ⟨k, rfl, rfl⟩ := ry.keyK hk
    refine ⟨a, rfl, ?_⟩
    rcases r.find k with ⟨h1, h2⟩ | ⟨d, v, h1, h2, h3⟩
    · exact .inl ⟨h1, .inl ⟨vs, k, s.rd ha, rfl, h2.symm⟩⟩
    · exact .inr ⟨d, v, h1, h3, .inl ⟨vs, k, s.rd ha, rfl, h2.symm⟩⟩
  | @dT a vs l ha nd r =>
    obtain ⟨p, k, rfl, hp, rfl⟩ := ry.keyT hk
    refine ⟨a, rfl, ?_⟩
    rcases r.find k with ⟨h1, h2⟩ | ⟨d, v, h1, h2, h3⟩
    · exact .inl ⟨h1, .inr ⟨vs, k, p, s.rd ha, rfl, s _ _ hp, h2.symm⟩⟩
    · exact .inr ⟨d, v, h1, h3, .inr ⟨vs, k, p, s.rd ha, rfl, s _ _ hp, h2.symm⟩⟩
theorem RpK.len : ∀ {vs : List (Key × V)} {l : List (D × D)}, RpK Γ B vs l → vs.length = l.length
  | _, _, .nil => rfl
  | _, _, .cons _ r => by simp [RpK.len r]
theorem RpU.len : ∀ {vs : List (List Key × V)} {l : List (D × D)}, RpU Γ B vs l → vs.length = l.length
  | _, _, .nil => rfl
  | _, _, .cons _ r => by simp [RpU.len r]
/-- a dict subscripted -/
def rIxD : R2 := fun x y H Q => ∃ a v, x = .ref a ∧ DGet H a y (some v) ∧ Q v H
theorem ix_dict (hu : X.A.units + 1 < cLine) : IxR X rIxD := by
  intro value slice pins s σ H x y v u Q I rx ry h hs
  obtain ⟨a, w, rfl, g, q⟩ := h
  obtain rfl : v = Value.ref a := rx
  have hT := dict_typeIs I g
  unfold subscriptTail
  refine wpAny_bind ?_
  rw [getitemInPython_of_ne hT.not_modules]
  refine wpAny_bind (wpAny_specialOf hT PySem.F.slot_dict_getitem.lookup ?_)
  have fin : wpAny (model X.prog X.w) X.A (subscripted slice false (.ref a) u) (fun r s3 => wpAny (model X.prog X.w) X.A (letTemporaryGo value (.ref a) r >>= fun _ => pure r) (EP X pins σ Q) X.xe s3) X.xe s := by
    rw [hs]
    exact wpAny_operating (d_getItem hu I g ry fun w' s3 I3 rw' => wpAny_bind (wpAny_letTemporaryGo (wpAny_pure ⟨w, H, I3, rw', q⟩)))
  first
    | exact wpAny_pure (wpAny_bind fin)
    | exact wpAny_bind (wpAny_pure (wpAny_bind fin))
    | exact wpAny_bind fin
def rInDct : R2 := fun y x H Q => ∃ a o, x = .ref a ∧ DGet H a y o ∧ Q (.bl o.isSome) H
def rNotInDct : R2 := fun y x H Q => ∃ a o, x = .ref a ∧ DGet H a y o ∧ Q (.bl (!o.isSome)) H
theorem o_inDct (hu : X.A.units + 1 < cLine) : OpR X (compareOp .In) rInDct := by
  intro pins s σ H x y v u Q I rx ry h
  obtain ⟨a, o, rfl, g, q⟩ := h
  obtain rfl : u = Value.ref a := ry
  exact d_in hu I g rx fun s3 I3 => ⟨.bl o.isSome, H, I3, rfl, q⟩
theorem o_notInDct (hu : X.A.units + 1 < cLine) : OpR X (compareOp .NotIn) rNotInDct := by
  intro pins s σ H x y v u Q I rx ry h
  obtain ⟨a, o, rfl, g, q⟩ := h
  obtain rfl : u = Value.ref a := ry
  exact d_notIn hu I g rx fun s3 I3 => ⟨.bl (!o.isSome), H, I3, rfl, q⟩
end
end G
set_option Elab.async false
set_option linter.all false
set_option maxRecDepth 100000
namespace G
open PySem PySem.Spec PyProof.Rows L2
end G
set_option Elab.async false
set_option linter.all false
set_option maxRecDepth 100000
namespace G
open PySem PySem.Spec PyProof.Rows L2
section
variable {Γ : Wh} {X : Cx} {B H B' H' : Hp} {σ : L2.St} {W : L2.WX} {st : G.St} {F G' : List Addr}
theorem Sl.frzAll (e : Sub B B') (h : Sl Γ B H σ st F) : At H B' F → Sl Γ B' H σ (frzSt st) [] := by
  induction h with
  | nil => exact fun _ => .nil
  | skip _ ih => exact fun k => .skip (ih k)
  | cons o _ ih =>
    intro k
    have := Sl.cons (Ow.imm (o.frz e k.l)) (ih k.r)
    exact this
mutual
theorem Ow.scal : ∀ {v : V} {t : T} {G' : List Addr}, Ow Γ B' H' v t G' → t.scal = true → Ow Γ B H' v t G'
  | _, _, _, .imm r, k => by
    cases r with
    | non => exact .imm .non
    | bl b => exact .imm (.bl b)
    | int b => exact .imm (.int b)
    | str b => exact .imm (.str b)
    | _ => exact nomatch k
  | _, _, _, .lst h r, k => .lst h (OwL.scal r k)
theorem OwL.scal : ∀ {v : List V} {t : List T} {G' : List Addr}, OwL Γ B' H' v t G' → T.scalL t = true → OwL Γ B H' v t G'
  | _, _, _, .nil, _ => .nil
  | _, _, _, .cons o r, k => by
    have k' := (Bool.and_eq_true _ _ ▸ k : _ = true ∧ _ = true)
    exact .cons (Ow.scal o k'.1) (OwL.scal r k'.2)
end
theorem Stt.frz (S : Stt Γ B H σ st F) : Stt Γ (frzB B H F) H σ (frzSt st) [] := ⟨frzB_ex S.ex, S.sl.frzAll (frzB_sub S.ex) frzB_at, .nil, fun _ m => nomatch m⟩
theorem Stt.still (S : Stt Γ B H σ st F) {B1 : Hp} {F1 : List Addr} (u : Upd (frzB B H F) H [] B1 H' F1) : Stt Γ B H' σ st F :=
  ⟨fun a o h => u.keep a o (S.ex a o h) fun m => (nomatch m), S.sl.at (Sub.refl B) fun a _ o h => u.keep a o h fun m => (nomatch m), S.nd, S.fr⟩
theorem Upd.still {B1 : Hp} {F1 : List Addr} (u : Upd (frzB B H F) H [] B1 H' F1) : Upd B H F B H' F :=
  ⟨Sub.refl B, fun a o h _ => u.keep a o h fun m => (nomatch m), u.dom, fun _ m => .inl m, fun _ _ h => .inl h⟩
theorem e_view {m : Sm T} {Q : VK} (h : tSm Γ W (sView m) σ H Q) : tSm Γ W m σ H Q := by
  obtain ⟨B, st, F, S, h⟩ := h
  refine ⟨frzB B H F, frzSt st, [], S.frz, ?_⟩
  unfold sView at h
  cases e : m (frzSt st) with
  | no => rw [e] at h; exact h.elim
  | ex x s => rw [e] at h; exact h.elim
  | ok t s =>
    rw [e] at h
    dsimp only at h
    cases k : t.scal with
    | false => rw [k] at h; exact h.elim
    | true =>
      rw [k] at h
      intro v H' B' G F' p
      have gn : ∀ a ∈ G, H a = none := fun a m => by
        rcases p.u.new a (List.mem_append_left _ m) with q | q
        · exact nomatch q
        · exact q
      refine h v H' B G F ⟨S.still p.u, p.o.scal k, ?_, fun a m => S.ex.none (gn a m), ?_⟩
      · exact nd_app.mpr ⟨(nd_app.mp p.nd).1, S.nd, fun a m z => (S.there a z).ne (gn a m)⟩
      · have u := Upd.still p.u
        exact ⟨u.b, u.keep, u.dom, fun a m => (List.mem_append.mp m).elim (fun z => .inr (gn a z)) .inl, u.frz⟩
theorem e_viewB {m : Sm Bool} {Q : Bool → Hp → Prop} (h : tBm Γ W (sViewB m) σ H Q) : tBm Γ W m σ H Q := by
  obtain ⟨B, st, F, S, h⟩ := h
  refine ⟨frzB B H F, frzSt st, [], S.frz, ?_⟩
  unfold sViewB at h
  cases e : m (frzSt st) with
  | no => rw [e] at h; exact h.elim
  | ex x s => rw [e] at h; exact h.elim
  | ok b s =>
    rw [e] at h
    intro H' B' F' p
    exact h H' B F ⟨S.still p.u, Upd.still p.u⟩
theorem ge_view {e : Expr} {m : Sm T} (h : PE X e (tSm Γ W m)) : PE X e (tSm Γ W (sView m)) := PE.weak h fun _ _ _ => e_view
theorem gt_view {e : Expr} {m : Sm Bool} (h : PT X e (tBm Γ W m)) : PT X e (tBm Γ W (sViewB m)) := PT.weak h fun _ _ _ => e_viewB
/-- a call that promises nothing -/
theorem fn_no {P : Program} {w : World} {K : PySem.W.Frag} {mg : Str → Option Value} {base : Heap} {CX : CXT} {k : Nat} {f : Addr} {fd : FuncData} {ps : List Str} : FnOk P w K mg base CX k f fd ps (spOf Γ fun _ => .no) :=
  ⟨fun _ _ _ _ q => by obtain ⟨_, _, _, _, z⟩ := q; exact z.elim, fun _ _ _ _ _ _ _ _ _ _ _ _ _ q => by obtain ⟨_, _, _, _, z⟩ := q; exact z.elim⟩
end
end G
set_option Elab.async false
set_option linter.all false
set_option maxRecDepth 100000
namespace G
open PySem PySem.Spec PyProof.Rows L2
section
variable {Γ : Wh} {X : Cx}
variable {B H B' H' : Hp} {v : V} {d : D}
theorem new_int {i : Int} (e : Sub B H) : NewV Γ B H (.imm (.int i)) (.int i) H B [] := NewV.imm e (.int i)
theorem new_bl {i : Bool} (e : Sub B H) : NewV Γ B H (.imm (.bl i)) (.bl i) H B [] := NewV.imm e (.bl i)
theorem new_str {i : Str} (e : Sub B H) : NewV Γ B H (.imm (.str i)) (.str i) H B [] := NewV.imm e (.str i)
theorem ims_ow {vs : List V} {l : List D} (r : RpL Γ B vs l) : OwL Γ B H vs (ims l) [] := by
  have := OwL.appR (Γ := Γ) (B := B) (H := H) .nil r
  simpa using this
/-- a new list of data -/
theorem new_lst {p : Addr} {vs : List V} {l : List D} (e : Sub B H) (hp : H p = none) (r : RpL Γ B vs l) : NewV Γ B H (.lst (ims l)) (.ref p) (upd H p (.lst vs)) B [p] :=
  ⟨e.put (e.none hp), .lst upd_same (ims_ow r), (by simp), fun a m => by rw [List.mem_singleton.mp m]; exact e.none hp, upd_newH hp⟩
theorem RpL.app {vs ws : List V} {l m : List D} : RpL Γ B vs l → RpL Γ B ws m → RpL Γ B (vs ++ ws) (l ++ m)
  | .nil, r => r
  | .cons a b, r => .cons a (RpL.app b r)
theorem RpL.rev {vs : List V} {l : List D} : RpL Γ B vs l → RpL Γ B vs.reverse l.reverse
  | .nil => .nil
  | .cons a b => by
    rw [List.reverse_cons, List.reverse_cons]
    exact RpL.app (RpL.rev b) (.cons a .nil)
theorem RpL.drop {vs : List V} {l : List D} : ∀ n : Nat, RpL Γ B vs l → RpL Γ B (vs.drop n) (l.drop n)
  | 0, r => r
  | n + 1, .nil => .nil
  | n + 1, .cons a b => RpL.drop n b
theorem RpL.take {vs : List V} {l : List D} : ∀ n : Nat, RpL Γ B vs l → RpL Γ B (vs.take n) (l.take n)
  | 0, _ => .nil
  | n + 1, .nil => .nil
  | n + 1, .cons a b => .cons a (RpL.take n b)
theorem RpL.rep {vs : List V} {l : List D} (r : RpL Γ B vs l) : ∀ n : Nat, RpL Γ B (List.replicate n vs).flatten (List.replicate n l).flatten
  | 0 => .nil
  | n + 1 => by
    rw [List.replicate_succ, List.replicate_succ, List.flatten_cons, List.flatten_cons]
    exact RpL.app r (RpL.rep r n)
theorem RpL.allI : ∀ {l : List D} {vs : List V} {ns : List Int}, RpL Γ B vs l → G.allI l = some ns → vs = ns.map V.int
  | [], _, _, .nil, e => by cases e; rfl
  | .int i :: l, _, ns, .cons (.int _) r, e => by
    have e : (G.allI l).map (i :: ·) = some ns := e
    cases q : G.allI l with
    | none => rw [q] at e; cases e
    | some ms =>
      rw [q] at e
      cases e
      rw [RpL.allI r q]
      rfl
theorem RpL.allS : ∀ {l : List D} {vs : List V} {ns : List Str}, RpL Γ B vs l → G.allS l = some ns → vs = ns.map V.str
  | [], _, _, .nil, e => by cases e; rfl
  | .str i :: l, _, ns, .cons (.str _) r, e => by
    have e : (G.allS l).map (i :: ·) = some ns := e
    cases q : G.allS l with
    | none => rw [q] at e; cases e
    | some ms =>
      rw [q] at e
      cases e
      rw [RpL.allS r q]
      rfl
theorem mul_ok {i j : Int} (h : bits i + bits j < mulLine) : IntMulOk i j := by
  have b : ∀ x : Int, Builtin.Int.intBits x ≤ bits x + 1 := fun x => by
    unfold Builtin.Int.intBits bits
    split <;> omega
  have h1 := b i
  have h2 := b j
  have e : bitsLine = 134217728 := by decide
  have m : mulLine = 134000000 := rfl
  unfold IntMulOk
  intro z
  rw [Bool.and_eq_true] at z
  have z3 := of_decide_eq_true z.2
  rw [e] at z3
  omega
theorem o_mul : OpR X (binaryOp .Mult) (rI (fun i j => bits i + bits j < mulLine) fun i j => .int (i * j)) := opI fun _ _ _ _ _ _ _ hc q => mul_int q (mul_ok hc)
theorem o_fdiv : OpR X (binaryOp .FloorDiv) (rI (fun _ j => 0 < j ∧ bits j < 9000) fun i j => .int (i / j)) := opI fun i j _ _ _ _ _ hc q => by
  have h1 : (0 : Int) < j := hc.1
  exact floordiv_int (by omega) (by rw [Int.fdiv_eq_ediv_of_nonneg i (by omega)]; exact q) (.inl (PyProof.noPylong_of_log2 hc.2))
theorem o_mulS : OpR X (binaryOp .Mult) (fun x y H Q => ∃ s k, x = .str s ∧ y = .int k ∧ (k < 1000000 ∧ -1000000 < k ∧ s.length ≤ 10000 ∧ s.length * k.toNat ≤ line) ∧ Q (.str (Txt.mul s k)) H) := by
  intro pins s σ H x y v u Q I rx ry h
  obtain ⟨z, k, rfl, rfl, ⟨h1, h2, h3, h4⟩, q⟩ := h
  obtain ⟨t, rfl⟩ := rx
  obtain ⟨t', rfl⟩ := ry
  refine SB.mul ⟨?_, fun hk _ hz => ?_, fun hk _ => ?_⟩ fun t2 k2 => ⟨.str _, H, I.tok _, ⟨_, rfl⟩, q⟩
  · rw [Bool.or_eq_false_iff, decide_eq_false_iff_not, decide_eq_false_iff_not]
    omega
  · have h5 : ((2 : Int) ^ 63 - 1) / k ≥ (2 ^ 63 - 1) / 1000000 := by
      apply Int.le_ediv_of_mul_le (by omega)
      have : (2 ^ 63 - 1 : Int) / 1000000 * k ≤ (2 ^ 63 - 1 : Int) / 1000000 * 1000000 := Int.mul_le_mul_of_nonneg_left (by omega) (by decide)
      have h6 : (2 ^ 63 - 1 : Int) / 1000000 * 1000000 ≤ 2 ^ 63 - 1 := by decide
      omega
    have h7 : ((2 : Int) ^ 63 - 1) / 1000000 > 10000 := by decide
    omega
  · have : line = sizeLine := by decide
    rw [this] at h4
    unfold Builtin.Str.tooLong
    simp only [decide_eq_false_iff_not]
    omega
theorem d_add : OpD Γ (fun x y H Q => rI0 (fun i j => .int (i + j)) x y H Q ∨ (∃ i j, x = .str i ∧ y = .str j ∧ i.length + j.length ≤ sizeLine ∧ Q (.str (i ++ j)) H) ∨ rCat x y H Q ∨ rCatT Γ.K x y H Q) fAdd := fun {B H x y d e t Q} s rx ry h k => by
  have L : line = sizeLine := by decide
  cases rx with
  | int i => cases ry with
    | int j => cases h; exact .inl ⟨i, j, rfl, rfl, k _ _ _ _ (new_int s)⟩
    | _ => cases h
  | str i => cases ry with
    | str j =>
      have h : (if i.length + j.length ≤ line then some (T.imm (.str (i ++ j))) else none) = some t := h
      by_cases z : i.length + j.length ≤ line
      · rw [if_pos z] at h
        cases h
        exact .inr (.inl ⟨i, j, rfl, rfl, L ▸ z, k _ _ _ _ (new_str s)⟩)
      · rw [if_neg z] at h; cases h
    | _ => cases h
  | @lst a vs l ha rl => cases ry with
    | @lst b ws r hb rr =>
      have h : (if l.length + r.length ≤ line then some (T.lst (ims (l ++ r))) else none) = some t := h
      by_cases z : l.length + r.length ≤ line
      · rw [if_pos z] at h
        cases h
        exact .inr (.inr (.inl ⟨a, b, vs, ws, rfl, rfl, s _ _ ha, s _ _ hb, by rw [rl.len, rr.len]; exact L ▸ z, fun p hp => k _ _ _ _ (new_lst s hp (rl.app rr))⟩))
      · rw [if_neg z] at h; cases h
    | _ => cases h
  | @tup a vs l ha rl => cases ry with
    | @tup b ws r hb rr =>
      have h : (if l.length + r.length ≤ line ∧ 0 < l.length ∧ 0 < r.length then some (T.imm (.tup (l ++ r))) else none) = some t := h
      by_cases z : l.length + r.length ≤ line ∧ 0 < l.length ∧ 0 < r.length
      · rw [if_pos z] at h
        cases h
        obtain ⟨z1, z2, z3⟩ := z
        rw [← rl.len] at z2
        rw [← rr.len] at z3
        refine .inr (.inr (.inr ⟨a, b, vs, ws, rfl, rfl, s.st (SqT.of ha), s.st (SqT.of hb), fun e => by rw [e] at z2; simp at z2, by rw [rl.len, rr.len]; exact L ▸ z1, fun e => by rw [e] at z3; simp at z3, fun _ p hp => k _ _ _ _ (NewV.obj s hp (.tup upd_same ((rl.app rr).mono Γ (Sub.new (s.none hp)))))⟩))
      · rw [if_neg z] at h; cases h
    | _ => cases h
  | _ => cases ry <;> cases h
theorem o_add : OpR X (binaryOp .Add) (fun x y H Q => rI0 (fun i j => .int (i + j)) x y H Q ∨ (∃ i j, x = .str i ∧ y = .str j ∧ i.length + j.length ≤ sizeLine ∧ Q (.str (i ++ j)) H) ∨ rCat x y H Q ∨ rCatT X.K x y H Q) := op_add.or (op_add_str.or (op_cat.or op_catT))
theorem d_sub : OpD Γ (rI0 fun i j => .int (i - j)) fSub := fun {B H x y d e t Q} s rx ry h k => by
  cases rx with
  | int i => cases ry with
    | int j => cases h; exact ⟨i, j, rfl, rfl, k _ _ _ _ (new_int s)⟩
    | _ => cases h
  | _ => cases h
theorem d_mod : OpD Γ (rI (fun _ j => 0 < j) fun i j => .int (i % j)) fMod := fun {B H x y d e t Q} s rx ry h k => by
  cases rx with
  | int i => cases ry with
    | int j =>
      have h : (if 0 < j then some (T.imm (.int (i % j))) else none) = some t := h
      by_cases z : 0 < j
      · rw [if_pos z] at h
        cases h
        exact ⟨i, j, rfl, rfl, z, k _ _ _ _ (new_int s)⟩
      · rw [if_neg z] at h; cases h
    | _ => cases h
  | _ => cases h
theorem d_div : OpD Γ (rI (fun _ j => 0 < j ∧ bits j < 9000) fun i j => .int (i / j)) fDiv := fun {B H x y d e t Q} s rx ry h k => by
  cases rx with
  | int i => cases ry with
    | int j =>
      have h : (if 0 < j ∧ bits j < 9000 then some (T.imm (.int (i / j))) else none) = some t := h
      by_cases z : 0 < j ∧ bits j < 9000
      · rw [if_pos z] at h
        cases h
        exact ⟨i, j, rfl, rfl, z, k _ _ _ _ (new_int s)⟩
      · rw [if_neg z] at h; cases h
    | _ => cases h
  | _ => cases h
theorem d_pow : OpD Γ (rI CPow fun i j => .int (i ^ j.toNat)) fPow := fun {B H x y d e t Q} s rx ry h k => by
  cases rx with
  | int i => cases ry with
    | int j =>
      have h : (if 0 ≤ j ∧ j ≤ 1000000 ∧ i.natAbs < 2 ^ 64 then some (T.imm (.int (i ^ j.toNat))) else none) = some t := h
      by_cases z : 0 ≤ j ∧ j ≤ 1000000 ∧ i.natAbs < 2 ^ 64
      · rw [if_pos z] at h
        cases h
        exact ⟨i, j, rfl, rfl, z, k _ _ _ _ (new_int s)⟩
      · rw [if_neg z] at h; cases h
    | _ => cases h
  | _ => cases h
theorem d_mul : OpD Γ (fun x y H Q => rI (fun i j => bits i + bits j < mulLine) (fun i j => .int (i * j)) x y H Q ∨ (∃ s k, x = .str s ∧ y = .int k ∧ (k < 1000000 ∧ -1000000 < k ∧ s.length ≤ 10000 ∧ s.length * k.toNat ≤ line) ∧ Q (.str (Txt.mul s k)) H) ∨ rRep x y H Q) fMul := fun {B H x y d e t Q} s rx ry h k => by
  have L : line = sizeLine := by decide
  cases rx with
  | int i => cases ry with
    | int j =>
      have h : (if bits i + bits j < mulLine then some (T.imm (.int (i * j))) else none) = some t := h
      by_cases z : bits i + bits j < mulLine
      · rw [if_pos z] at h
        cases h
        exact .inl ⟨i, j, rfl, rfl, z, k _ _ _ _ (new_int s)⟩
      · rw [if_neg z] at h; cases h
    | _ => cases h
  | str i => cases ry with
    | int j =>
      have h : (if j < 1000000 ∧ -1000000 < j ∧ i.length ≤ 10000 ∧ i.length * j.toNat ≤ line then some (T.imm (.str (Txt.mul i j))) else none) = some t := h
      by_cases z : j < 1000000 ∧ -1000000 < j ∧ i.length ≤ 10000 ∧ i.length * j.toNat ≤ line
      · rw [if_pos z] at h
        cases h
        exact .inr (.inl ⟨i, j, rfl, rfl, z, k _ _ _ _ (new_str s)⟩)
      · rw [if_neg z] at h; cases h
    | _ => cases h
  | @lst a vs l ha rl => cases ry with
    | int j =>
      have h : (if j < 1000000 ∧ -1000000 < j ∧ l.length * j.toNat ≤ line then some (T.lst (ims ((List.replicate j.toNat l).flatten))) else none) = some t := h
      by_cases z : j < 1000000 ∧ -1000000 < j ∧ l.length * j.toNat ≤ line
      · rw [if_pos z] at h
        cases h
        exact .inr (.inr ⟨a, j, vs, rfl, rfl, s _ _ ha, by omega, by omega, by rw [rl.len]; exact L ▸ z.2.2, fun p hp => k _ _ _ _ (new_lst s hp (rl.rep j.toNat))⟩)
      · rw [if_neg z] at h; cases h
    | _ => cases h
  | _ => cases ry <;> cases h
theorem o_mulA : OpR X (binaryOp .Mult) (fun x y H Q => rI (fun i j => bits i + bits j < mulLine) (fun i j => .int (i * j)) x y H Q ∨ (∃ s k, x = .str s ∧ y = .int k ∧ (k < 1000000 ∧ -1000000 < k ∧ s.length ≤ 10000 ∧ s.length * k.toNat ≤ line) ∧ Q (.str (Txt.mul s k)) H) ∨ rRep x y H Q) := o_mul.or (o_mulS.or op_rep)
theorem d_neg : UnD Γ (rU fun i => .int (-i)) fNeg := fun {B H x d t Q} s rx h k => by
  cases rx with
  | int i => cases h; exact ⟨i, rfl, k _ _ _ _ (new_int s)⟩
  | _ => cases h
theorem d_lt : OpD Γ (rI0 fun i j => .bl (decide (i < j))) fLt := fun {B H x y d e t Q} s rx ry h k => by
  cases rx with
  | int i => cases ry with
    | int j => cases h; exact ⟨i, j, rfl, rfl, k _ _ _ _ (new_bl s)⟩
    | _ => cases h
  | _ => cases h
theorem d_le : OpD Γ (rI0 fun i j => .bl (decide (i ≤ j))) fLe := fun {B H x y d e t Q} s rx ry h k => by
  cases rx with
  | int i => cases ry with
    | int j => cases h; exact ⟨i, j, rfl, rfl, k _ _ _ _ (new_bl s)⟩
    | _ => cases h
  | _ => cases h
theorem d_gt : OpD Γ (rI0 fun i j => .bl (decide (j < i))) fGt := fun {B H x y d e t Q} s rx ry h k => by
  cases rx with
  | int i => cases ry with
    | int j => cases h; exact ⟨i, j, rfl, rfl, k _ _ _ _ (new_bl s)⟩
    | _ => cases h
  | _ => cases h
theorem d_ge : OpD Γ (rI0 fun i j => .bl (decide (j ≤ i))) fGe := fun {B H x y d e t Q} s rx ry h k => by
  cases rx with
  | int i => cases ry with
    | int j => cases h; exact ⟨i, j, rfl, rfl, k _ _ _ _ (new_bl s)⟩
    | _ => cases h
  | _ => cases h
mutual
theorem Rp.dp (e : Sub B H) : ∀ {n : Nat} {v : V} {d : D}, Rp Γ B v d → D.flat n d = true → Dp Γ.K H v d.py
  | _, _, _, .non, _ => .non
  | _, _, _, .bl b, _ => .bl b
  | _, _, _, .int b, _ => .int b
  | _, _, _, .str b, _ => .str b
  | n + 1, _, _, .tup h r, f => .tup (SqT.of (e _ _ h)) (RpL.dp e r f)
  | n + 1, _, _, .lst h r, f => .lst (SqL.of (e _ _ h)) (RpL.dp e r f)
  | 0, _, _, .tup _ _, f => nomatch f
  | 0, _, _, .lst _ _, f => nomatch f
  | 0, _, _, .rol _ _, f => nomatch f
  | n + 1, _, _, .rol _ _, f => nomatch f
  | 0, _, _, .dK _ _ _, f => nomatch f
  | n + 1, _, _, .dK _ _ _, f => nomatch f
  | 0, _, _, .dT _ _ _, f => nomatch f
  | n + 1, _, _, .dT _ _ _, f => nomatch f
  | 0, _, _, .obj _ _, f => nomatch f
  | n + 1, _, _, .obj _ _, f => nomatch f
  | 0, _, _, .exn _ _ _, f => nomatch f
  | n + 1, _, _, .exn _ _ _, f => nomatch f
theorem RpL.dp (e : Sub B H) : ∀ {n : Nat} {v : List V} {d : List D}, RpL Γ B v d → d.all (D.flat n) = true → DpAll Γ.K H v (D.pys d)
  | _, _, _, .nil, _ => .nil
  | n, _, _, .cons h r, f => by
    rw [List.all_cons, Bool.and_eq_true] at f
    exact .cons (Rp.dp e h f.1) (RpL.dp e r f.2)
end
theorem flat_ok : ∀ (n : Nat) (d : D), D.flat n d = true → d.py.canLay0 = true ∧ d.py.depth ≤ n
  | n, .non, _ => ⟨rfl, Nat.zero_le _⟩
  | n, .bl _, _ => ⟨rfl, Nat.zero_le _⟩
  | n, .int _, _ => ⟨rfl, Nat.zero_le _⟩
  | n, .str s, h => ⟨by cases n <;> exact h, Nat.zero_le _⟩
  | n + 1, .tup l, h => by
    have all : ∀ l : List D, l.all (D.flat n) = true → PyData.canLayAll0 (D.pys l) = true ∧ PyData.depthAll (D.pys l) ≤ n := by
      intro l
      induction l with
      | nil => intro _; exact ⟨rfl, Nat.zero_le _⟩
      | cons d r ih =>
        intro h
        rw [List.all_cons, Bool.and_eq_true] at h
        have h1 := flat_ok n d h.1
        have h2 := ih h.2
        refine ⟨?_, Nat.max_le.mpr ⟨h1.2, h2.2⟩⟩
        show (d.py.canLay0 && PyData.canLayAll0 (D.pys r)) = true
        rw [h1.1, h2.1]
        rfl
    have := all l h
    exact ⟨this.1, Nat.succ_le_succ this.2⟩
  | n + 1, .lst l, h => by
    have all : ∀ l : List D, l.all (D.flat n) = true → PyData.canLayAll0 (D.pys l) = true ∧ PyData.depthAll (D.pys l) ≤ n := by
      intro l
      induction l with
      | nil => intro _; exact ⟨rfl, Nat.zero_le _⟩
      | cons d r ih =>
        intro h
        rw [List.all_cons, Bool.and_eq_true] at h
        have h1 := flat_ok n d h.1
        have h2 := ih h.2
        refine ⟨?_, Nat.max_le.mpr ⟨h1.2, h2.2⟩⟩
        show (d.py.canLay0 && PyData.canLayAll0 (D.pys r)) = true
        rw [h1.1, h2.1]
        rfl
    have := all l h
    exact ⟨this.1, Nat.succ_le_succ this.2⟩
  | 0, .tup _, h => nomatch h
  | 0, .lst _, h => nomatch h
  | 0, .rol _, h => nomatch h
  | _ + 1, .rol _, h => nomatch h
  | 0, .dct _ _, h => nomatch h
  | _ + 1, .dct _ _, h => nomatch h
  | 0, .obj _ _, h => nomatch h
  | _ + 1, .obj _ _, h => nomatch h
  | 0, .exn _ _, h => nomatch h
  | _ + 1, .exn _ _, h => nomatch h
theorem flat_shaped (h : D.flat 40 d = true) : SeqAt.shaped d.py = true := by
  have := flat_ok 40 d h
  unfold SeqAt.shaped
  rw [this.1, Bool.true_and, decide_eq_true_eq]
  omega
theorem sEq_ok {x y : V} {d e : D} {c : Bool} (rx : Rp Γ B x d) (ry : Rp Γ B y e) (h : sEq d e = some c) : scal x y = true ∧ decide (x = y) = c := by
  cases rx <;> cases ry <;> first
    | (cases h; done)
    | (cases h; exact ⟨rfl, by simp⟩)
    | (cases h; exact ⟨rfl, rfl⟩)
theorem d_eq : OpD Γ (fun x y H Q => rEq x y H Q ∨ rEqD Γ.K x y H Q) fEq := fun {B H x y d e t Q} s rx ry h k => by
  unfold fEq dEq at h
  cases q : sEq d e with
  | some c =>
    rw [q] at h
    cases h
    obtain ⟨h1, h2⟩ := sEq_ok rx ry q
    exact .inl ⟨h1, by rw [h2]; exact k _ _ _ _ (new_bl s)⟩
  | none =>
    rw [q] at h
    simp only at h
    by_cases z : (D.flat 40 d && D.flat 40 e) = true
    · rw [if_pos z] at h
      cases h
      rw [Bool.and_eq_true] at z
      exact .inr ⟨_, _, rx.dp s z.1, ry.dp s z.2, flat_shaped z.1, flat_shaped z.2, k _ _ _ _ (new_bl s)⟩
    · rw [if_neg z] at h; cases h
theorem d_ne : OpD Γ (fun x y H Q => rNe x y H Q ∨ rNeD Γ.K x y H Q) fNe := fun {B H x y d e t Q} s rx ry h k => by
  unfold fNe dEq at h
  cases q : sEq d e with
  | some c =>
    rw [q] at h
    cases h
    obtain ⟨h1, h2⟩ := sEq_ok rx ry q
    exact .inl ⟨h1, by rw [h2]; exact k _ _ _ _ (new_bl s)⟩
  | none =>
    rw [q] at h
    simp only at h
    by_cases z : (D.flat 40 d && D.flat 40 e) = true
    · rw [if_pos z] at h
      cases h
      rw [Bool.and_eq_true] at z
      exact .inr ⟨_, _, rx.dp s z.1, ry.dp s z.2, flat_shaped z.1, flat_shaped z.2, k _ _ _ _ (new_bl s)⟩
    · rw [if_neg z] at h; cases h
theorem o_eq (hu : X.A.units + 64 < cLine) : OpR X (compareOp .Eq) (fun x y H Q => rEq x y H Q ∨ rEqD X.K x y H Q) := op_eq.or (op_eqD hu)
theorem o_ne (hu : X.A.units + 64 < cLine) : OpR X (compareOp .NotEq) (fun x y H Q => rNe x y H Q ∨ rNeD X.K x y H Q) := op_ne.or (op_neD hu)
theorem flat0_V {v : V} {d : D} (r : Rp Γ B v d) (h : D.flat 0 d = true) : flatV v = true := by
  cases r <;> first | rfl | cases h
theorem flat0_eq {v w : V} {d e : D} (r : Rp Γ B v d) (h : D.flat 0 d = true) (r' : Rp Γ B w e) (h' : D.flat 0 e = true) : eqV v w = PyData.eqv d.py e.py := by
  cases r <;> first
    | (cases h; done)
    | (cases r' <;> first | (cases h'; done) | rfl)
theorem flat0_all : ∀ {vs : List V} {l : List D}, RpL Γ B vs l → l.all (D.flat 0) = true → vs.all flatV = true
  | _, _, .nil, _ => rfl
  | _, _, .cons r1 r2, h => by
    rw [List.all_cons, Bool.and_eq_true] at h
    rw [List.all_cons, flat0_V r1 h.1, flat0_all r2 h.2]
    rfl
theorem flat0_in {x : V} {d : D} (rx : Rp Γ B x d) (hx : D.flat 0 d = true) : ∀ {vs : List V} {l : List D}, RpL Γ B vs l → l.all (D.flat 0) = true → inV x vs = l.any fun z => PyData.eqv z.py d.py
  | _, _, .nil, _ => rfl
  | _, _, .cons r1 r2, h => by
    rw [List.all_cons, Bool.and_eq_true] at h
    have ih := flat0_in rx hx r2 h.2
    unfold inV at ih ⊢
    rw [List.any_cons, List.any_cons, ih, flat0_eq r1 h.1 rx hx]
theorem any_pys (l : List D) (d : PyData) : ((D.pys l).any fun z => PyData.eqv z d) = l.any fun z => PyData.eqv z.py d := by
  induction l with
  | nil => rfl
  | cons a r ih => show (PyData.eqv a.py d || (D.pys r).any _) = _; rw [ih]; rfl
theorem list_shaped {l : List D} (h : l.all (D.flat 39) = true) : SeqAt.shaped (.list (D.pys l)) = true := flat_shaped (d := .lst l) h
theorem in_ok {x y : V} {d e : D} {c : Bool} (s : Sub B H) (rx : Rp Γ B x d) (ry : Rp Γ B y e) (h : dIn d e = some c) :
    (∃ k z, x = .str ⟨#[k]⟩ ∧ y = .str z ∧ c = decide (k ∈ z.cps.toList)) ∨ (∃ p ps, Dp Γ.K H x p ∧ Dp Γ.K H y (.list ps) ∧ SeqAt.shaped p = true ∧ SeqAt.shaped (.list ps) = true ∧ c = ps.any fun z => PyData.eqv z p) ∨
      (∃ p xs, y = .ref p ∧ SqT Γ.K H p xs ∧ flatV x = true ∧ xs.all flatV = true ∧ c = inV x xs) ∨ ∃ a o, y = .ref a ∧ DGet H a x o ∧ c = o.isSome := by
  have dict : ∀ {b : Bool} {kvs : List (D × D)}, Rp Γ B y (.dct b kvs) → dIn d (.dct b kvs) = some c → ∃ a o, y = .ref a ∧ DGet H a x o ∧ c = o.isSome := by
    intro b kvs ry h
    have h : (if isKey b d then some (dFind kvs d).isSome else none) = some c := by cases d <;> exact h
    by_cases z : isKey b d = true
    · rw [if_pos z] at h
      cases h
      obtain ⟨a, rfl, q⟩ := Rp.dget s ry rx z
      rcases q with ⟨h1, h2⟩ | ⟨d', v, h1, h2, h3⟩
      · exact ⟨a, none, rfl, h2, by rw [h1]; rfl⟩
      · exact ⟨a, some v, rfl, h3, by rw [h1]; rfl⟩
    · rw [if_neg z] at h; cases h
  cases ry with
  | dK ha nd rl => exact .inr (.inr (.inr (dict (.dK ha nd rl) h)))
  | dT ha nd rl => exact .inr (.inr (.inr (dict (.dT ha nd rl) h)))
  | @tup a vs l ha rl =>
    have h : (if D.flat 0 d && l.all (D.flat 0) then some (l.any fun z => PyData.eqv z.py d.py) else none) = some c := by cases d <;> exact h
    by_cases z : (D.flat 0 d && l.all (D.flat 0)) = true
    · rw [if_pos z] at h
      cases h
      rw [Bool.and_eq_true] at z
      exact .inr (.inr (.inl ⟨a, vs, rfl, s.st (SqT.of ha), flat0_V rx z.1, flat0_all rl z.2, (flat0_in rx z.1 rl z.2).symm⟩))
    · rw [if_neg z] at h; cases h
  | @lst a vs l ha rl =>
    have h : (if D.flat 40 d && l.all (D.flat 39) then some (l.any fun z => PyData.eqv z.py d.py) else none) = some c := by cases d <;> exact h
    by_cases z : (D.flat 40 d && l.all (D.flat 39)) = true
    · rw [if_pos z] at h
      cases h
      rw [Bool.and_eq_true] at z
      exact .inr (.inl ⟨d.py, D.pys l, rx.dp s z.1, .lst (SqL.of (s _ _ ha)) (rl.dp s z.2), flat_shaped z.1, list_shaped z.2, (any_pys l d.py).symm⟩)
    · rw [if_neg z] at h; cases h
  | @rol a vs l ha rl =>
    have h : (if D.flat 40 d && l.all (D.flat 39) then some (l.any fun z => PyData.eqv z.py d.py) else none) = some c := by cases d <;> exact h
    by_cases z : (D.flat 40 d && l.all (D.flat 39)) = true
    · rw [if_pos z] at h
      cases h
      rw [Bool.and_eq_true] at z
      exact .inr (.inl ⟨d.py, D.pys l, rx.dp s z.1, .lst (s.sl ha) (rl.dp s z.2), flat_shaped z.1, list_shaped z.2, (any_pys l d.py).symm⟩)
    · rw [if_neg z] at h; cases h
  | str z => cases rx with
    | str w =>
      have h : (match w.cps.toList with
        | [c] => some (decide (c ∈ z.cps.toList))
        | _ => none) = some c := h
      obtain ⟨⟨l⟩⟩ := w
      match l, h with
      | [k], h => cases h; exact .inl ⟨k, z, rfl, rfl, rfl⟩
      | [], h => cases h
      | _ :: _ :: _, h => cases h
    | _ => cases h
  | _ => cases d <;> cases h
def rInAll (K : PySem.W.Frag) : R2 := fun x y H Q => (∃ (c : Nat) (z : Str), x = .str ⟨#[c]⟩ ∧ y = .str z ∧ Q (.bl (decide (c ∈ z.cps.toList))) H) ∨ rInD K x y H Q ∨ rIn K false x y H Q ∨ rInDct x y H Q
def rNotInAll (K : PySem.W.Frag) : R2 := fun x y H Q => (∃ (c : Nat) (z : Str), x = .str ⟨#[c]⟩ ∧ y = .str z ∧ Q (.bl (!decide (c ∈ z.cps.toList))) H) ∨ rNotInD K x y H Q ∨ rIn K true x y H Q ∨ rNotInDct x y H Q
theorem o_in (hu : X.A.units + 65 < cLine) : OpR X (compareOp .In) (rInAll X.K) := op_in_sign.or ((op_inD hu).or (op_in_seq.or (o_inDct (by omega))))
theorem o_notIn (hu : X.A.units + 65 < cLine) : OpR X (compareOp .NotIn) (rNotInAll X.K) := op_notIn_sign.or ((op_notInD hu).or (op_notIn_seq.or (o_notInDct (by omega))))
theorem d_in : OpD Γ (rInAll Γ.K) fIn := fun {B H x y d e t Q} s rx ry h k => by
  unfold fIn at h
  cases q : dIn d e with
  | none => rw [q] at h; cases h
  | some c =>
    rw [q] at h
    cases h
    rcases in_ok s rx ry q with ⟨c', z, rfl, rfl, rfl⟩ | ⟨p, ps, h1, h2, h3, h4, rfl⟩ | ⟨p, xs, rfl, h1, h2, h3, rfl⟩ | ⟨a, o, rfl, g, rfl⟩
    · exact .inl ⟨c', z, rfl, rfl, k _ _ _ _ (new_bl s)⟩
    · exact .inr (.inl ⟨p, ps, h1, h2, h3, h4, k _ _ _ _ (new_bl s)⟩)
    · exact .inr (.inr (.inl ⟨p, xs, rfl, .inr h1, h2, h3, k _ _ _ _ (new_bl s)⟩))
    · exact .inr (.inr (.inr ⟨a, o, rfl, g, k _ _ _ _ (new_bl s)⟩))
theorem d_notIn : OpD Γ (rNotInAll Γ.K) fNotIn := fun {B H x y d e t Q} s rx ry h k => by
  unfold fNotIn at h
  cases q : dIn d e with
  | none => rw [q] at h; cases h
  | some c =>
    rw [q] at h
    cases h
    rcases in_ok s rx ry q with ⟨c', z, rfl, rfl, rfl⟩ | ⟨p, ps, h1, h2, h3, h4, rfl⟩ | ⟨p, xs, rfl, h1, h2, h3, rfl⟩ | ⟨a, o, rfl, g, rfl⟩
    · exact .inl ⟨c', z, rfl, rfl, k _ _ _ _ (new_bl s)⟩
    · exact .inr (.inl ⟨p, ps, h1, h2, h3, h4, k _ _ _ _ (new_bl s)⟩)
    · exact .inr (.inr (.inl ⟨p, xs, rfl, .inr h1, h2, h3, k _ _ _ _ (new_bl s)⟩))
    · exact .inr (.inr (.inr ⟨a, o, rfl, g, k _ _ _ _ (new_bl s)⟩))
theorem atI_eq {α : Type} (xs : List α) (i : Int) : G.atI xs i = L2.atI xs i := by
  unfold G.atI L2.atI L2.ixN
  by_cases h : 0 ≤ i
  · rw [if_pos h, if_pos h]
    by_cases h2 : i < xs.length
    · rw [if_pos h2]; rfl
    · rw [if_neg h2]
      exact List.getElem?_eq_none (by omega)
  · rw [if_neg h, if_neg h]
    by_cases h2 : -(xs.length : Int) ≤ i
    · rw [if_pos h2, if_pos (by omega)]; rfl
    · rw [if_neg h2, if_neg (by omega)]; rfl
theorem RpL.at {vs : List V} {l : List D} {i : Int} {d : D} (r : RpL Γ B vs l) (h : G.atI l i = some d) : ∃ v, L2.atI vs i = some v ∧ Rp Γ B v d := by
  rw [← atI_eq]
  unfold G.atI at h ⊢
  rw [r.len]
  split at h
  · rename_i z
    rw [if_pos z]
    exact r.get h
  · rename_i z
    rw [if_neg z]
    split at h
    · rename_i y
      rw [if_pos y]
      exact r.get h
    · cases h
theorem ix_key {l : List D} {i : Int} {t : T} (h : (G.atI l i).map T.imm = some t) : ∃ d, G.atI l i = some d ∧ t = .imm d := by
  cases q : G.atI l i with
  | none => rw [q] at h; cases h
  | some d => rw [q] at h; cases h; exact ⟨d, rfl, rfl⟩
def rIxA (K : PySem.W.Frag) : R2 := fun x y H Q => rIx K x y H Q ∨ rIxD x y H Q
theorem ix_any (hu : X.A.units + 65 < cLine) : IxR X (rIxA X.K) := ix_seq.or (ix_dict (by omega))
theorem d_ixA : OpD Γ (rIxA Γ.K) fIx := fun {B H x y d e t Q} s rx ry h k => by
  have L : line = sizeLine := by decide
  have dict : ∀ {b : Bool} {kvs : List (D × D)}, Rp Γ B x (.dct b kvs) → fIx (.dct b kvs) e = some t → rIxD x y H Q := by
    intro b kvs rx h
    have h : (if isKey b e then (dFind kvs e).map T.imm else none) = some t := by cases e <;> exact h
    by_cases z : isKey b e = true
    · rw [if_pos z] at h
      obtain ⟨a, rfl, q⟩ := Rp.dget s rx ry z
      rcases q with ⟨h1, h2⟩ | ⟨d', v, h1, h2, h3⟩
      · rw [h1] at h; cases h
      · rw [h1] at h
        cases h
        exact ⟨a, v, rfl, h3, k _ _ _ _ (NewV.imm s h2)⟩
    · rw [if_neg z] at h; cases h
  cases rx with
  | dK ha nd rl => exact .inr (dict (.dK ha nd rl) h)
  | dT ha nd rl => exact .inr (dict (.dT ha nd rl) h)
  | @lst a vs l ha rl => cases ry with
    | int i =>
      obtain ⟨d, hd, rfl⟩ := ix_key h
      obtain ⟨v, hv, rv⟩ := rl.at hd
      exact .inl <| .inl ⟨a, vs, i, v, rfl, rfl, SqL.of (s _ _ ha), hv, k _ _ _ _ (NewV.imm s rv)⟩
    | _ => cases h
  | @rol a vs l ha rl => cases ry with
    | int i =>
      obtain ⟨d, hd, rfl⟩ := ix_key h
      obtain ⟨v, hv, rv⟩ := rl.at hd
      exact .inl <| .inl ⟨a, vs, i, v, rfl, rfl, s.sl ha, hv, k _ _ _ _ (NewV.imm s rv)⟩
    | _ => cases h
  | @tup a vs l ha rl => cases ry with
    | int i =>
      obtain ⟨d, hd, rfl⟩ := ix_key h
      obtain ⟨v, hv, rv⟩ := rl.at hd
      exact .inl <| .inr (.inl ⟨a, vs, i, v, rfl, rfl, s.st (SqT.of ha), hv, k _ _ _ _ (NewV.imm s rv)⟩)
    | _ => cases h
  | str z => cases ry with
    | int i =>
      have h : (if z.length ≤ line then (G.atI z.cps.toList i).map fun c => T.imm (.str ⟨#[c]⟩) else none) = some t := h
      by_cases y : z.length ≤ line
      · rw [if_pos y] at h
        cases q : G.atI z.cps.toList i with
        | none => rw [q] at h; cases h
        | some c =>
          rw [q] at h
          cases h
          exact .inl <| .inr (.inr ⟨z, i, c, rfl, rfl, L ▸ y, by rw [← atI_eq]; exact q, k _ _ _ _ (new_str s)⟩)
      · rw [if_neg y] at h; cases h
    | _ => cases h
  | _ => cases h
theorem cut_eq (n d : Nat) (o : Option Int) : cutAt n d o = HT.sIx n d o := by
  cases o with
  | none => rfl
  | some v => rfl
theorem RpL.cut {vs : List V} {l : List D} (r : RpL Γ B vs l) (lo hi : Option Int) : RpL Γ B (cutV vs lo hi) (cutL l lo hi) := by
  unfold cutV cutL
  rw [cut_eq, cut_eq, r.len]
  exact (r.drop _).take _
def rSlAll (K : PySem.W.Frag) : V → Option Int → Option Int → Hp → VK → Prop := fun x lo hi H Q => rSlL K x lo hi H Q ∨ rSlT K x lo hi H Q ∨ rSlS x lo hi H Q
theorem sl_all : SlR X (rSlAll X.K) := sl_list.or (sl_tup.or sl_str)
theorem d_slice {B H : Hp} {x : V} {d : D} {lo hi : Option Int} {t : T} {Q : VK} (s : Sub B H) (rx : Rp Γ B x d) (h : fSlice d lo hi = some t) (k : ∀ v H' B' G, NewV Γ B H t v H' B' G → Q v H') : rSlAll Γ.K x lo hi H Q := by
  have L : line = sizeLine := by decide
  cases rx with
  | @lst a vs l ha rl => cases h; exact .inl ⟨a, vs, rfl, SqL.of (s _ _ ha), fun p hp => k _ _ _ _ (new_lst s hp (rl.cut lo hi))⟩
  | @rol a vs l ha rl => cases h; exact .inl ⟨a, vs, rfl, s.sl ha, fun p hp => k _ _ _ _ (new_lst s hp (rl.cut lo hi))⟩
  | @tup a vs l ha rl =>
    have h : (if cutAt l.length 0 lo = 0 ∧ cutAt l.length l.length hi = l.length then none else some (T.imm (.tup (cutL l lo hi)))) = some t := h
    by_cases z : cutAt l.length 0 lo = 0 ∧ cutAt l.length l.length hi = l.length
    · rw [if_pos z] at h; cases h
    · rw [if_neg z] at h
      cases h
      rw [cut_eq, cut_eq, ← rl.len] at z
      exact .inr (.inl ⟨a, vs, rfl, s.st (SqT.of ha), z, fun p hp => k _ _ _ _ (NewV.obj s hp (.tup upd_same ((rl.cut lo hi).mono Γ (Sub.new (s.none hp)))))⟩)
  | str z =>
    have h : (if z.length ≤ line then some (T.imm (.str ⟨(cutL z.cps.toList lo hi).toArray⟩)) else none) = some t := h
    by_cases y : z.length ≤ line
    · rw [if_pos y] at h
      cases h
      refine .inr (.inr ⟨z, rfl, L ▸ y, ?_⟩)
      have e : cutS z lo hi = ⟨(cutL z.cps.toList lo hi).toArray⟩ := by
        unfold cutS cutL
        rw [cut_eq, cut_eq]
        rfl
      rw [e]
      exact k _ _ _ _ (new_str s)
    · rw [if_neg y] at h; cases h
  | _ => cases h
section
variable {W : L2.WX} {a b : Expr} {lo hi : Option Expr} {ma mb : Sm T} {ml mh : So} {p2 pos : Pos} {σ : L2.St}
variable (Γ) in
def tOm (W : L2.WX) (m : So) : TO := fun σ H Q => ∃ B st F, Stt Γ B H σ st F ∧ RunP (m st) (fun o st' => ∀ H' B' F', PostS Γ B H F σ st' H' B' F' → Q o H') (OutX Γ W B H F σ)
theorem PO.weak {t t' : TO} (h : PO X lo t) (k : ∀ σ H Q, t' σ H Q → t σ H Q) : PO X lo t' := ⟨fun pins s σ H Q I q => h.run pins s σ H Q I (k σ H Q q)⟩
theorem go_none : PO X none (tOm Γ W oNone) := PO.weak po_none fun σ H Q h => by
  obtain ⟨B, st, F, S, h⟩ := h
  exact h H B F (PostS.refl S)
theorem go_some (h : PE X a (tSm Γ W ma)) : PO X (some a) (tOm Γ W (oSome ma)) := PO.weak (po_some h) fun σ H Q h => by
  obtain ⟨B, st, F, S, h⟩ := h
  unfold oSome Sm.bind at h
  rw [run_bind] at h
  refine ⟨B, st, F, S, h.mono (fun t st1 q v H1 B1 G1 F1 p => ?_) fun _ _ q => q⟩
  obtain ⟨B2, r, p'⟩ := p.frz
  cases e : t.toD with
  | int i =>
    rw [e] at q r
    cases r
    exact ⟨i, rfl, q H1 B2 F1 p'⟩
  | _ => rw [e] at q; exact q.elim
theorem ge_slice (hK : X.K = Γ.K) (ha : PE X a (tSm Γ W ma)) (hl : PO X lo (tOm Γ W ml)) (hh : PO X hi (tOm Γ W mh)) : PE X (.Subscript a (.Slice lo hi none p2) pos) (tSm Γ W (sSlice ma ml mh)) :=
  PE.weak (pe_slice sl_all ha hl hh) fun σ H Q h => by
    rw [hK]
    refine e_then (k := fun d => Sm.bind ml fun l => Sm.bind mh fun h => Sm.ofO (fSlice d l h)) (K := WantV (Γ := Γ) Q σ) rfl (fun p => WantV.after p) h fun x d B1 H1 st1 F1 rx S1 h1 => ?_
    unfold Sm.bind at h1
    rw [run_bind] at h1
    refine ⟨B1, st1, F1, S1, h1.mono (fun o st2 q H2 B2 F2 p2 => ?_) fun _ _ q => q⟩
    rw [run_bind] at q
    refine ⟨B2, st2, F2, p2.s, q.mono (fun o2 st3 q H3 B3 F3 p3 => ?_) fun _ _ => OutX.after p2⟩
    obtain ⟨t, ht, q⟩ := run_ofO q
    exact d_slice p3.s.ex (rx.mono Γ (p2.u.b.trans p3.u.b)) ht fun v H' B' G n => q v H' B' G F3 (n.post (p2.trans p3))
end
theorem CallR.or {f : Value} {r r' : List V → Hp → VK → Prop} (h : CallR X f r) (h' : CallR X f r') : CallR X f (fun xs H Q => r xs H Q ∨ r' xs H Q) := fun pins s σ H xs us Q I rs q =>
  q.elim (h pins s σ H xs us Q I rs) (h' pins s σ H xs us Q I rs)
theorem call_lenAny : CallR X (.builtin "len") (fun xs H Q => ∃ a kvs, xs = [V.ref a] ∧ Rd H a (.dK kvs) ∧ Q (.int kvs.length) H) := by
  intro pins s σ H xs us Q I r h
  obtain ⟨a, kvs, rfl, ha, q⟩ := h
  obtain ⟨u, rfl, ru⟩ := vals1 r
  cases ru
  exact d_len I ha fun t s' I' => ⟨.int kvs.length, H, I', ⟨t, rfl⟩, q⟩
def rLenAll (K : PySem.W.Frag) : List V → Hp → VK → Prop := fun xs H Q => (∃ p ys, xs = [.ref p] ∧ (SqL K H p ys ∨ SqT K H p ys) ∧ Q (.int ys.length) H) ∨ (∃ z, xs = [.str z] ∧ z.length ≤ sizeLine ∧ Q (.int z.length) H) ∨ (∃ a kvs, xs = [V.ref a] ∧ Rd H a (.dK kvs) ∧ Q (.int kvs.length) H)
theorem c_len : CallR X (.builtin "len") (rLenAll X.K) := CallR.or call_len_seq (CallR.or call_len_str call_lenAny)
theorem k_len : CallD Γ (rLenAll Γ.K) bLen := fun {B H x d t Q} s r h k => by
  have L : line = sizeLine := by decide
  match d, r, h with
  | [_], .cons r .nil, h =>
    cases r with
    | lst ha rl => cases h; exact .inl ⟨_, _, rfl, .inl (SqL.of (s _ _ ha)), by rw [rl.len]; exact k _ _ _ _ (new_int s)⟩
    | rol ha rl => cases h; exact .inl ⟨_, _, rfl, .inl (s.sl ha), by rw [rl.len]; exact k _ _ _ _ (new_int s)⟩
    | tup ha rl => cases h; exact .inl ⟨_, _, rfl, .inr (s.st (SqT.of ha)), by rw [rl.len]; exact k _ _ _ _ (new_int s)⟩
    | dK ha nd rl => cases h; exact .inr (.inr ⟨_, _, rfl, s.rd ha, by rw [rl.len]; exact k _ _ _ _ (new_int s)⟩)
    | str z =>
      have h : (if z.length ≤ line then some (T.imm (.int z.length)) else none) = some t := h
      by_cases y : z.length ≤ line
      · rw [if_pos y] at h
        cases h
        exact .inr (.inl ⟨z, rfl, L ▸ y, k _ _ _ _ (new_int s)⟩)
      · rw [if_neg y] at h; cases h
    | _ => cases h
theorem k_abs : CallD Γ (fun xs H Q => ∃ i, xs = [.int i] ∧ Q (.int (if i < 0 then -i else i)) H) bAbs := fun {B H x d t Q} s r h k => by
  match d, r, h with
  | [.int i], .cons (.int _) .nil, h => cases h; exact ⟨i, rfl, k _ _ _ _ (new_int s)⟩
theorem k_min2 : CallD Γ (fun xs H Q => ∃ i j, xs = [.int i, .int j] ∧ Q (.int (if j < i then j else i)) H) bMin2 := fun {B H x d t Q} s r h k => by
  match d, r, h with
  | [.int i, .int j], .cons (.int _) (.cons (.int _) .nil), h => cases h; exact ⟨i, j, rfl, k _ _ _ _ (new_int s)⟩
theorem k_int : CallD Γ (fun xs H Q => (∃ i, xs = [.int i] ∧ Q (.int i) H) ∨ ∃ k, xs = [.bl k] ∧ Q (.int (if k then 1 else 0)) H) bInt := fun {B H x d t Q} s r h k => by
  match d, r, h with
  | [.int i], .cons (.int _) .nil, h => cases h; exact .inl ⟨i, rfl, k _ _ _ _ (new_int s)⟩
  | [.bl i], .cons (.bl _) .nil, h => cases h; exact .inr ⟨i, rfl, k _ _ _ _ (new_int s)⟩
theorem k_str : CallD Γ (fun xs H Q => ∃ i, xs = [.int i] ∧ i.natAbs.log2 < 1920 ∧ Q (.str (toString i)) H) bStr := fun {B H x d t Q} s r h k => by
  match d, r, h with
  | [.int i], .cons (.int _) .nil, h =>
    have h : (if bits i < 1920 then some (T.imm (.str (toString i))) else none) = some t := h
    by_cases y : bits i < 1920
    · rw [if_pos y] at h
      cases h
      exact ⟨i, rfl, y, k _ _ _ _ (new_str s)⟩
    · rw [if_neg y] at h; cases h
theorem k_sum : CallD Γ (rSum Γ.K) bSum := fun {B H x d t Q} s r h k => by
  match d, r, h with
  | [.lst l], .cons (.lst ha rl) .nil, h =>
    have h : (allI l).map (fun ns => T.imm (.int ns.sum)) = some t := h
    cases q : allI l with
    | none => rw [q] at h; cases h
    | some ns =>
      rw [q] at h
      cases h
      have e := rl.allI q
      exact ⟨_, ns, rfl, SqL.of (e ▸ s _ _ ha), k _ _ _ _ (new_int s)⟩
def rListA (K : PySem.W.Frag) : List V → Hp → VK → Prop := fun xs H Q => (∃ p ys, xs = [.ref p] ∧ (SqL K H p ys ∨ SqT K H p ys) ∧ ∀ l, H l = none → Q (.ref l) (upd H l (.lst ys))) ∨
  (∃ (a : Addr) (kvs : List (Key × V)), xs = [.ref a] ∧ Rd H a (.dK kvs) ∧ ∀ p, H p = none → Q (.ref p) (upd H p (.lst (kvs.map fun kv => kV kv.1))))
theorem c_list (hc : X.calm = true) : CallR X (.type "list") (rListA X.K) := CallR.or call_list_of (call_listD hc)
theorem RpK.keysL : ∀ {vs : List (Key × V)} {l : List (D × D)}, RpK Γ B vs l → RpL Γ B (vs.map fun kv => kV kv.1) (l.map (·.1))
  | _, _, .nil => .nil
  | _, _, @RpK.cons _ _ k v d vs l r rs => by
    have rk : Rp Γ B (kV k) (keyD k) := by cases k <;> constructor
    exact .cons rk (RpK.keysL rs)
theorem k_list : CallD Γ (rListA Γ.K) bList := fun {B H x d t Q} s r h k => by
  match d, r, h with
  | [_], .cons r .nil, h =>
    cases r with
    | lst ha rl => cases h; exact .inl ⟨_, _, rfl, .inl (SqL.of (s _ _ ha)), fun p hp => k _ _ _ _ (new_lst s hp rl)⟩
    | rol ha rl => cases h; exact .inl ⟨_, _, rfl, .inl (s.sl ha), fun p hp => k _ _ _ _ (new_lst s hp rl)⟩
    | tup ha rl => cases h; exact .inl ⟨_, _, rfl, .inr (s.st (SqT.of ha)), fun p hp => k _ _ _ _ (new_lst s hp rl)⟩
    | dK ha nd rl => cases h; exact .inr ⟨_, _, rfl, s.rd ha, fun p hp => k _ _ _ _ (new_lst s hp rl.keysL)⟩
    | _ => cases h
  | e :: _ :: _, r, h => rcases e with _ | _ | _ | _ | _ | _ | ⟨b, _⟩ | _ | _ <;> (try cases b) <;> cases h
theorem k_tuple : CallD Γ (fun xs H Q => ∃ p ys, xs = [.ref p] ∧ ((SqL Γ.K H p ys ∧ ∀ l, H l = none → Q (.ref l) (upd H l (.tup ys))) ∨ (SqT Γ.K H p ys ∧ Q (.ref p) H))) bTuple := fun {B H x d t Q} s r h k => by
  match d, r, h with
  | [_], .cons r .nil, h =>
    cases r with
    | lst ha rl => cases h; exact ⟨_, _, rfl, .inl ⟨SqL.of (s _ _ ha), fun p hp => k _ _ _ _ (NewV.obj s hp (.tup upd_same (rl.mono Γ (Sub.new (s.none hp)))))⟩⟩
    | tup ha rl => cases h; exact ⟨_, _, rfl, .inr ⟨s.st (SqT.of ha), k _ _ _ _ (NewV.imm s (.tup ha rl))⟩⟩
    | _ => cases h
  | e :: _ :: _, r, h => cases e <;> cases h
def Ki.nm : Ki → String
  | .int => "int" | .bl => "bool" | .str => "str" | .tup => "tuple" | .lst => "list"
theorem d_isi {n : Ki} : UnD Γ (fun x H Q => rIsi Γ.K [x, .ty n.nm] H Q) (fIsi n) := fun {B H x d t Q} s r h k => by
  have go : ∀ {a : String} {b : Bool}, TyX Γ.K H x (.type a) → kitB a n.nm = some b → Q (.bl b) H → rIsi Γ.K [x, .ty n.nm] H Q := fun ty h q => ⟨x, .ty n.nm, _, _, _, rfl, .ty _, ty, kit_ty h, q⟩
  cases r with
  | non => cases h; exact go (.base .non) (by cases n <;> decide +kernel) (k _ _ _ _ (new_bl s))
  | bl b => cases h; exact go (.base (.bl b)) (by cases n <;> decide +kernel) (k _ _ _ _ (new_bl s))
  | int b => cases h; exact go (.base (.int b)) (by cases n <;> decide +kernel) (k _ _ _ _ (new_bl s))
  | str b => cases h; exact go (.base (.str b)) (by cases n <;> decide +kernel) (k _ _ _ _ (new_bl s))
  | @tup a vs l ha rl =>
    cases h
    refine go (a := "tuple") ?_ (by cases n <;> decide +kernel) (k _ _ _ _ (new_bl s))
    rcases s.st (SqT.of ha) with (h | ⟨o, h⟩) | ⟨o, its, m, h1, h2, _⟩
    · exact .base (.tup h)
    · exact .fTuple h
    · exact .kTuple h1 h2
  | @lst a vs l ha rl => cases h; exact go (.base (.lst (s _ _ ha))) (by cases n <;> decide +kernel) (k _ _ _ _ (new_bl s))
  | _ => cases h
section
variable {W : L2.WX} {a : Expr} {ma mb : Sm T} {p p2 p3 pos pos2 : Pos}
theorem ge_isi (n : Ki) {c : Str} (hK : X.K = Γ.K) (ha : PE X a (tSm Γ W ma)) (hg : Gl X "isinstance") (hm : X.mg "isinstance" = none) (hg2 : Gl X c) (hm2 : X.mg c = none) (hv2 : bootBuiltins c = some (.type n.nm)) (hn : c ≠ "__name__" := by decide) (hd : (c == ("__debug__" : Str)) = false := by decide)
    (hs : starEach [a, .Name c p2] X.env = (false, eval a X.env) :: starEach [.Name c p2] X.env := by rfl) (hs2 : starEach [.Name c p2] X.env = (false, eval (.Name c p2) X.env) :: starEach [] X.env := by rfl) (hpl : (backTo pos (starEach [.Name c p2] X.env)).any (·.1) = false := by rfl) :
    PE X (.Call (.Name "isinstance" p) [a, .Name c p2] [] pos) (tSm Γ W (sUn (fIsi n) ma)) :=
  PE.weak (pe_callB call_isi hg hm (by decide +kernel) (pa_cons ha (pa_cons (pe_bltn (v := .ty n.nm) hg2 hm2 hv2 rfl hn hd) pa_nil hs2) hs) (by decide) (by decide) hs hpl) fun σ H Q h => by
    rw [hK]
    exact e_un d_isi h
theorem ge_listRev (hK : X.K = Γ.K) (hc : X.calm = true) (hg : Gl X "list") (hm : X.mg "list" = none) (hg2 : Gl X "reversed") (hm2 : X.mg "reversed" = none) (ha : PE X a (tSm Γ W ma))
    (hs : starEach [a] X.env = (false, eval a X.env) :: starEach [] X.env := by rfl)
    (hs2 : starEach [.Call (.Name "reversed" p2) [a] [] pos2] X.env = (false, eval (.Call (.Name "reversed" p2) [a] [] pos2) X.env) :: starEach [] X.env := by rfl) :
    PE X (.Call (.Name "list" p) [.Call (.Name "reversed" p2) [a] [] pos2] [] pos) (tSm Γ W (sUn fRev ma)) := PE.weak (GT.pe_listRevA hc hg hm hg2 hm2 ha hs hs2) fun σ H Q h => by
  rw [hK]
  refine e_un (r := fun v H1 Q => ∃ (a : Addr) (xs : List V), v = .ref a ∧ (SqL Γ.K H1 a xs ∨ SqT Γ.K H1 a xs) ∧ ∀ q, H1 q = none → Q (.ref q) (upd H1 q (.lst xs.reverse))) (fun {B H x d t Q} s r h k => ?_) h
  cases r with
  | @lst a vs l ha rl => cases h; exact ⟨a, vs, rfl, .inl (SqL.of (s _ _ ha)), fun p hp => k _ _ _ _ (new_lst s hp rl.rev)⟩
  | @tup a vs l ha rl => cases h; exact ⟨a, vs, rfl, .inr (s.st (SqT.of ha)), fun p hp => k _ _ _ _ (new_lst s hp rl.rev)⟩
  | @rol a vs l ha rl => cases h; exact ⟨a, vs, rfl, .inl (s.sl ha), fun p hp => k _ _ _ _ (new_lst s hp rl.rev)⟩
  | _ => cases h
variable (Γ) in
def St1D (r : V → List V → Hp → VK → Prop) (f : Str → D → Option T) : Prop := ∀ {B H : Hp} {s : Str} {y : V} {e : D} {t : T} {Q : VK}, Sub B H → Rp Γ B y e → f s e = some t → (∀ v H' B' G, NewV Γ B H t v H' B' G → Q v H') → r (.str s) [y] H Q
theorem ge_str1 {o : Expr} {apos : Pos} {id : String} {name : Str} {r : V → List V → Hp → VK → Prop} {f : Str → D → Option T} (slot : Slot "str" name id) (ty : typeOf (.builtin id) = pure (.type "method_descriptor")) (rule : MtR X id r) (hd : St1D Γ r f) (ho : PE X o (tSm Γ W ma)) (he : PE X a (tSm Γ W mb)) (hs : starEach [a] X.env = [(false, eval a X.env)] := by rfl) (hbase : attributeBase o name X.env (eval o X.env) = eval o X.env := by rfl) (hline : (apos.endLine == pos.line) = true := by rfl) :
    PE X (.Call (.Attribute o name apos) [a] [] pos) (tSm Γ W (sStr1 f ma mb)) := PE.weak (pe_m1 slot ty rule ho he hs hbase hline) fun σ H Q h => by
  refine e_then (k := fun d => match d with
    | .str s => Sm.bind mb fun y => Sm.ofO (f s y.toD)
    | _ => fun _ => .no) (K := WantV (Γ := Γ) Q σ) rfl (fun p => WantV.after p) h fun x d B1 H1 st1 F1 rx S1 h1 => ?_
  cases rx with
  | str s =>
    refine ⟨⟨s, rfl⟩, e_then (k := fun e => Sm.ofO (f s e)) (K := WantV (Γ := Γ) Q _) rfl (fun p => WantV.after p) ⟨B1, st1, F1, S1, h1⟩ fun y e B2 H2 st2 F2 ry S2 h2 => ?_⟩
    obtain ⟨t, ht, q⟩ := run_ofO h2
    exact hd S2.ex ry ht fun v H' B' G n => q v H' B' G F2 (n.post (PostS.refl S2))
  | _ => exact h1.elim
theorem s_join : St1D Γ (fun x xs H Q => ∃ a p, ∃ ys : List Str, x = .str a ∧ xs = [.ref p] ∧ (SqL Γ.K H p (ys.map V.str) ∨ SqT Γ.K H p (ys.map V.str)) ∧ (ys.map (·.length)).sum + ys.length * a.length ≤ 16777216 ∧ Q (.str (Txt.join a ys)) H) fJoin := fun {B H a y e t Q} s ry h k => by
  cases ry with
  | @lst p vs l hp rl =>
    have h : (match allS l with
      | some ys => if (ys.map (·.length)).sum + ys.length * a.length ≤ line then some1 (.str (Txt.join a ys)) else none
      | none => none) = some t := h
    cases q : allS l with
    | none => rw [q] at h; cases h
    | some ys =>
      rw [q] at h
      simp only at h
      by_cases z : (ys.map (·.length)).sum + ys.length * a.length ≤ line
      · rw [if_pos z] at h
        cases h
        have e := rl.allS q
        exact ⟨a, p, ys, rfl, rfl, .inl (SqL.of (e ▸ s _ _ hp)), z, k _ _ _ _ (new_str s)⟩
      · rw [if_neg z] at h; cases h
  | _ => cases h
theorem m_join (hK : X.K = Γ.K) : MtR X "str.join" (fun x xs H Q => ∃ a p, ∃ ys : List Str, x = .str a ∧ xs = [.ref p] ∧ (SqL Γ.K H p (ys.map V.str) ∨ SqT Γ.K H p (ys.map V.str)) ∧ (ys.map (·.length)).sum + ys.length * a.length ≤ 16777216 ∧ Q (.str (Txt.join a ys)) H) := by
  rw [← hK]
  exact mt_join
end
end
end G
set_option Elab.async false
set_option linter.all false
set_option maxRecDepth 100000
namespace G
open PySem PySem.Spec PyProof.Rows L2
end G
set_option Elab.async false
set_option linter.all false
set_option maxRecDepth 100000
namespace G
open PySem PySem.Spec PyProof.Rows L2
section
variable {Γ : Wh} {X : Cx} {B H : Hp} {σ : L2.St} {W : L2.WX}
theorem hu65 {k : Nat} {A : Around} (hr : Room k A) : A.units + 65 < cLine := by have := hr.un; omega
theorem i_add : IpD Γ (ipI fun i j => i + j) fAddI := fun {B H x y d e t Q} s rx ry h k => by
  cases rx with
  | int i => cases ry with
    | int j => cases h; exact ⟨i, j, rfl, rfl, k _ _ _ _ (new_int s)⟩
    | _ => cases h
  | _ => cases h
theorem cx_no {P : Program} {w : World} {H : Hp} {s : Shared} {e : Value} {s' : Shared} (h : L2.CX P w [] H s (fun _ _ _ => False) e s') : False := by
  obtain ⟨_, _, _, _, _, _, _, _, _, _, _, _, z⟩ := h
  exact z.elim
/-- the script as data -/
def script (ns : List Int) : D := .rol (ns.map D.int)
theorem RpL.ofInts : ∀ ns : List Int, RpL Γ B (ns.map V.int) (ns.map D.int)
  | [] => .nil
  | n :: ns => .cons (.int n) (RpL.ofInts ns)
/-- what is wanted of the law's own combinators -/
def True' (f : Fn) (ns : List Int) : Prop := ∃ ps, f [.imm (script ns)] = .ret (.imm (.bl true)) ps
theorem sp_end {K : PySem.W.Frag} {cl xc : Nat → Addr} {f : Fn} {a : Addr} {ns : List Int} (hl : ns.length ≤ 63) (hb : ∀ z ∈ ns, Builtin.Int.intBits z ≤ 1048576) (hS : SqL K H a (ns.map V.int)) (h : True' f ns) :
    spOf ⟨K, cl, xc⟩ f [.ref a] H (fun v _ => v = .bl true) fun _ _ _ => False := by
  obtain ⟨ps, h⟩ := h
  have o : Ow ⟨K, cl, xc⟩ H H (.ref a) (.imm (script ns)) [] := .imm (.rol hS (RpL.ofInts ns))
  refine ⟨H, [.imm (script ns)], [], ⟨Sub.refl H, ?_, .nil, fun _ m => nomatch m⟩, ?_⟩
  · have := Sl.cons o (Sl.nil (Γ := ⟨K, cl, xc⟩) (B := H) (H := H))
    simpa using this
  · rw [h]
    intro v H' B' G F' p
    cases p.o with
    | imm r => cases r; rfl
/-- a op b op' c -/
theorem e_chain {r r' : R2} {f g : D → D → Option T} {ma mb mc : Sm T} (hd : OpD Γ r f) (hd' : OpD Γ r' g) {Q : VK} (h : tSm Γ W (sChain f g ma mb mc) σ H Q) : tChain r r' (tSm Γ W ma) (tSm Γ W mb) (tSm Γ W mc) σ H Q := by
  obtain ⟨B, st, F, S, h⟩ := h
  unfold sChain Sm.bind at h
  rw [run_bind] at h
  refine ⟨B, st, F, S, h.mono (fun t1 st1 q v1 H1 B1 G1 F1 P1 => ?_) fun _ _ q => q⟩
  obtain ⟨B1', r1, p1⟩ := P1.frz
  rw [run_bind] at q
  refine ⟨B1', st1, F1, p1.s, q.mono (fun t2 st2 q v2 H2 B2 G2 F2 P2 => ?_) fun _ _ => OutX.after p1⟩
  obtain ⟨B2', r2, p2⟩ := P2.frz
  cases e : f t1.toD t2.toD with
  | none => rw [e] at q; exact q.elim
  | some t =>
    rw [e] at q
    cases t with
    | imm d =>
      cases d with
      | bl b =>
        refine hd p2.s.ex (r1.mono Γ p2.u.b) r2 e fun v H' B' G n => ?_
        have pv := n.post (PostS.refl p2.s)
        have ps := pv.drop
        cases pv.o with
        | imm rv =>
          cases rv
          refine ⟨b, rfl, ?_⟩
          cases b with
          | false => exact q _ _ _ _ _ (pv.after (p1.trans p2))
          | true =>
            have q : RunP ((mc st2).bind fun z => Sm.ofO (g t2.toD z.toD)) _ _ := q
            rw [run_bind] at q
            refine ⟨B', st2, F2, ps.s, q.mono (fun t3 st3 q v3 H3 B3 G3 F3 P3 => ?_) fun _ _ => OutX.after ((p1.trans p2).trans ps)⟩
            obtain ⟨B3', r3, p3⟩ := P3.frz
            obtain ⟨t, ht, q⟩ := run_ofO q
            exact hd' p3.s.ex (r2.mono Γ (ps.u.b.trans p3.u.b)) r3 ht fun v H' B' G n => q v H' B' G F3 (n.post (((p1.trans p2).trans ps).trans p3))
      | _ => exact q.elim
    | _ => exact q.elim
section
variable {a b c : Expr} {pos : Pos} {op op' : CmpOp} {r r' : R2} {f g : D → D → Option T} {ma mb mc : Sm T}
theorem ge_chain (ho : OpR X (compareOp op) r) (hd : OpD Γ r f) (ho' : OpR X (compareOp op') r') (hd' : OpD Γ r' g) (ha : PE X a (tSm Γ W ma)) (hb : PE X b (tSm Γ W mb)) (hc : PE X c (tSm Γ W mc))
    (hm : lastMarks [op, op'] [b, c] = false := by with_unfolding_all rfl) : PE X (.Compare a [op, op'] [b, c] pos) (tSm Γ W (sChain f g ma mb mc)) := PE.weak (pe_chain ho ho' ha hb hc hm) fun _ _ _ => e_chain hd hd'
end
end
end G
set_option linter.all false
namespace G
open PySem
/-- a step into a thing: a field (of an instance of one of the classes), an item -/
inductive Stp where
  | fld (cs : List Nat) (f : Str) | ix (k : D)
/-- where an index of any sign lies -/
def ixI (n : Nat) (i : Int) : Option Nat :=
  if 0 ≤ i then (if i.toNat < n then some i.toNat else none) else if 0 ≤ i + n then some (i + n).toNat else none
def fFld (cs : List Nat) (f : Str) : D → Option T
  | .obj c fs => if c ∈ cs then (fFind fs f).map T.imm else none
  | _ => none
def D.stp (d : D) : Stp → Option T
  | .fld cs f => fFld cs f d
  | .ix k => fIx d k
def T.stp : T → Stp → Option T
  | .imm d, s => d.stp s
  | .lst l, .ix (.int i) => (ixI l.length i).bind fun j => l[j]?
  | .tup l, .ix (.int i) => (ixI l.length i).bind fun j => l[j]?
  | .dct b kvs, .ix k => if isKey b k then dFind kvs k else none
  | .obj c fs, .fld cs f => if c ∈ cs then fFind fs f else none
  | _, _ => none
/-- in its place -/
def T.upd1 : T → Stp → T → Option T
  | .lst l, .ix (.int i), x => (ixI l.length i).map fun j => .lst (l.set j x)
  | .tup l, .ix (.int i), x => (ixI l.length i).map fun j => .tup (l.set j x)
  | .dct b kvs, .ix k, x => if isKey b k then some (.dct b (dPut kvs k x)) else none
  | .obj c fs, .fld cs f, x => if c ∈ cs then some (.obj c (fPut f x fs)) else none
  | _, _, _ => none
def T.get : T → List Stp → Option T
  | t, [] => some t
  | t, s :: p => (t.stp s).bind fun t' => t'.get p
def T.put : T → List Stp → T → Option T
  | _, [], x => some x
  | t, s :: p, x => (t.stp s).bind fun t' => (t'.put p x).bind fun t'' => t.upd1 s t''
abbrev Sk := Sm (List Stp)
def kNil : Sk := fun st => .ok [] st
def kFld (r : Sk) (cs : List Nat) (f : Str) : Sk := Sm.bind r fun p st => .ok (p ++ [.fld cs f]) st
def kIx (r : Sk) (m : Sm T) : Sk := Sm.bind r fun p => Sm.bind (nox m) fun t st => .ok (p ++ [.ix t.toD]) st
/-- what a place holds; as data from here on -/
def getT (t : T) (p : List Stp) : Option (T × D) := match t.get p with
  | some (.imm d) => some (t, d)
  | some s => (t.put p (.imm s.toD)).map fun t' => (t', s.toD)
  | none => none
def sGet (i : Nat) (r : Sk) : Sm T := fun st => match st[i]? with
  | some (some t) => (r (st.set i none)).bind fun p st' => match getT t p with
    | some (t', d) => .ok (.imm d) (st'.set i (some t'))
    | none => .no
  | _ => .no
/-- the thing at a place changed by f -/
def modT (t : T) (p : List Stp) (f : T → Option (T × T)) : Option (T × T) :=
  (t.get p).bind fun s => (f s).bind fun r => (t.put p r.1).map fun t' => (t', r.2)
/-- x.p.m(args) -/
def sMethP (i : Nat) (r : Sk) (f : T → List T → Option (T × T)) (a : Sa) : Sm T := fun st => match st[i]? with
  | some (some t) => (r (st.set i none)).bind fun p st1 => (nox a st1).bind fun q st2 => match modT t p (fun s => f s q.1) with
    | some (t', v) => .ok v (st2.set i (some t'))
    | none => .no
  | _ => .no
def lstM (f : List T → List T → Option (List T × T)) : T → List T → Option (T × T)
  | .lst l, ts => (f l ts).map fun r => (.lst r.1, r.2)
  | _, _ => none
/-- o[k] = v -/
def stIx : T → List T → Option (T × T)
  | .lst l, [.imm (.int i), x] => (ixI l.length i).map fun j => (.lst (l.set j x), .imm .non)
  | .dct b kvs, [.imm k, x] => if isKey b k ∧ kvs.length < line then some (.dct b (dPut kvs k x), .imm .non) else none
  | _, _ => none
/-- o.f = v -/
def stFld (cs : List Nat) (f : Str) : T → List T → Option (T × T)
  | .obj c fs, [x] => if c ∈ cs ∧ fs.length < 1000 then some (.obj c (fPut f x fs), .imm .non) else none
  | _, _ => none
/-- x.p[k] = e -/
def sStI (i : Nat) (r : Sk) (m e : Sm T) : Ss := Sm.bind e fun v st => match st[i]? with
  | some (some t) => (r (st.set i none)).bind fun p st1 => (nox m st1).bind fun k st2 => match modT t p (fun s => stIx s [.imm k.toD, v]) with
    | some (t', _) => .ok .nx (st2.set i (some t'))
    | none => .no
  | _ => .no
/-- x.p.f = e -/
def sStF (i : Nat) (r : Sk) (cs : List Nat) (f : Str) (e : Sm T) : Ss := Sm.bind e fun v st => match st[i]? with
  | some (some t) => (r (st.set i none)).bind fun p st1 => match modT t p (fun s => stFld cs f s [v]) with
    | some (t', _) => .ok .nx (st1.set i (some t'))
    | none => .no
  | _ => .no
/-- an instance, a method of its class -/
def isObj (c : Nat) (m : Str) : D → Bool
  | .obj c' fs => decide (c' = c) && (fFind fs m).isNone
  | _ => false
def T.isObj (c : Nat) (m : Str) : T → Bool
  | .imm d => G.isObj c m d
  | .obj c' fs => decide (c' = c) && (fFind fs m).isNone
  | _ => false
/-- x.m(args), x itself lent -/
def sMethL (c : Nat) (m : Str) (g : Fn) (i : Nat) (a : Sa) : Sm T := fun st => match st[i]? with
  | some (some t) => if t.isObj c m then (a (st.set i none)).bind fun q st1 => match g (t :: q.1) with
      | .no => .no
      | .ret v ps => .ok v (wb (some i :: q.2) ps st1)
      | .ex x ps => .ex x (wb (some i :: q.2) ps st1)
    else .no
  | _ => .no
/-- e.m(args) -/
def sMethV (c : Nat) (m : Str) (g : Fn) (e : Sm T) (a : Sa) : Sm T := Sm.bind e fun t st => if t.isObj c m then (a st).bind fun q st1 => match g (t :: q.1) with
    | .no => .no
    | .ret v ps => .ok v (wb (none :: q.2) ps st1)
    | .ex x ps => .ex x (wb (none :: q.2) ps st1)
  else .no
/-- C(args) -/
def sMake (c : Nat) (g : Fn) (a : Sa) : Sm T := Sm.bind a fun q st => match g (.obj c [] :: q.1) with
  | .ret (.imm .non) (some t :: ps) => .ok t (wb q.2 ps st)
  | .ex x (_ :: ps) => .ex x (wb q.2 ps st)
  | _ => .no
/-- for x in d, d a dict of one-piece keys -/
def sForD (j : Nat) (g : Pat) (body : Ss) : Ss := sFor (iDct j) g (noxS body)
def sDctK (b : Bool) : Sm T := fun st => .ok (.dct b []) st
end G
set_option Elab.async false
set_option linter.all false
set_option maxRecDepth 100000
namespace G
open PySem PySem.Spec PyProof.Rows L2
section
variable {Γ : Wh} {X : Cx}
variable {B H B' H' B1 H1 B2 H2 : Hp} {v v0 : V} {t x sub : T} {F G' F1 F2 : List Addr}
theorem ixI_eq (n : Nat) (i : Int) : ixI n i = L2.ixN n i := by
  unfold ixI L2.ixN
  by_cases h : 0 ≤ i
  · rw [if_pos h, if_pos h]
    by_cases h2 : i < n
    · rw [if_pos h2, if_pos (by omega)]
    · rw [if_neg h2, if_neg (by omega)]
  · rw [if_neg h, if_neg h]
    by_cases h2 : -(n : Int) ≤ i
    · rw [if_pos h2, if_pos (by omega)]
    · rw [if_neg h2, if_neg (by omega)]
theorem ixI_lt {n : Nat} {i : Int} {j : Nat} (h : ixI n i = some j) : j < n := by
  unfold ixI at h
  split at h
  · split at h
    · cases h; assumption
    · cases h
  · split at h
    · cases h; omega
    · cases h
theorem OwL.open : ∀ {vs : List V} {l : List T} {F : List Addr}, OwL Γ B H vs l F → ∀ {j : Nat}, j < l.length → ∃ v t F1 G' F2, vs[j]? = some v ∧ l[j]? = some t ∧ F = F1 ++ (G' ++ F2) ∧ Ow Γ B H v t G' ∧
    ∀ B' H', Sub B B' → At H H' (F1 ++ F2) → ∀ v' x Gx, Ow Γ B' H' v' x Gx → OwL Γ B' H' (vs.set j v') (l.set j x) (F1 ++ (Gx ++ F2))
  | _, _, _, .nil, j, hj => absurd hj (Nat.not_lt_zero _)
  | _, _, _, @OwL.cons _ _ _ v t vs l F F' o r, 0, _ => ⟨v, t, [], F, F', rfl, rfl, rfl, o, fun B' H' e k v' x Gx ox => (show OwL Γ B' H' (v' :: vs) (x :: l) (Gx ++ F') from .cons ox (r.at e k))⟩
  | _, _, _, @OwL.cons _ _ _ v t vs l F F' o r, j + 1, hj => by
    obtain ⟨v1, t1, F1, G1, F2, h1, h2, rfl, o1, k1⟩ := OwL.open r (j := j) (by simpa using hj)
    refine ⟨v1, t1, F ++ F1, G1, F2, by simpa using h1, by simpa using h2, by simp only [List.append_assoc], o1, fun B' H' e k v' x Gx ox => ?_⟩
    rw [List.append_assoc] at k ⊢
    exact .cons (o.at e k.l) (k1 B' H' e k.r v' x Gx ox)
/-- a pair put: in its place, or at the end -/
def pK {κ : Type} [DecidableEq κ] : List (κ × V) → κ → V → List (κ × V)
  | [], k, v => [(k, v)]
  | (k', y) :: r, k, v => if k' = k then (k', v) :: r else (k', y) :: pK r k v
theorem map_same {κ : Type} [DecidableEq κ] {k : κ} {v : V} : ∀ {r : List (κ × V)}, k ∉ r.map (·.1) → r.map (fun kv => if kv.1 = k then (kv.1, v) else kv) = r
  | [], _ => rfl
  | (k', y) :: r, h => by
    have h1 : ¬ k' = k := fun e => h (by simp [e])
    rw [List.map_cons, map_same fun m => h (List.mem_cons_of_mem _ m)]
    simp [h1]
theorem pK_eq {κ : Type} [DecidableEq κ] {k : κ} {v : V} : ∀ {r : List (κ × V)}, (r.map (·.1)).Nodup → pK r k v = putK r k v
  | [], _ => rfl
  | (k', y) :: r, h => by
    rw [List.map_cons, List.nodup_cons] at h
    by_cases e : k' = k
    · subst e
      have := map_same (v := v) h.1
      simp only [pK, putK, List.any_cons, decide_true, Bool.true_or, if_true, List.map_cons]
      rw [this]
    · have ih := pK_eq (k := k) (v := v) h.2
      show (if k' = k then _ else _) = _
      rw [if_neg e, ih]
      unfold putK
      have e2 : (((k', y) :: r).any fun kv => decide (kv.1 = k)) = (r.any fun kv => decide (kv.1 = k)) := by simp [e]
      rw [e2]
      split
      · rw [List.map_cons]; simp [e]
      · rfl
theorem nd_pK {κ : Type} [DecidableEq κ] {k : κ} {v : V} : ∀ {r : List (κ × V)}, (r.map (·.1)).Nodup → ((pK r k v).map (·.1)).Nodup ∧ ∀ k', k' ∈ (pK r k v).map (·.1) → k' = k ∨ k' ∈ r.map (·.1)
  | [], _ => ⟨by simp [pK], fun k' m => by simpa [pK] using m⟩
  | (k0, y) :: r, h => by
    rw [List.map_cons, List.nodup_cons] at h
    by_cases e : k0 = k
    · have e2 : pK ((k0, y) :: r) k v = (k0, v) :: r := if_pos e
      rw [e2]
      exact ⟨by simpa using h, fun k' m => .inr (by simpa using m)⟩
    · have ih := nd_pK (k := k) (v := v) h.2
      have e2 : pK ((k0, y) :: r) k v = (k0, y) :: pK r k v := if_neg e
      rw [e2]
      refine ⟨?_, fun k' m => ?_⟩
      · rw [List.map_cons, List.nodup_cons]
        exact ⟨fun m => (ih.2 _ m).elim e h.1, ih.1⟩
      · rcases List.mem_cons.mp m with m | m
        · exact .inr (by simp [m])
        · exact (ih.2 _ m).imp id fun m => List.mem_cons_of_mem _ m
theorem pK_self {κ : Type} [DecidableEq κ] {k : κ} {v : V} : ∀ {r : List (κ × V)}, valV r k = some v → pK r k v = r
  | [], h => nomatch h
  | (k', y) :: r, h => by
    by_cases e : k' = k
    · rw [valV_pos (p := (k', y)) e] at h
      cases h
      exact if_pos e
    · rw [valV_neg (p := (k', y)) e] at h
      show (if k' = k then _ else (k', y) :: pK r k v) = _
      rw [if_neg e, pK_self h]
theorem OwK.open (k : Key) : ∀ {vs : List (Key × V)} {l : List (D × T)} {F : List Addr}, OwK Γ B H vs l F → ∃ F1 G' F2, F = F1 ++ (G' ++ F2) ∧ (∀ t, dFind l (keyD k) = some t → ∃ v, valV vs k = some v ∧ Ow Γ B H v t G') ∧ (dFind l (keyD k) = none → valV vs k = none) ∧
    ∀ B' H', Sub B B' → At H H' (F1 ++ F2) → ∀ v' x Gx, Ow Γ B' H' v' x Gx → OwK Γ B' H' (pK vs k v') (dPut l (keyD k) x) (F1 ++ (Gx ++ F2))
  | _, _, _, .nil => ⟨[], [], [], rfl, fun _ h => (nomatch h), fun _ => rfl, fun B' H' e a v' x Gx ox => by
    have := OwK.cons (k := k) ox OwK.nil
    simpa [pK, dPut] using this⟩
  | _, _, _, @OwK.cons _ _ _ k' v t vs l F F' o r => by
    by_cases e : k' = k
    · subst e
      have ek : kEq (keyD k') (keyD k') = true := by rw [kEq_one]; exact decide_eq_true rfl
      refine ⟨[], F, F', rfl, fun t' h => ?_, fun h => ?_, fun B' H' e a v' x Gx ox => ?_⟩
      · have h : (if kEq (keyD k') (keyD k') then some t else dFind l (keyD k')) = some t' := h
        rw [ek] at h
        cases h
        exact ⟨v, valV_pos rfl, o⟩
      · have h : (if kEq (keyD k') (keyD k') then some t else dFind l (keyD k')) = none := h
        rw [ek] at h
        cases h
      · have e1 : pK ((k', v) :: vs) k' v' = (k', v') :: vs := if_pos rfl
        have e2 : dPut ((keyD k', t) :: l) (keyD k') x = (keyD k', x) :: l := if_pos ek
        rw [e1, e2]
        exact (show OwK Γ B' H' _ _ (Gx ++ F') from .cons ox (r.at e a))
    · obtain ⟨F1, G1, F2, rfl, h1, h2, k1⟩ := OwK.open k r
      have ek : kEq (keyD k') (keyD k) = false := by rw [kEq_one]; exact decide_eq_false e
      have ef : dFind ((keyD k', t) :: l) (keyD k) = dFind l (keyD k) := if_neg (by rw [ek]; exact Bool.false_ne_true)
      have ev : valV ((k', v) :: vs) k = valV vs k := valV_neg e
      refine ⟨F ++ F1, G1, F2, by simp only [List.append_assoc], by rw [ef, ev]; exact h1, by rw [ef, ev]; exact h2, fun B' H' e' a v' x Gx ox => ?_⟩
      have e1 : pK ((k', v) :: vs) k v' = (k', v) :: pK vs k v' := if_neg e
      have e2 : dPut ((keyD k', t) :: l) (keyD k) x = (keyD k', t) :: dPut l (keyD k) x := if_neg (by rw [ek]; exact Bool.false_ne_true)
      rw [e1, e2, List.append_assoc]
      rw [List.append_assoc] at a
      exact .cons (o.at e' a.l) (k1 B' H' e' a.r v' x Gx ox)
theorem OwU.open (k : List Key) : ∀ {vs : List (List Key × V)} {l : List (D × T)} {F : List Addr}, OwU Γ B H vs l F → ∃ F1 G' F2, F = F1 ++ (G' ++ F2) ∧ (∀ t, dFind l (.tup (k.map keyD)) = some t → ∃ v, valV vs k = some v ∧ Ow Γ B H v t G') ∧ (dFind l (.tup (k.map keyD)) = none → valV vs k = none) ∧
    ∀ B' H', Sub B B' → At H H' (F1 ++ F2) → ∀ v' x Gx, Ow Γ B' H' v' x Gx → OwU Γ B' H' (pK vs k v') (dPut l (.tup (k.map keyD)) x) (F1 ++ (Gx ++ F2))
  | _, _, _, .nil => ⟨[], [], [], rfl, fun _ h => (nomatch h), fun _ => rfl, fun B' H' e a v' x Gx ox => by
    have := OwU.cons (k := k) ox OwU.nil
    simpa [pK, dPut] using this⟩
  | _, _, _, @OwU.cons _ _ _ k' v t vs l F F' o r => by
    by_cases e : k' = k
    · subst e
      have ek : kEq (.tup (k'.map keyD)) (.tup (k'.map keyD)) = true := by rw [kEq_tup]; exact decide_eq_true rfl
      refine ⟨[], F, F', rfl, fun t' h => ?_, fun h => ?_, fun B' H' e a v' x Gx ox => ?_⟩
      · have h : (if kEq (.tup (k'.map keyD)) (.tup (k'.map keyD)) then some t else dFind l (.tup (k'.map keyD))) = some t' := h
        rw [ek] at h
        cases h
        exact ⟨v, valV_pos rfl, o⟩
      · have h : (if kEq (.tup (k'.map keyD)) (.tup (k'.map keyD)) then some t else dFind l (.tup (k'.map keyD))) = none := h
        rw [ek] at h
        cases h
      · have e1 : pK ((k', v) :: vs) k' v' = (k', v') :: vs := if_pos rfl
        have e2 : dPut ((.tup (k'.map keyD), t) :: l) (.tup (k'.map keyD)) x = (.tup (k'.map keyD), x) :: l := if_pos ek
        rw [e1, e2]
        exact (show OwU Γ B' H' _ _ (Gx ++ F') from .cons ox (r.at e a))
    · obtain ⟨F1, G1, F2, rfl, h1, h2, k1⟩ := OwU.open k r
      have ek : kEq (.tup (k'.map keyD)) (.tup (k.map keyD)) = false := by rw [kEq_tup]; exact decide_eq_false e
      have ef : dFind ((.tup (k'.map keyD), t) :: l) (.tup (k.map keyD)) = dFind l (.tup (k.map keyD)) := if_neg (by rw [ek]; exact Bool.false_ne_true)
      have ev : valV ((k', v) :: vs) k = valV vs k := valV_neg e
      refine ⟨F ++ F1, G1, F2, by simp only [List.append_assoc], by rw [ef, ev]; exact h1, by rw [ef, ev]; exact h2, fun B' H' e' a v' x Gx ox => ?_⟩
      have e1 : pK ((k', v) :: vs) k v' = (k', v) :: pK vs k v' := if_neg e
      have e2 : dPut ((.tup (k'.map keyD), t) :: l) (.tup (k.map keyD)) x = (.tup (k'.map keyD), t) :: dPut l (.tup (k.map keyD)) x := if_neg (by rw [ek]; exact Bool.false_ne_true)
      rw [e1, e2, List.append_assoc]
      rw [List.append_assoc] at a
      exact .cons (o.at e' a.l) (k1 B' H' e' a.r v' x Gx ox)
theorem lookup_cons_eq {f g : Str} {v : V} {r : List (Str × V)} : List.lookup f ((g, v) :: r) = if g = f then some v else List.lookup f r := by
  rw [List.lookup_cons]
  by_cases e : g = f
  · subst e; simp
  · have : (f == g) = false := by simpa using Ne.symm e
    rw [this, if_neg e]
theorem OwF.open (f : Str) : ∀ {vs : List (Str × V)} {l : List (Str × T)} {F : List Addr}, OwF Γ B H vs l F → ∃ F1 G' F2, F = F1 ++ (G' ++ F2) ∧ (∀ t, fFind l f = some t → ∃ v, vs.lookup f = some v ∧ Ow Γ B H v t G') ∧ (fFind l f = none → vs.lookup f = none) ∧
    ∀ B' H', Sub B B' → At H H' (F1 ++ F2) → ∀ v' x Gx, Ow Γ B' H' v' x Gx → OwF Γ B' H' (putF f v' vs) (fPut f x l) (F1 ++ (Gx ++ F2))
  | _, _, _, .nil => ⟨[], [], [], rfl, fun _ h => (nomatch h), fun _ => rfl, fun B' H' e a v' x Gx ox => by
    have := OwF.cons (k := f) ox OwF.nil
    simpa [putF, fPut] using this⟩
  | _, _, _, @OwF.cons _ _ _ g v t vs l F F' o r => by
    by_cases e : g = f
    · subst e
      refine ⟨[], F, F', rfl, fun t' h => ?_, fun h => ?_, fun B' H' e a v' x Gx ox => ?_⟩
      · have h : (if g = g then some t else fFind l g) = some t' := h
        rw [if_pos rfl] at h
        cases h
        exact ⟨v, by rw [lookup_cons_eq, if_pos rfl], o⟩
      · have h : (if g = g then some t else fFind l g) = none := h
        rw [if_pos rfl] at h
        cases h
      · have e1 : putF g v' ((g, v) :: vs) = (g, v') :: vs := if_pos rfl
        have e2 : fPut g x ((g, t) :: l) = (g, x) :: l := if_pos rfl
        rw [e1, e2]
        exact (show OwF Γ B' H' _ _ (Gx ++ F') from .cons ox (r.at e a))
    · obtain ⟨F1, G1, F2, rfl, h1, h2, k1⟩ := OwF.open f r
      have ef : fFind ((g, t) :: l) f = fFind l f := if_neg e
      have ev : List.lookup f ((g, v) :: vs) = vs.lookup f := by rw [lookup_cons_eq, if_neg e]
      refine ⟨F ++ F1, G1, F2, by simp only [List.append_assoc], by rw [ef, ev]; exact h1, by rw [ef, ev]; exact h2, fun B' H' e' a v' x Gx ox => ?_⟩
      have e1 : putF f v' ((g, v) :: vs) = (g, v) :: putF f v' vs := if_neg e
      have e2 : fPut f x ((g, t) :: l) = (g, t) :: fPut f x l := if_neg e
      rw [e1, e2, List.append_assoc]
      rw [List.append_assoc] at a
      exact .cons (o.at e' a.l) (k1 B' H' e' a.r v' x Gx ox)
theorem putF_self {f : Str} {v : V} : ∀ {vs : List (Str × V)}, vs.lookup f = some v → putF f v vs = vs
  | [], h => nomatch h
  | (g, y) :: r, h => by
    rw [lookup_cons_eq] at h
    by_cases e : g = f
    · rw [if_pos e] at h
      cases h
      exact if_pos e
    · rw [if_neg e] at h
      show (if g = f then _ else (g, y) :: putF f v r) = _
      rw [if_neg e, putF_self h]
theorem RpF.find (f : Str) : ∀ {vs : List (Str × V)} {l : List (Str × D)}, RpF Γ B vs l → (fFind l f = none ∧ vs.lookup f = none) ∨ ∃ d v, fFind l f = some d ∧ vs.lookup f = some v ∧ Rp Γ B v d
  | _, _, .nil => .inl ⟨rfl, rfl⟩
  | _, _, @RpF.cons _ _ g v d vs l r rs => by
    have ef : fFind ((g, d) :: l) f = if g = f then some d else fFind l f := rfl
    rw [ef, lookup_cons_eq]
    by_cases e : g = f
    · rw [if_pos e, if_pos e]; exact .inr ⟨d, v, rfl, rfl, r⟩
    · rw [if_neg e, if_neg e]; exact RpF.find f rs
theorem OwK.len : ∀ {vs : List (Key × V)} {l : List (D × T)} {F : List Addr}, OwK Γ B H vs l F → vs.length = l.length
  | _, _, _, .nil => rfl
  | _, _, _, .cons _ r => by simp [OwK.len r]
theorem OwU.len : ∀ {vs : List (List Key × V)} {l : List (D × T)} {F : List Addr}, OwU Γ B H vs l F → vs.length = l.length
  | _, _, _, .nil => rfl
  | _, _, _, .cons _ r => by simp [OwU.len r]
theorem OwF.len : ∀ {vs : List (Str × V)} {l : List (Str × T)} {F : List Addr}, OwF Γ B H vs l F → vs.length = l.length
  | _, _, _, .nil => rfl
  | _, _, _, .cons _ r => by simp [OwF.len r]
end
end G
set_option Elab.async false
set_option linter.all false
set_option maxRecDepth 100000
namespace G
open PySem PySem.Spec PyProof.Rows L2
section
variable {Γ : Wh} {X : Cx}
variable {B H B' H' B1 H1 B2 H2 : Hp} {v v0 : V} {t x sub : T} {F G' F1 F2 A : List Addr} {σ : L2.St} {st st1 st2 : G.St} {W : L2.WX} {p : List Stp}
/-- what is owned aside of the state -/
structure Aside (B H : Hp) (A F : List Addr) : Prop where
  nd : (A ++ F).Nodup
  fr : ∀ a ∈ A, B a = none
  th : ∀ a ∈ A, Cel H a
theorem Aside.dis (s : Aside B H A F) : ∀ a ∈ A, a ∉ F := (nd_app.mp s.nd).2.2
theorem Aside.over (s : Aside B H A F) (u : Upd B H F B' H' F1) (n : F1.Nodup) : Aside B' H' A F1 ∧ At H H' A :=
  ⟨⟨nd_app.mpr ⟨(nd_app.mp s.nd).1, n, u.apart s.dis s.th⟩, u.frB s.dis s.fr s.th, fun a m => (s.th a m).at (u.at s.dis) m⟩, u.at s.dis⟩
theorem Aside.post (s : Aside B H A F) (p : PostS Γ B H F σ st1 H1 B1 F1) : Aside B1 H1 A F1 ∧ At H H1 A := s.over p.u p.s.nd
variable (Γ) in
/-- v stands in the tree t (at v0, of G') by the way p: it is sub -/
def Loc (B H : Hp) (v0 : V) (t : T) (G' : List Addr) (p : List Stp) (sub : T) (v : V) : Prop :=
  (∃ d, sub = .imm d ∧ Rp Γ B v d) ∨
  ∃ G1 Gs G2, G' = G1 ++ (Gs ++ G2) ∧ Ow Γ B H v sub Gs ∧ ∀ B' H', Sub B B' → At H H' (G1 ++ G2) → ∀ x Gx, Ow Γ B' H' v x Gx → ∃ t', t.put p x = some t' ∧ Ow Γ B' H' v0 t' (G1 ++ (Gx ++ G2))
theorem mem3 {a : Addr} {G1 Gs G2 : List Addr} : a ∈ G1 ++ (Gs ++ G2) ↔ a ∈ Gs ∨ a ∈ G1 ++ G2 := by
  simp only [List.mem_append]
  constructor
  · rintro (h | h | h)
    · exact .inr (.inl h)
    · exact .inl h
    · exact .inr (.inr h)
  · rintro (h | h | h)
    · exact .inr (.inl h)
    · exact .inl h
    · exact .inr (.inr h)
theorem Loc.mono (e : Sub B B') (k : At H H' G') (l : Loc Γ B H v0 t G' p sub v) : Loc Γ B' H' v0 t G' p sub v := by
  rcases l with ⟨d, rfl, r⟩ | ⟨G1, Gs, G2, rfl, o, q⟩
  · exact .inl ⟨d, rfl, r.mono Γ e⟩
  · have k1 : At H H' Gs := fun a m => k a (mem3.mpr (.inl m))
    have k2 : At H H' (G1 ++ G2) := fun a m => k a (mem3.mpr (.inr m))
    exact .inr ⟨G1, Gs, G2, rfl, o.at e k1, fun B2 H2 e2 k3 => q B2 H2 (e.trans e2) fun a m o h => k3 a m o (k2 a m o h)⟩
theorem Loc.root (o : Ow Γ B H v0 t G') : Loc Γ B H v0 t G' [] t v0 := by
  cases o with
  | imm r => exact .inl ⟨_, rfl, r⟩
  | lst h r => exact .inr ⟨[], _, [], by simp, .lst h r, fun B' H' _ _ x Gx ox => ⟨x, rfl, by simpa using ox⟩⟩
  | dK h n r => exact .inr ⟨[], _, [], by simp, .dK h n r, fun B' H' _ _ x Gx ox => ⟨x, rfl, by simpa using ox⟩⟩
  | dT h n r => exact .inr ⟨[], _, [], by simp, .dT h n r, fun B' H' _ _ x Gx ox => ⟨x, rfl, by simpa using ox⟩⟩
  | obj h i r => exact .inr ⟨[], _, [], by simp, .obj h i r, fun B' H' _ _ x Gx ox => ⟨x, rfl, by simpa using ox⟩⟩
  | tup h r => exact .inr ⟨[], _, [], by simp, .tup h r, fun B' H' _ _ x Gx ox => ⟨x, rfl, by simpa using ox⟩⟩
theorem get_snoc (s : Stp) : ∀ (p : List Stp) (t : T), t.get (p ++ [s]) = (t.get p).bind fun u => u.stp s
  | [], t => by
    show (t.stp s).bind (fun t' => t'.get []) = t.stp s
    cases t.stp s <;> rfl
  | q :: p, t => by
    show (t.stp q).bind (fun t' => t'.get (p ++ [s])) = ((t.stp q).bind fun t' => t'.get p).bind fun u => u.stp s
    cases t.stp q with
    | none => rfl
    | some t' => exact get_snoc s p t'
theorem put_snoc (s : Stp) (x : T) : ∀ (p : List Stp) {t sub u t' : T}, t.get p = some sub → (sub.stp s).isSome = true → sub.upd1 s x = some u → t.put p u = some t' → t.put (p ++ [s]) x = some t'
  | [], t, sub, u, t', h1, h2, h3, h4 => by
    have e1 : t = sub := Option.some.inj h1
    have e2 : u = t' := Option.some.inj h4
    subst e1
    subst e2
    show (t.stp s).bind (fun t1 => (t1.put [] x).bind fun t2 => t.upd1 s t2) = some u
    cases e : t.stp s with
    | none => rw [e] at h2; cases h2
    | some t1 => exact h3
  | q :: p, t, sub, u, t', h1, h2, h3, h4 => by
    have h1 : (t.stp q).bind (fun t1 => t1.get p) = some sub := h1
    have h4 : (t.stp q).bind (fun t1 => (t1.put p u).bind fun t2 => t.upd1 q t2) = some t' := h4
    show (t.stp q).bind (fun t1 => (t1.put (p ++ [s]) x).bind fun t2 => t.upd1 q t2) = some t'
    cases e : t.stp q with
    | none => rw [e] at h1; cases h1
    | some t1 =>
      rw [e] at h1 h4
      have h1 : t1.get p = some sub := h1
      have h4 : ((t1.put p u).bind fun t2 => t.upd1 q t2) = some t' := h4
      show ((t1.put (p ++ [s]) x).bind fun t2 => t.upd1 q t2) = some t'
      cases e2 : t1.put p u with
      | none => rw [e2] at h4; cases h4
      | some t2 =>
        rw [e2] at h4
        rw [put_snoc s x p h1 h2 h3 e2]
        exact h4
/-- a field of what stands there -/
theorem Loc.fld {cs : List Nat} {f : Str} {sub' : T} (ex : Sub B H) (hg : t.get p = some sub) (l : Loc Γ B H v0 t G' p sub v) (h : sub.stp (.fld cs f) = some sub') :
    ∃ a dx c fs v', v = .ref a ∧ H a = some (.ins (Γ.cl c) dx fs) ∧ c ∈ cs ∧ fs.lookup f = some v' ∧ Loc Γ B H v0 t G' (p ++ [.fld cs f]) sub' v' := by
  have cimm : ∀ {d : D}, Rp Γ B v d → fFld cs f d = some sub' → ∃ a dx c fs v', v = .ref a ∧ H a = some (.ins (Γ.cl c) dx fs) ∧ c ∈ cs ∧ fs.lookup f = some v' ∧ Loc Γ B H v0 t G' (p ++ [.fld cs f]) sub' v' := by
    intro d r h
    cases r with
    | @obj a dx c vs l0 ha rl =>
      have h : (if c ∈ cs then (fFind l0 f).map T.imm else none) = some sub' := h
      by_cases hc : c ∈ cs
      · rw [if_pos hc] at h
        rcases rl.find f with ⟨h1, _⟩ | ⟨d, v', h1, h2, h3⟩
        · rw [h1] at h; cases h
        · rw [h1] at h
          cases h
          exact ⟨a, dx, c, vs, v', rfl, ex _ _ ha, hc, h2, .inl ⟨d, rfl, h3⟩⟩
      · rw [if_neg hc] at h; cases h
    | _ => cases h
  rcases l with ⟨d, rfl, r⟩ | ⟨G1, Gs, G2, rfl, o, q⟩
  · exact cimm r h
  · cases o with
    | imm r => exact cimm r h
    | @obj a dx c vs l0 Fo ha hd ol =>
      have h0 : (T.obj c l0).stp (.fld cs f) = some sub' := h
      have h : (if c ∈ cs then fFind l0 f else none) = some sub' := h
      by_cases hc : c ∈ cs
      · rw [if_pos hc] at h
        obtain ⟨K1, Gf, K2, rfl, e1, _, k⟩ := ol.open f
        obtain ⟨v', hv, of⟩ := e1 sub' h
        refine ⟨a, dx, c, vs, v', rfl, ha, hc, hv, .inr ⟨G1 ++ (a :: dx :: K1), Gf, K2 ++ G2, by simp, of, fun B' H' e at' x Gx ox => ?_⟩⟩
        have atK : At H H' (K1 ++ K2) := fun b m => at' b (by simp only [List.mem_append, List.mem_cons] at m ⊢; rcases m with m | m; exact .inl (.inr (.inr (.inr m))); exact .inr (.inl m))
        have at0 : At H H' (G1 ++ G2) := fun b m => at' b (by simp only [List.mem_append, List.mem_cons] at m ⊢; rcases m with m | m; exact .inl (.inl m); exact .inr (.inr m))
        have o2 := k B' H' e atK v' x Gx ox
        rw [putF_self hv] at o2
        have oo : Ow Γ B' H' (.ref a) (.obj c (fPut f x l0)) (a :: dx :: (K1 ++ (Gx ++ K2))) := .obj (at' a (by simp) _ ha) (at' dx (by simp) _ hd) o2
        obtain ⟨t', h1, h2⟩ := q B' H' e at0 _ _ oo
        refine ⟨t', put_snoc _ x p hg (by rw [h0]; rfl) (if_pos hc) h1, ?_⟩
        have : G1 ++ (a :: dx :: (K1 ++ (Gx ++ K2)) ++ G2) = G1 ++ a :: dx :: K1 ++ (Gx ++ (K2 ++ G2)) := by simp
        rw [← this]
        exact h2
      · rw [if_neg hc] at h; cases h
    | _ => cases h
theorem upd_nil : Upd B H [] B H [] := .refl
/-- an item of what stands there -/
theorem Loc.ix {y : V} {kd : D} {sub' : T} {Q : VK} (ex : Sub B H) (hg : t.get p = some sub) (l : Loc Γ B H v0 t G' p sub v) (ry : Rp Γ B y kd) (h : sub.stp (.ix kd) = some sub')
    (k : ∀ v' H' B', Upd B H [] B' H' [] → Sub B' H' → Loc Γ B' H' v0 t G' (p ++ [.ix kd]) sub' v' → Q v' H') : rIxA Γ.K v y H Q := by
  have cimm : ∀ {d : D}, Rp Γ B v d → fIx d kd = some sub' → rIxA Γ.K v y H Q := by
    intro d r h
    obtain ⟨d', rfl⟩ : ∃ d', sub' = .imm d' := by
      cases d with
      | lst l => cases kd with
        | int i => obtain ⟨d, _, e⟩ := ix_key h; exact ⟨d, e⟩
        | _ => cases h
      | tup l => cases kd with
        | int i => obtain ⟨d, _, e⟩ := ix_key h; exact ⟨d, e⟩
        | _ => cases h
      | rol l => cases kd with
        | int i => obtain ⟨d, _, e⟩ := ix_key h; exact ⟨d, e⟩
        | _ => cases h
      | str s => cases kd with
        | int i =>
          have h : (if s.length ≤ line then (G.atI s.cps.toList i).map fun c => T.imm (.str ⟨#[c]⟩) else none) = some sub' := h
          split at h
          · obtain ⟨c, _, e⟩ := Option.map_eq_some_iff.mp h
            exact ⟨_, e.symm⟩
          · cases h
        | _ => cases h
      | dct b kvs =>
        have h : (if isKey b kd then (dFind kvs kd).map T.imm else none) = some sub' := by cases kd <;> exact h
        split at h
        · obtain ⟨c, _, e⟩ := Option.map_eq_some_iff.mp h
          exact ⟨_, e.symm⟩
        · cases h
      | _ => cases kd <;> cases h
    refine d_ixA ex r ry h fun v' H' B' G1 n => k v' H' B' ?_ n.ex ?_
    · have u := n.u
      have e : G1 = [] := by cases n.o; rfl
      rw [e] at u
      exact u
    · cases n.o with
      | imm r' => exact .inl ⟨d', rfl, r'⟩
  rcases l with ⟨d, rfl, r⟩ | ⟨G1, Gs, G2, rfl, o, q⟩
  · exact cimm r h
  · cases o with
    | imm r => exact cimm r h
    | @lst a vs l Fo ha ol =>
      have h0 := h
      cases ry with
      | int i =>
        have h : (ixI l.length i).bind (fun j => l[j]?) = some sub' := h
        cases ej : ixI l.length i with
        | none => rw [ej] at h; cases h
        | some j =>
          rw [ej] at h
          have hj := ixI_lt ej
          obtain ⟨v', t', K1, Gf, K2, hv, ht, rfl, of, kk⟩ := ol.open hj
          have h : l[j]? = some sub' := h
          rw [ht] at h
          cases h
          refine .inl (.inl ⟨a, vs, i, v', rfl, rfl, SqL.of ha, ?_, k v' H B upd_nil ex (.inr ⟨G1 ++ (a :: K1), Gf, K2 ++ G2, by simp, of, fun B' H' e at' x Gx ox => ?_⟩)⟩)
          · unfold L2.atI
            rw [← ixI_eq, ol.len, ej]
            exact hv
          · have atK : At H H' (K1 ++ K2) := fun b m => at' b (by simp only [List.mem_append, List.mem_cons] at m ⊢; rcases m with m | m; exact .inl (.inr (.inr m)); exact .inr (.inl m))
            have at0 : At H H' (G1 ++ G2) := fun b m => at' b (by simp only [List.mem_append, List.mem_cons] at m ⊢; rcases m with m | m; exact .inl (.inl m); exact .inr (.inr m))
            have o2 := kk B' H' e atK v' x Gx ox
            rw [set_self hv] at o2
            have oo : Ow Γ B' H' (.ref a) (.lst (l.set j x)) (a :: (K1 ++ (Gx ++ K2))) := .lst (at' a (by simp) _ ha) o2
            obtain ⟨t', h1, h2⟩ := q B' H' e at0 _ _ oo
            refine ⟨t', put_snoc _ x p hg (by rw [h0]; rfl) ?_ h1, ?_⟩
            · show (ixI l.length i).map _ = _
              rw [ej]; rfl
            · have : G1 ++ (a :: (K1 ++ (Gx ++ K2)) ++ G2) = G1 ++ a :: K1 ++ (Gx ++ (K2 ++ G2)) := by simp
              rw [← this]
              exact h2
      | _ => cases h
    | @tup a vs l Fo ha ol =>
      have h0 := h
      cases ry with
      | int i =>
        have h : (ixI l.length i).bind (fun j => l[j]?) = some sub' := h
        cases ej : ixI l.length i with
        | none => rw [ej] at h; cases h
        | some j =>
          rw [ej] at h
          have hj := ixI_lt ej
          obtain ⟨v', t', K1, Gf, K2, hv, ht, rfl, of, kk⟩ := ol.open hj
          have h : l[j]? = some sub' := h
          rw [ht] at h
          cases h
          refine .inl (.inr (.inl ⟨a, vs, i, v', rfl, rfl, SqT.of (ex _ _ ha), ?_, k v' H B upd_nil ex (.inr ⟨G1 ++ K1, Gf, K2 ++ G2, by simp, of, fun B' H' e at' x Gx ox => ?_⟩)⟩))
          · unfold L2.atI
            rw [← ixI_eq, ol.len, ej]
            exact hv
          · have atK : At H H' (K1 ++ K2) := fun b m => at' b (by simp only [List.mem_append] at m ⊢; rcases m with m | m; exact .inl (.inr m); exact .inr (.inl m))
            have at0 : At H H' (G1 ++ G2) := fun b m => at' b (by simp only [List.mem_append] at m ⊢; rcases m with m | m; exact .inl (.inl m); exact .inr (.inr m))
            have o2 := kk B' H' e atK v' x Gx ox
            rw [set_self hv] at o2
            have oo : Ow Γ B' H' (.ref a) (.tup (l.set j x)) (K1 ++ (Gx ++ K2)) := .tup (e _ _ ha) o2
            obtain ⟨t', h1, h2⟩ := q B' H' e at0 _ _ oo
            refine ⟨t', put_snoc _ x p hg (by rw [h0]; rfl) ?_ h1, ?_⟩
            · show (ixI l.length i).map _ = _
              rw [ej]; rfl
            · have : G1 ++ (K1 ++ (Gx ++ K2) ++ G2) = G1 ++ K1 ++ (Gx ++ (K2 ++ G2)) := by simp
              rw [← this]
              exact h2
      | _ => cases h
    | @dK a vs l Fo ha nd ol =>
      have h0 := h
      have h : (if isKey false kd then dFind l kd else none) = some sub' := h
      by_cases z : isKey false kd = true
      · rw [if_pos z] at h
        obtain ⟨κ, rfl, rfl⟩ := ry.keyK z
        obtain ⟨K1, Gf, K2, rfl, e1, _, kk⟩ := ol.open κ
        obtain ⟨v', hv, of⟩ := e1 sub' h
        refine .inr ⟨a, v', rfl, .inl ⟨vs, κ, .inl ha, rfl, hv.symm⟩, k v' H B upd_nil ex (.inr ⟨G1 ++ (a :: K1), Gf, K2 ++ G2, by simp, of, fun B' H' e at' x Gx ox => ?_⟩)⟩
        have atK : At H H' (K1 ++ K2) := fun b m => at' b (by simp only [List.mem_append, List.mem_cons] at m ⊢; rcases m with m | m; exact .inl (.inr (.inr m)); exact .inr (.inl m))
        have at0 : At H H' (G1 ++ G2) := fun b m => at' b (by simp only [List.mem_append, List.mem_cons] at m ⊢; rcases m with m | m; exact .inl (.inl m); exact .inr (.inr m))
        have o2 := kk B' H' e atK v' x Gx ox
        rw [pK_self hv] at o2
        have oo : Ow Γ B' H' (.ref a) (.dct false (dPut l (keyD κ) x)) (a :: (K1 ++ (Gx ++ K2))) := .dK (at' a (by simp) _ ha) nd o2
        obtain ⟨t', h1, h2⟩ := q B' H' e at0 _ _ oo
        refine ⟨t', put_snoc _ x p hg (by rw [h0]; rfl) (if_pos z) h1, ?_⟩
        have : G1 ++ (a :: (K1 ++ (Gx ++ K2)) ++ G2) = G1 ++ a :: K1 ++ (Gx ++ (K2 ++ G2)) := by simp
        rw [← this]
        exact h2
      · rw [if_neg z] at h; cases h
    | @dT a vs l Fo ha nd ol =>
      have h0 := h
      have h : (if isKey true kd then dFind l kd else none) = some sub' := h
      by_cases z : isKey true kd = true
      · rw [if_pos z] at h
        obtain ⟨b, κ, rfl, hb, rfl⟩ := ry.keyT z
        obtain ⟨K1, Gf, K2, rfl, e1, _, kk⟩ := ol.open κ
        obtain ⟨v', hv, of⟩ := e1 sub' h
        refine .inr ⟨a, v', rfl, .inr ⟨vs, κ, b, .inl ha, rfl, ex _ _ hb, hv.symm⟩, k v' H B upd_nil ex (.inr ⟨G1 ++ (a :: K1), Gf, K2 ++ G2, by simp, of, fun B' H' e at' x Gx ox => ?_⟩)⟩
        have atK : At H H' (K1 ++ K2) := fun b m => at' b (by simp only [List.mem_append, List.mem_cons] at m ⊢; rcases m with m | m; exact .inl (.inr (.inr m)); exact .inr (.inl m))
        have at0 : At H H' (G1 ++ G2) := fun b m => at' b (by simp only [List.mem_append, List.mem_cons] at m ⊢; rcases m with m | m; exact .inl (.inl m); exact .inr (.inr m))
        have o2 := kk B' H' e atK v' x Gx ox
        rw [pK_self hv] at o2
        have oo : Ow Γ B' H' (.ref a) (.dct true (dPut l (.tup (κ.map keyD)) x)) (a :: (K1 ++ (Gx ++ K2))) := .dT (at' a (by simp) _ ha) nd o2
        obtain ⟨t', h1, h2⟩ := q B' H' e at0 _ _ oo
        refine ⟨t', put_snoc _ x p hg (by rw [h0]; rfl) (if_pos z) h1, ?_⟩
        have : G1 ++ (a :: (K1 ++ (Gx ++ K2)) ++ G2) = G1 ++ a :: K1 ++ (Gx ++ (K2 ++ G2)) := by simp
        rw [← this]
        exact h2
      · rw [if_neg z] at h; cases h
    | _ => cases h
variable (Γ) in
def tPl (W : L2.WX) (i : Nat) (r : Sk) : TE := fun σ H Q => ∃ B st F v0 t G, σ[i]? = some (some v0) ∧ Stt Γ B H σ st F ∧ Ow Γ B H v0 t G ∧ Aside B H G F ∧
  RunP (r st) (fun p st' => ∃ sub, t.get p = some sub ∧ ∀ v H' B' F', PostS Γ B H F σ st' H' B' F' → Loc Γ B' H' v0 t G p sub v → Q v H') (OutX Γ W B H F σ)
section
variable {e k : Expr} {r : Sk} {m : Sm T} {pos : Pos} {i : Nat}
theorem gp_root (i : Nat) {x : Str} (hN : X.N[i]? = some x := by rfl) (hv : Vis X.env.scope x := by first | exact Or.inl rfl | exact Or.inr (Or.inl rfl) | exact Or.inr (Or.inr rfl)) (hd : (x == ("__debug__" : Str)) = false := by decide)
    (hcd : (x == ("__classdict__" : Str)) = false := by decide) : PE X (.Name x pos) (tPl Γ W i kNil) := PE.weak (pe_var hN hv hd hcd) fun σ H Q h => by
  obtain ⟨B, st, F, v0, t, G, hi, S, o, as, h⟩ := h
  obtain ⟨sub, e, h⟩ := (show ∃ sub, t.get [] = some sub ∧ _ from h)
  cases e
  exact ⟨v0, hi, h v0 H B F (PostS.refl S) (.root o)⟩
theorem gp_fld {cs : List Nat} {f : Str} (hc : ∀ c ∈ cs, Cls X.K (Γ.cl c) ∧ NoAttr X.K (Γ.cl c) f) (h : PE X e (tPl Γ W i r)) (hb : attributeBase e f X.env (eval e X.env) = eval e X.env := by rfl) : PE X (.Attribute e f pos) (tPl Γ W i (kFld r cs f)) := PE.weak (pe_fld h hb) fun σ H Q h => by
  obtain ⟨B, st, F, v0, t, G, hi, S, o, as, h⟩ := h
  unfold kFld Sm.bind at h
  rw [run_bind] at h
  refine ⟨B, st, F, v0, t, G, hi, S, o, as, h.mono (fun p st1 q => ?_) fun _ _ q => q⟩
  obtain ⟨sub', e1, q⟩ := (show ∃ sub, t.get (p ++ [.fld cs f]) = some sub ∧ _ from q)
  rw [get_snoc] at e1
  cases e2 : t.get p with
  | none => rw [e2] at e1; cases e1
  | some sub =>
    rw [e2] at e1
    refine ⟨sub, rfl, fun v H1 B1 F1 P l => ?_⟩
    obtain ⟨a, dx, c, fs, v', rfl, ha, hcm, hl, l'⟩ := l.fld P.s.ex e2 e1
    exact ⟨a, Γ.cl c, dx, fs, v', rfl, ha, (hc c hcm).1, (hc c hcm).2, hl, q v' H1 B1 F1 P l'⟩
end
end
end G
set_option Elab.async false
set_option linter.all false
set_option maxRecDepth 100000
namespace G
open PySem PySem.Spec PyProof.Rows L2
section
variable {Γ : Wh} {X : Cx}
variable {B H B' H' B1 H1 B2 H2 : Hp} {v v0 y : V} {t t' x sub sub' res : T} {F G' F1 F2 A : List Addr} {σ : L2.St} {st st1 st2 : G.St} {W : L2.WX} {p : List Stp} {i : Nat} {fx : List Nat}
theorem Stt.back (S : Stt Γ B H σ st F) (as : Aside B H A F) (o : Ow Γ B H v0 t A) (hv : σ[i]? = some (some v0)) : ∃ F2, Stt Γ B H σ (st.set i (some t)) F2 ∧ ∀ a ∈ F2, a ∈ A ∨ a ∈ F := by
  have p : PostV Γ B H (A ++ F) σ t st v0 H B A F := ⟨S, o, as.nd, as.fr, .refl⟩
  obtain ⟨F2, q⟩ := p.put (i := i) (by rw [← S.sl.len]; exact lt_of_some hv)
  have s := q.s
  rw [set_self hv] at s
  refine ⟨F2, s, fun a m => ?_⟩
  rcases q.u.new a m with z | z
  · exact List.mem_append.mp z
  · exact ((q.s.there a m).ne z).elim
theorem Aside.less {A' : List Addr} (as : Aside B H A F) (n : A'.Nodup) (s : ∀ a ∈ A', a ∈ A) : Aside B H A' F :=
  ⟨nd_app.mpr ⟨n, (nd_app.mp as.nd).2.1, fun a m => (nd_app.mp as.nd).2.2 a (s a m)⟩, fun a m => as.fr a (s a m), fun a m => as.th a (s a m)⟩
variable (Γ) in
structure PostMT (B H : Hp) (F : List Addr) (x : V) (s : T) (r : T) (v : V) (H' B' : Hp) (F' G' : List Addr) : Prop where
  ex : Sub B' H'
  o : Ow Γ B' H' x s F'
  r : Ow Γ B' H' v r G'
  nd : (G' ++ F').Nodup
  fr : ∀ a ∈ G' ++ F', B' a = none
  u : Upd B H F B' H' (G' ++ F')
variable (Γ) in
structure MethT (r : V → List V → Hp → VK → Prop) (f : T → List T → Option (T × T)) : Prop where
  ni : ∀ d ts, f (.imm d) ts = none
  run : ∀ {B H : Hp} {x : V} {xs : List V} {sub sub' res : T} {ts : List T} {F G : List Addr} {Q : VK}, Sub B H → Ow Γ B H x sub F → OwL Γ B H xs ts G →
    (G ++ F).Nodup → (∀ b ∈ G ++ F, B b = none) → f sub ts = some (sub', res) → (∀ v H' B' F' G', PostMT Γ B H (G ++ F) x sub' res v H' B' F' G' → Q v H') → r x xs H Q
theorem Loc.meth {r : V → List V → Hp → VK → Prop} {f : T → List T → Option (T × T)} (hd : MethT Γ r f) {ts : List T} {xs : List V} {xv : V} {Q : VK} (S : Stt Γ B H σ st F) (hv : σ[i]? = some (some v0)) (l : Loc Γ B H v0 t G' p sub xv)
    (ox : OwL Γ B H xs ts A) (as : Aside B H (A ++ G') F) (hf : f sub ts = some (sub', res)) (hp : t.put p sub' = some t')
    (q : ∀ v H' B' K F', PostV Γ B H (A ++ (G' ++ F)) σ res (st.set i (some t')) v H' B' K F' → Q v H') : r xv xs H Q := by
  rcases l with ⟨d, rfl, _⟩ | ⟨G1, Gs, G2, rfl, o, k⟩
  · rw [hd.ni] at hf; cases hf
  · have n0 := nd_app.mp as.nd
    have n1 := nd_app.mp n0.1
    have n2 := nd_app.mp (nd_mid.mp n1.2.1)
    have inG : ∀ a ∈ Gs, a ∈ A ++ (G1 ++ (Gs ++ G2)) := fun a m => List.mem_append_right _ (mem3.mpr (.inl m))
    have inR : ∀ a ∈ G1 ++ G2, a ∈ A ++ (G1 ++ (Gs ++ G2)) := fun a m => List.mem_append_right _ (mem3.mpr (.inr m))
    refine hd.run S.ex o ox (nd_app.mpr ⟨n1.1, n2.1, fun a m z => n1.2.2 a m (mem3.mpr (.inl z))⟩) (fun b m => ?_) hf fun v H1 B1 F1 Gr P => ?_
    · rcases List.mem_append.mp m with m | m
      · exact as.fr b (List.mem_append_left _ m)
      · exact as.fr b (inG b m)
    · have disR : ∀ a ∈ G1 ++ G2, a ∉ A ++ Gs := fun a m z => by
        rcases List.mem_append.mp z with z | z
        · exact n1.2.2 a z (mem3.mpr (.inr m))
        · exact n2.2.2 a z m
      have disF : ∀ a ∈ F, a ∉ A ++ Gs := fun a m z => by
        rcases List.mem_append.mp z with z | z
        · exact n0.2.2 a (List.mem_append_left _ z) m
        · exact n0.2.2 a (inG a z) m
      have thR : ∀ a ∈ G1 ++ G2, Cel H a := fun a m => as.th a (inR a m)
      have apR := P.u.apart disR thR
      have apF := P.u.apart disF S.there
      have frR := P.u.frB disR (fun a m => as.fr a (inR a m)) thR
      obtain ⟨t2, h1, h2⟩ := k B1 H1 P.u.b (P.u.at disR) sub' F1 P.o
      rw [hp] at h1
      cases h1
      have nP := nd_app.mp P.nd
      have S2 : Stt Γ B1 H1 σ st F := ⟨P.ex, S.sl.at P.u.b (P.u.at disF), S.nd, P.u.frB disF S.fr S.there⟩
      have nT : (G1 ++ (F1 ++ G2)).Nodup := nd_mid.mpr (nd_app.mpr ⟨nP.2.1, n2.2.1, fun a m z => apR a z (List.mem_append_right _ m)⟩)
      have as2 : Aside B1 H1 (G1 ++ (F1 ++ G2)) F := ⟨nd_app.mpr ⟨nT, S.nd, fun a m z => (mem3.mp m).elim (fun m => apF a z (List.mem_append_right _ m)) fun m => n0.2.2 a (inR a m) z⟩, fun a m => (mem3.mp m).elim (fun m => P.fr a (List.mem_append_right _ m)) (frR a), h2.there⟩
      obtain ⟨F2, S3, f2⟩ := S2.back as2 h2 hv
      refine q v H1 B1 Gr F2 ⟨S3, P.r, nd_app.mpr ⟨nP.1, S3.nd, fun a m z => ?_⟩, fun a m => P.fr a (List.mem_append_left _ m), ?_⟩
      · rcases f2 a z with z | z
        · rcases mem3.mp z with z | z
          · exact nP.2.2 a m z
          · exact apR a z (List.mem_append_left _ m)
        · exact apF a z (List.mem_append_left _ m)
      · refine Upd.refl.comp P.u (fun a m => ?_) fun a m => ?_
        · rcases List.mem_append.mp m with m | m
          · exact List.mem_append_left _ m
          · exact List.mem_append_right _ (List.mem_append_left _ (mem3.mpr (.inl m)))
        · rcases List.mem_append.mp m with m | m
          · exact .inl (List.mem_append_left _ m)
          · rcases f2 a m with z | z
            · rcases mem3.mp z with z | z
              · exact .inl (List.mem_append_right _ z)
              · exact .inr (List.mem_append_right _ (List.mem_append_left _ (mem3.mpr (.inr z))))
            · exact .inr (List.mem_append_right _ (List.mem_append_right _ z))
theorem modT_inv {f : T → Option (T × T)} (h : modT t p f = some (t', res)) : ∃ s s', t.get p = some s ∧ f s = some (s', res) ∧ t.put p s' = some t' := by
  unfold modT at h
  cases e1 : t.get p with
  | none => rw [e1] at h; cases h
  | some s =>
    rw [e1] at h
    have h : (f s).bind (fun r => (t.put p r.1).map fun t' => (t', r.2)) = some (t', res) := h
    cases e2 : f s with
    | none => rw [e2] at h; cases h
    | some r =>
      rw [e2] at h
      have h : (t.put p r.1).map (fun t' => (t', r.2)) = some (t', res) := h
      cases e3 : t.put p r.1 with
      | none => rw [e3] at h; cases h
      | some t2 =>
        rw [e3] at h
        cases h
        exact ⟨s, r.1, rfl, e2, e3⟩
theorem modT_none {f : T → Option (T × T)} (h : t.get p = none) : modT t p f = none := by
  unfold modT; rw [h]; rfl
def rSetA : TSet := fun o i v H Q => rSetL o i v H Q ∨ rSetD o i v H Q
theorem set_any (hu : X.A.units + 65 < cLine) : PSet X rSetA := by
  intro pins s σ H o i v ov iv u Q I ro ri rv h
  rcases h with h | h
  · exact set_list pins s σ H o i v ov iv u Q I ro ri rv h
  · exact set_dict (by omega) pins s σ H o i v ov iv u Q I ro ri rv h
theorem OwL.two {xs : List V} {a b : T} {G : List Addr} (h : OwL Γ B H xs [a, b] G) : ∃ u w G1 G2, xs = [u, w] ∧ G = G1 ++ G2 ∧ Ow Γ B H u a G1 ∧ Ow Γ B H w b G2 := by
  cases h with
  | cons o1 r =>
    cases r with
    | cons o2 r =>
      cases r
      exact ⟨_, _, _, _, rfl, by simp, o1, o2⟩
/-- a container's object put anew -/
theorem PostMT.mk' {a : Addr} {ob : HO} {s : T} {F G K : List Addr} (e : Sub B H) (ha : H a ≠ none) (m : a ∈ F) (nd : (G ++ F).Nodup) (fr : ∀ b ∈ G ++ F, B b = none) (o : Ow Γ B (upd H a ob) (.ref a) s K) (nk : K.Nodup) (sk : ∀ b ∈ K, b ∈ G ++ F) :
    PostMT Γ B H (G ++ F) (.ref a) s (.imm .non) .non (upd H a ob) B K [] :=
  ⟨sub_mut e (fr a (List.mem_append_right _ m)), o, .imm .non, by simpa using nk, fun b m => fr b (sk b (by simpa using m)), upd_mut (List.mem_append_right _ m) ha fun b m => sk b (by simpa using m)⟩
theorem mt_stIx : MethT Γ (fun o xs H Q => ∃ k v, xs = [k, v] ∧ rSetA o k v H fun H' => Q .non H') stIx where
  ni := fun d ts => by
    rcases ts with _ | ⟨a, _ | ⟨b, _ | ⟨c, r⟩⟩⟩ <;> first | rfl | (cases a <;> rfl)
  run := fun {B H x xs sub sub' res ts F G Q} e o ol nd fr hf q => by
    have L : line = sizeLine := by decide
    match sub, ts, hf, o, ol with
    | .lst l, [.imm (.int i), xt], hf, o, ol =>
      have hf : (ixI l.length i).map (fun j => (T.lst (l.set j xt), T.imm .non)) = some (sub', res) := hf
      cases ej : ixI l.length i with
      | none => rw [ej] at hf; cases hf
      | some j =>
        rw [ej] at hf
        cases hf
        have hj := ixI_lt ej
        cases o with
        | @lst a us l Fo ha ou =>
          obtain ⟨kv, w, Gk, Gw, rfl, rfl, ok, ow⟩ := ol.two
          cases ok with
          | imm rk =>
            cases rk
            obtain ⟨v', t1, K1, Gf, K2, hv, ht, rfl, of, kk⟩ := ou.open hj
            have nd : (Gw ++ (a :: (K1 ++ (Gf ++ K2)))).Nodup := nd
            have n1 := nd_app.mp nd
            have n2 := List.nodup_cons.mp n1.2.1
            have n3 := nd_app.mp (nd_mid.mp n2.2)
            have aK : a ∉ K1 ++ K2 := fun z => n2.1 (mem3.mpr (.inr z))
            have aG : a ∉ Gw := fun z => n1.2.2 a z List.mem_cons_self
            refine ⟨_, w, rfl, .inl ⟨a, us, i, j, rfl, rfl, ha, by rw [← ixI_eq, ou.len]; exact ej, ?_⟩⟩
            have o2 := kk B (upd H a (.lst (us.set j w))) (Sub.refl B) (at_mut aK) w xt Gw (ow.at (Sub.refl B) (at_mut aG))
            refine q _ _ _ _ _ (PostMT.mk' e (by rw [ha]; exact fun z => by cases z) List.mem_cons_self nd fr (.lst upd_same o2) ?_ fun b m => ?_)
            · refine List.nodup_cons.mpr ⟨fun z => (mem3.mp z).elim aG aK, nd_mid.mpr (nd_app.mpr ⟨n1.1, n3.2.1, fun b m z => n1.2.2 b m (List.mem_cons_of_mem _ (mem3.mpr (.inr z)))⟩)⟩
            · rcases List.mem_cons.mp m with rfl | m
              · exact List.mem_append_right _ List.mem_cons_self
              · rcases mem3.mp m with m | m
                · exact List.mem_append_left _ m
                · exact List.mem_append_right _ (List.mem_cons_of_mem _ (mem3.mpr (.inr m)))
    | .dct b l, [.imm kd, xt], hf, o, ol =>
      have hf : (if isKey b kd ∧ l.length < line then some (T.dct b (dPut l kd xt), T.imm .non) else none) = some (sub', res) := by cases kd <;> exact hf
      by_cases z : isKey b kd ∧ l.length < line
      · rw [if_pos z] at hf
        cases hf
        obtain ⟨kv, w, Gk, Gw, rfl, rfl, ok, ow⟩ := ol.two
        cases ok with
        | imm rk =>
          cases o with
          | @dK a us l Fo ha ndk ou =>
            obtain ⟨κ, rfl, rfl⟩ := rk.keyK z.1
            obtain ⟨K1, Gf, K2, rfl, _, _, kk⟩ := ou.open κ
            have nd : (Gw ++ (a :: (K1 ++ (Gf ++ K2)))).Nodup := nd
            have n1 := nd_app.mp nd
            have n2 := List.nodup_cons.mp n1.2.1
            have n3 := nd_app.mp (nd_mid.mp n2.2)
            have aK : a ∉ K1 ++ K2 := fun z => n2.1 (mem3.mpr (.inr z))
            have aG : a ∉ Gw := fun z => n1.2.2 a z List.mem_cons_self
            refine ⟨_, w, rfl, .inr ⟨a, _, rfl, .inl ⟨us, κ, ha, rfl, by rw [ou.len, ← L]; exact z.2, rfl⟩, ?_⟩⟩
            rw [← pK_eq ndk]
            have o2 := kk B (upd H a (.dK (pK us κ w))) (Sub.refl B) (at_mut aK) w xt Gw (ow.at (Sub.refl B) (at_mut aG))
            refine q _ _ _ _ _ (PostMT.mk' e (by rw [ha]; exact fun z => by cases z) List.mem_cons_self nd fr (.dK upd_same (nd_pK ndk).1 o2) ?_ fun b m => ?_)
            · refine List.nodup_cons.mpr ⟨fun z => (mem3.mp z).elim aG aK, nd_mid.mpr (nd_app.mpr ⟨n1.1, n3.2.1, fun b m z => n1.2.2 b m (List.mem_cons_of_mem _ (mem3.mpr (.inr z)))⟩)⟩
            · rcases List.mem_cons.mp m with rfl | m
              · exact List.mem_append_right _ List.mem_cons_self
              · rcases mem3.mp m with m | m
                · exact List.mem_append_left _ m
                · exact List.mem_append_right _ (List.mem_cons_of_mem _ (mem3.mpr (.inr m)))
          | @dT a us l Fo ha ndk ou =>
            obtain ⟨bb, κ, rfl, hb, rfl⟩ := rk.keyT z.1
            obtain ⟨K1, Gf, K2, rfl, _, _, kk⟩ := ou.open κ
            have nd : (Gw ++ (a :: (K1 ++ (Gf ++ K2)))).Nodup := nd
            have n1 := nd_app.mp nd
            have n2 := List.nodup_cons.mp n1.2.1
            have n3 := nd_app.mp (nd_mid.mp n2.2)
            have aK : a ∉ K1 ++ K2 := fun z => n2.1 (mem3.mpr (.inr z))
            have aG : a ∉ Gw := fun z => n1.2.2 a z List.mem_cons_self
            refine ⟨_, w, rfl, .inr ⟨a, _, rfl, .inr ⟨us, κ, bb, ha, rfl, e _ _ hb, by rw [ou.len, ← L]; exact z.2, rfl⟩, ?_⟩⟩
            rw [← pK_eq ndk]
            have o2 := kk B (upd H a (.dT (pK us κ w))) (Sub.refl B) (at_mut aK) w xt Gw (ow.at (Sub.refl B) (at_mut aG))
            refine q _ _ _ _ _ (PostMT.mk' e (by rw [ha]; exact fun z => by cases z) List.mem_cons_self nd fr (.dT upd_same (nd_pK ndk).1 o2) ?_ fun b m => ?_)
            · refine List.nodup_cons.mpr ⟨fun z => (mem3.mp z).elim aG aK, nd_mid.mpr (nd_app.mpr ⟨n1.1, n3.2.1, fun b m z => n1.2.2 b m (List.mem_cons_of_mem _ (mem3.mpr (.inr z)))⟩)⟩
            · rcases List.mem_cons.mp m with rfl | m
              · exact List.mem_append_right _ List.mem_cons_self
              · rcases mem3.mp m with m | m
                · exact List.mem_append_left _ m
                · exact List.mem_append_right _ (List.mem_cons_of_mem _ (mem3.mpr (.inr m)))
      · rw [if_neg z] at hf; cases hf
theorem mt_stFld {cs : List Nat} {f : Str} (hc : ∀ c ∈ cs, Cls Γ.K (Γ.cl c) ∧ NoAttr Γ.K (Γ.cl c) f) : MethT Γ (fun o xs H Q => ∃ y a C dx fs, xs = [y] ∧ o = .ref a ∧ H a = some (.ins C dx fs) ∧ Cls Γ.K C ∧ NoAttr Γ.K C f ∧ fs.length < 1000 ∧ Q .non (upd H a (.ins C dx (putF f y fs)))) (stFld cs f) where
  ni := fun d ts => by
    rcases ts with _ | ⟨a, _ | ⟨b, r⟩⟩ <;> rfl
  run := fun {B H x xs sub sub' res ts F G Q} e o ol nd fr hf q => by
    match sub, ts, hf, o, ol with
    | .obj c l, [xt], hf, o, ol =>
      have hf : (if c ∈ cs ∧ l.length < 1000 then some (T.obj c (fPut f xt l), T.imm .non) else none) = some (sub', res) := hf
      by_cases z : c ∈ cs ∧ l.length < 1000
      · rw [if_pos z] at hf
        cases hf
        obtain ⟨w, rfl, ow⟩ := ol.one
        cases o with
        | @obj a dx c us l Fo ha hd ou =>
          obtain ⟨K1, Gf, K2, rfl, _, _, kk⟩ := ou.open f
          have nd : (G ++ (a :: dx :: (K1 ++ (Gf ++ K2)))).Nodup := nd
          have n1 := nd_app.mp nd
          have n2 := List.nodup_cons.mp n1.2.1
          have n2' := List.nodup_cons.mp n2.2
          have n3 := nd_app.mp (nd_mid.mp n2'.2)
          have aK : a ∉ K1 ++ K2 := fun z => n2.1 (List.mem_cons_of_mem _ (mem3.mpr (.inr z)))
          have aG : a ∉ G := fun z => n1.2.2 a z List.mem_cons_self
          have ad : dx ≠ a := fun z => n2.1 (by rw [z]; exact List.mem_cons_self)
          have dG : dx ∉ G := fun z => n1.2.2 dx z (List.mem_cons_of_mem _ List.mem_cons_self)
          have dK : dx ∉ K1 ++ K2 := fun z => n2'.1 (mem3.mpr (.inr z))
          refine ⟨w, a, _, dx, us, rfl, rfl, ha, (hc c z.1).1, (hc c z.1).2, by rw [ou.len]; exact z.2, ?_⟩
          have o2 := kk B (upd H a (.ins (Γ.cl c) dx (putF f w us))) (Sub.refl B) (at_mut aK) w xt G (ow.at (Sub.refl B) (at_mut aG))
          refine q _ _ _ _ _ (PostMT.mk' e (by rw [ha]; exact fun z => by cases z) List.mem_cons_self nd fr (.obj upd_same (by rw [upd_ne ad]; exact hd) o2) ?_ fun b m => ?_)
          · refine List.nodup_cons.mpr ⟨fun z => ?_, List.nodup_cons.mpr ⟨fun z => (mem3.mp z).elim dG dK, nd_mid.mpr (nd_app.mpr ⟨n1.1, n3.2.1, fun b m z => n1.2.2 b m (List.mem_cons_of_mem _ (List.mem_cons_of_mem _ (mem3.mpr (.inr z))))⟩)⟩⟩
            rcases List.mem_cons.mp z with z | z
            · exact ad z.symm
            · exact (mem3.mp z).elim aG aK
          · rcases List.mem_cons.mp m with rfl | m
            · exact List.mem_append_right _ List.mem_cons_self
            · rcases List.mem_cons.mp m with rfl | m
              · exact List.mem_append_right _ (List.mem_cons_of_mem _ List.mem_cons_self)
              · rcases mem3.mp m with m | m
                · exact List.mem_append_left _ m
                · exact List.mem_append_right _ (List.mem_cons_of_mem _ (List.mem_cons_of_mem _ (mem3.mpr (.inr m))))
      · rw [if_neg z] at hf; cases hf
end
end G
set_option Elab.async false
set_option linter.all false
set_option maxRecDepth 100000
namespace G
open PySem PySem.Spec PyProof.Rows L2
section
variable {Γ : Wh} {X : Cx}
variable {B H B' H' B1 H1 B2 H2 : Hp} {v v0 y : V} {t t' x sub sub' res : T} {F G' F1 F2 A : List Addr} {σ : L2.St} {st st1 st2 : G.St} {W : L2.WX} {p : List Stp} {i : Nat} {fx : List Nat}
variable {e k o : Expr} {r : Sk} {m me : Sm T} {pos pos' : Pos}
theorem run_nox_none {α : Type} {mm : Sm α} {K : α → G.St → Prop} {KX : G.X → G.St → Prop} (h : RunP (nox mm st) K KX) (k : ∀ a s, ¬ K a s) : False := by
  unfold nox at h
  cases e : mm st with
  | no => rw [e] at h; exact h
  | ex x s => rw [e] at h; exact h
  | ok a s => rw [e] at h; exact k a s h
/-- the tree under a name taken away, the value before it aside -/
theorem PostV.take {Gv : List Addr} {i : Nat} (pv : PostV Γ B H F σ x st1 v H1 B1 Gv F1) (e : st1[i]? = some (some t)) : ∃ v0 G F', σ[i]? = some (some v0) ∧ Stt Γ B1 H1 σ (st1.set i none) F' ∧ Ow Γ B1 H1 v0 t G ∧ Aside B1 H1 (Gv ++ G) F' ∧
    PostS Γ B H F σ (st1.set i none) H1 B1 F' ∧ Upd B H F B1 H1 (Gv ++ (G ++ F')) := by
  obtain ⟨v0, G, F', hv, p⟩ := pv.s.take e
  have nd := nd_app.mp pv.nd
  have sub : ∀ a ∈ G ++ F', a ∈ F1 := fun a m => by
    rcases p.u.new a m with z | z
    · exact z
    · exact ((List.mem_append.mp m).elim (fun m => (p.o.there a m).ne z) fun m => (p.s.there a m).ne z).elim
  have as : Aside B1 H1 (Gv ++ G) F' := by
    refine ⟨by rw [List.append_assoc]; exact nd_app.mpr ⟨nd.1, p.nd, fun a m z => nd.2.2 a m (sub a z)⟩, fun a m => ?_, fun a m => ?_⟩
    · exact (List.mem_append.mp m).elim (pv.fr a) (p.fr a)
    · exact (List.mem_append.mp m).elim (pv.o.there a) (p.o.there a)
  refine ⟨v0, G, F', hv, p.s, p.o, as, ⟨p.s, pv.u.weak fun a m => List.mem_append_right _ (sub a (List.mem_append_right _ m))⟩, pv.u.weak fun a m => ?_⟩
  rcases List.mem_append.mp m with m | m
  · exact List.mem_append_left _ m
  · exact List.mem_append_right _ (sub a m)
theorem Aside.right {C : List Addr} (a : Aside B H (A ++ C) F) : Aside B H C F := a.less (nd_app.mp (nd_app.mp a.nd).1).2.1 fun z m => List.mem_append_right _ m
/-- x.p[k] = e -/
theorem gs_stI (hK : X.K = Γ.K) (hu : X.A.units + 65 < cLine) (he : PE X e (tSm Γ W me)) (ho : PE X o (tPl Γ W i r)) (hk : PE X k (tSm Γ W m)) (hs : swapsWithSole [.Subscript o k pos'] e pos.line X.env = pure false := by rfl) (hw : swappedStores [.Subscript o k pos'] e X.env = pure none := by rfl)
    (h1 : (assignEach [.Subscript o k pos'] X.env).map (·.2) = [assign (.Subscript o k pos') X.env] := by rfl)
    (ha : ∀ v, assign (.Subscript o k pos') X.env v = (do
      let ov ← holding [v] (eval o X.env)
      let iv ← holding [v, ov] (eval k X.env)
      standAt pos'
      holding [v, ov, iv] (setItem ov iv v)
      release [v, ov, iv] []) := by intro _; rfl) : PS X (.Assign [.Subscript o k pos'] e pos) (tSs Γ W fx (sStI i r m me)) :=
  PS.weak (ps_asg he (pg_sub ho hk (set_any hu) ha) hs hw h1) fun D σ H h =>
  e_sthen (Q := fun x H1 => tPl Γ W i r σ H1 fun o H2 => tSm Γ W m σ H2 fun k H3 => rSetA o k x H3 fun H4 => D.nx σ H4) h fun v t B H F B1 H1 st1 Gv F1 pv q => by
    split at q
    · rename_i t0 e1
      obtain ⟨v0, G, F', hv, S1, o1, as, ps, uA⟩ := pv.take e1
      rw [run_bind] at q
      refine ⟨B1, _, F', v0, t0, G, hv, S1, o1, as.right, q.mono (fun p st2 q => ?_) fun _ _ q => OutX.after ps (OutS.x q)⟩
      rw [run_bind] at q
      cases eg : t0.get p with
      | none => exact (run_nox_none q fun a s z => by rw [modT_none eg] at z; exact z).elim
      | some s0 =>
        refine ⟨s0, rfl, fun ov H2 B2 F2 P l => ?_⟩
        obtain ⟨as2, at2⟩ := as.post P
        refine ⟨B2, st2, F2, P.s, (run_nox q).mono (fun kt st3 q kv H3 B3 G3 F3 pk => ?_) fun _ _ q => q⟩
        obtain ⟨B4, rk, P4⟩ := pk.frz
        obtain ⟨as4, at4⟩ := as2.post P4
        split at q
        · rename_i t' rr em
          obtain ⟨s, s', hg, hf, hp⟩ := modT_inv em
          rw [eg] at hg
          cases hg
          have ow4 : Ow Γ B4 H3 v t Gv := (pv.o.at P.u.b at2.l).at P4.u.b at4.l
          have l4 := (l.mono (P4.u.b) (at4.r))
          have ol : OwL Γ B4 H3 [kv, v] [.imm kt.toD, t] Gv := by
            have := OwL.cons (Ow.imm (Γ := Γ) (H := H3) rk) (OwL.cons ow4 .nil)
            simpa using this
          obtain ⟨k0, v1, ek, q3⟩ := Loc.meth (Q := fun _ H4 => D.nx σ H4) mt_stIx P4.s hv l4 ol as4 hf hp fun w H5 B5 K F5 pw => by
            refine q σ H5 B5 F5 ⟨pw.s, ?_, fun _ _ => rfl, rfl⟩
            have u1 : Upd B H F B4 H3 (Gv ++ (G ++ F3)) := uA.comp (P.u.trans P4.u) (fun a m => List.mem_append_right _ (List.mem_append_right _ m)) fun a m => by
              simp only [List.mem_append] at m ⊢
              rcases m with m | m | m
              · exact .inr (.inl m)
              · exact .inr (.inr (.inl m))
              · exact .inl m
            exact u1.trans (pw.drop.u)
          cases ek
          exact q3
        · exact q.elim
    · exact q.elim
/-- x.p.f = e -/
theorem gs_stF {cs : List Nat} {f : Str} (hK : X.K = Γ.K) (hc : ∀ c ∈ cs, Cls Γ.K (Γ.cl c) ∧ NoAttr Γ.K (Γ.cl c) f) (he : PE X e (tSm Γ W me)) (ho : PE X o (tPl Γ W i r)) (hs : swapsWith e (some (.Attribute o f pos')) pos.line X.env = pure false := by rfl) :
    PS X (.Assign [.Attribute o f pos'] e pos) (tSs Γ W fx (sStF i r cs f me)) :=
  PS.weak (ps_fld ho he hs) fun D σ H h =>
  e_sthen (Q := fun y H1 => tPl Γ W i r σ H1 fun x H2 => ∃ a C dx fs, x = .ref a ∧ H2 a = some (.ins C dx fs) ∧ Cls X.K C ∧ NoAttr X.K C f ∧ fs.length < 1000 ∧ D.nx σ (upd H2 a (.ins C dx (putF f y fs)))) h fun v t B H F B1 H1 st1 Gv F1 pv q => by
    split at q
    · rename_i t0 e1
      obtain ⟨v0, G, F', hv, S1, o1, as, ps, uA⟩ := pv.take e1
      rw [run_bind] at q
      refine ⟨B1, _, F', v0, t0, G, hv, S1, o1, as.right, q.mono (fun p st2 q => ?_) fun _ _ q => OutX.after ps (OutS.x q)⟩
      split at q
      · rename_i t' rr em
        obtain ⟨s, s', hg, hf, hp⟩ := modT_inv em
        refine ⟨s, hg, fun ov H2 B2 F2 P l => ?_⟩
        obtain ⟨as2, at2⟩ := as.post P
        have ol : OwL Γ B2 H2 [v] [t] Gv := by
          have := OwL.cons (pv.o.at P.u.b at2.l) OwL.nil
          simpa using this
        rw [hK]
        obtain ⟨y, a, C, dx, fs, ek, q3⟩ := Loc.meth (Q := fun _ H4 => D.nx σ H4) (mt_stFld hc) P.s hv l ol as2 hf hp fun w H5 B5 K F5 pw => by
          refine q σ H5 B5 F5 ⟨pw.s, ?_, fun _ _ => rfl, rfl⟩
          have u1 : Upd B H F B2 H2 (Gv ++ (G ++ F2)) := uA.comp P.u (fun a m => List.mem_append_right _ (List.mem_append_right _ m)) fun a m => by
            simp only [List.mem_append] at m ⊢
            rcases m with m | m | m
            · exact .inr (.inl m)
            · exact .inr (.inr (.inl m))
            · exact .inl m
          exact u1.trans (pw.drop.u)
        cases ek
        exact ⟨a, C, dx, fs, q3⟩
      · exact q.elim
    · exact q.elim
end
end G
set_option Elab.async false
set_option linter.all false
set_option maxRecDepth 100000
namespace L2
open PySem PySem.Spec PyProof.Rows
section
variable {X : Cx} {CX : CXT} {k : Nat} {f C : Addr} {fd : FuncData} {ps : List Str} {sp : Sp} {E : St → XK} {x m : Str} {p pos apos : Pos} {e o : Expr} {es : List Expr} {ta : TE} {t : TA}
/-- o.m(e, ..), what is raised wished for at the caller's slots -/
def tMethA (C : Addr) (m : Str) (sp : Sp) (E : St → XK) (ta : TE) (t : TA) : TE := fun σ H Q => ta σ H fun x H1 => ∃ a dx fs, x = .ref a ∧ H1 a = some (.ins C dx fs) ∧ fs.lookup m = none ∧ t σ H1 fun vs H2 => sp (x :: vs) H2 Q (E σ)
theorem pe_methA {pl : Sem Bool} (he : PE X o ta) (c : Cls X.K C) (hm : Meth X.K C m f) (F : FnOk X.prog X.w X.K X.mg X.base CX k f fd ps sp) (hr : Room k X.A) (hb : Binds X.K fd ps []) (hx : ∀ σ, PassesAt CX X σ (E σ)) (ha : PA X (e :: es) t)
    (hst : starEach (e :: es) X.env = (false, eval e X.env) :: starEach es X.env := by rfl) (hpl : (backTo pos (starEach es X.env)).any (·.1) = false := by rfl)
    (ht : eval (.Call (.Attribute o m apos) (e :: es) [] pos) X.env = (do
      let ov ← eval o X.env
      standAt apos.atName
      let (f, first) ← holding [ov] (getMethod ov m pl)
      callWith pos f first (backTo pos (starEach (e :: es) X.env)) (backToKw pos (keywordEach [] X.env))) := by rfl) :
    PE X (.Call (.Attribute o m apos) (e :: es) [] pos) (tMethA C m sp E ta t) := by
  refine ⟨fun pins s σ H Q I h => ?_⟩
  refine PySem.W.methodCall_KW (pl := pl) (thn (he.run pins s σ H _ I h) fun u s1 ⟨x, H1, I1, rx, a, dx, fs, ex, ea, l, q⟩ => ?_) ht
  subst ex
  obtain rfl : u = Value.ref a := rx
  refine getmeth_ok I1 ea c hm l ?_
  refine PySem.W.callWith_K (first := [.ref a]) (h₀ := X.base) I.ok.mod.kin hm.kp (thn (ha.run pos pins s1 σ H1 _ I1 q) fun us s2 ⟨vs, H2, I2, r, q2⟩ => ⟨I2.kIn, ?_⟩) hst hpl
  exact run_fnS (us := .ref a :: us) (vs := .ref a :: vs) F hr hb (hx σ) I2 (.cons rfl r) q2
theorem pe_methA0 {pl : Sem Bool} (he : PE X o ta) (c : Cls X.K C) (hm : Meth X.K C m f) (F : FnOk X.prog X.w X.K X.mg X.base CX k f fd ps sp) (hr : Room k X.A) (hb : Binds X.K fd ps []) (hx : ∀ σ, PassesAt CX X σ (E σ))
    (ht : eval (.Call (.Attribute o m apos) [] [] pos) X.env = (do
      let ov ← eval o X.env
      standAt apos.atName
      let (f, first) ← holding [ov] (getMethod ov m pl)
      callWith pos f first (backTo pos (starEach [] X.env)) (backToKw pos (keywordEach [] X.env))) := by rfl) :
    PE X (.Call (.Attribute o m apos) [] [] pos) (tMethA C m sp E ta tNil) := by
  refine ⟨fun pins s σ H Q I h => ?_⟩
  refine PySem.W.methodCall_KW (pl := pl) (thn (he.run pins s σ H _ I h) fun u s1 ⟨x, H1, I1, rx, a, dx, fs, ex, ea, l, q⟩ => ?_) ht
  subst ex
  obtain rfl : u = Value.ref a := rx
  refine getmeth_ok I1 ea c hm l ?_
  exact PySem.W.callWith_K0 (first := [.ref a]) I1.kIn hm.kp (run_fnS (us := [.ref a]) (vs := [.ref a]) F hr hb (hx σ) I1 (.cons rfl .nil) q)
def tMakeA (C : Addr) (sp : Sp) (E : St → XK) (t : TA) : TE := fun σ H Q => t σ H fun vs H1 => ∀ x dx, H1 x = none → H1 dx = none → dx ≠ x →
  sp (.ref x :: vs) (upd (upd H1 dx (.own x)) x (.ins C dx [])) (fun v H2 => v = .non ∧ Q (.ref x) H2) (E σ)
theorem pe_makeA (M : Mk X.K C f) (F : FnOk X.prog X.w X.K X.mg X.base CX k f fd ps sp) (hr : Room (k + 1) X.A) (hm : X.mg x = some (.ref C)) (hb : Binds X.K fd ps []) (hx : ∀ σ, PassesAt CX X σ (E σ))
    (ha : PA X (e :: es) t) (hg : Gl X x := by rfl) (hdb : (x == ("__debug__" : Str)) = false := by decide) (he : starEach (e :: es) X.env = (false, eval e X.env) :: starEach es X.env := by rfl) (hpl : (backTo pos (starEach es X.env)).any (·.1) = false := by rfl) :
    PE X (.Call (.Name x p) (e :: es) [] pos) (tMakeA C sp E t) := by
  refine ⟨fun pins s σ H Q I h => ?_⟩
  refine wpAny_Call_Name_kw (ld_glob I hg hm ?_ hdb)
  refine PySem.W.callWith_K (h₀ := X.base) I.ok.mod.kin M.kp (thn (ha.run pos pins s σ H _ I h) fun us s1 ⟨vs, H1, I1, r, h⟩ => ⟨I1.kIn, ?_⟩) he hpl
  have hq := h (s1.heap.objs.size + 1) s1.heap.objs.size (I1.hok.fresh (Nat.le_succ _)) (I1.hok.fresh (Nat.le_refl _)) (Nat.ne_of_lt (Nat.lt_succ_self _))
  have I2 := Inv.made (C := C) I1
  have r2 : Vals (V.ref (s1.heap.objs.size + 1) :: vs) (Value.ref (s1.heap.objs.size + 1) :: us) := .cons rfl r
  have hl : (Value.ref (s1.heap.objs.size + 1) :: us).length = ps.length := by
    have e := r2.length
    rw [F.len _ _ _ _ hq] at e
    exact e.symm
  have hbb := hb _ (Value.ref (s1.heap.objs.size + 1) :: us) I2.kIn (by simpa using hl)
  rw [List.append_nil] at hbb
  refine wpAny_call (make_map (f := f) I1.kIn M.makes M.init (beq_iff_eq.mp M.fn) (codeAny_mono (F.run _ X.stack _ _ ⟨Value.ref (s1.heap.objs.size + 1) :: us, []⟩ (Value.ref (s1.heap.objs.size + 1) :: us) _ _ (E σ) (hr.make C us [])
    (I2.env0.make C us []) hbb r2 hq) fun r s' hq' => ?_))
  cases r with
  | error e => exact hx σ pins _ _ e s' I2 hq'
  | ok fl =>
    cases fl with
    | ret u =>
      obtain ⟨v, H', I3, rv, ev, q3⟩ := I2.after hq'
      subst ev
      exact ⟨rv, ⟨V.ref (s1.heap.objs.size + 1), H', I3, rfl, q3⟩⟩
    | next => exact False.elim hq'
    | brk => exact False.elim hq'
    | cont => exact False.elim hq'
end
end L2
namespace G
open PySem PySem.Spec PyProof.Rows L2
section
variable {Γ : Wh} {X : Cx}
variable {B H B' H' B1 H1 B2 H2 : Hp} {v v0 y : V} {t t' x sub sub' res : T} {F G' F1 F2 G1 A : List Addr} {σ : L2.St} {st st1 st2 : G.St} {W : L2.WX} {p : List Stp} {i : Nat} {fx : List Nat}
/-- the callee with its arguments, the lent ones back -/
theorem PostA.call {f : Fn} {ts : List T} {ls : List (Option Nat)} {vs : List V} {Q : VK} (p : PostA Γ B H F σ ts ls st1 vs H1 B1 G1 F1)
    (q : RunP (match f ts with | .no => .no | .ret t ps => .ok t (wb ls ps st1) | .ex x ps => .ex x (wb ls ps st1)) (fun t st' => ∀ v H' B' G F', PostV Γ B H F σ t st' v H' B' G F' → Q v H') (OutX Γ W B H F σ)) : spOf Γ f vs H1 Q (WE W σ) := by
  refine ⟨B1, ts, G1, ⟨p.s.ex, p.o.sl, (nd_app.mp p.nd).1, p.fr⟩, ?_⟩
  cases e : f ts with
  | no => rw [e] at q; exact q.elim
  | ret t qs =>
    rw [e] at q
    intro v H2 B2 G2 F2 r
    have nd := nd_app.mp p.nd
    have d : ∀ a ∈ F1, a ∉ G1 := fun a m z => nd.2.2 a z m
    have ap := r.u.apart d p.s.there
    obtain ⟨F3, s, z⟩ := p.back r.drop
    have ndr := nd_app.mp r.nd
    refine q v H2 B2 G2 F3 ⟨s.s, r.o, nd_app.mpr ⟨ndr.1, s.s.nd, fun a m y => ?_⟩, r.fr, ?_⟩
    · rcases z a y with y | y
      · exact ndr.2.2 a m y
      · exact ap a y (List.mem_append_left _ m)
    · refine p.u.comp r.u (fun a m => List.mem_append_left _ m) fun a m => ?_
      rcases List.mem_append.mp m with m | m
      · exact .inl (List.mem_append_left _ m)
      · exact (z a m).imp (fun m => List.mem_append_right _ m) (fun m => List.mem_append_right _ m)
  | ex x qs =>
    rw [e] at q
    intro cls d H2 B2 F2 r
    obtain ⟨F3, s, z⟩ := p.back r.s
    exact q cls d H2 B2 F3 ⟨s, r.x⟩
theorem Ow.isObj {c : Nat} {m : Str} (ex : Sub B H) (o : Ow Γ B H v t F) (h : t.isObj c m = true) : ∃ a dx fs, v = .ref a ∧ H a = some (.ins (Γ.cl c) dx fs) ∧ fs.lookup m = none := by
  cases o with
  | imm r =>
    cases r with
    | @obj a dx c' vs l ha rl =>
      have h : (decide (c' = c) && (fFind l m).isNone) = true := h
      rw [Bool.and_eq_true, decide_eq_true_eq] at h
      obtain ⟨rfl, h2⟩ := h
      refine ⟨a, dx, vs, rfl, ex _ _ ha, ?_⟩
      rcases rl.find m with ⟨_, h⟩ | ⟨_, _, h, _⟩
      · exact h
      · rw [h] at h2; cases h2
    | _ => cases h
  | @obj a dx c' vs l Fo ha hd ol =>
    have h : (decide (c' = c) && (fFind l m).isNone) = true := h
    rw [Bool.and_eq_true, decide_eq_true_eq] at h
    obtain ⟨rfl, h2⟩ := h
    refine ⟨a, dx, vs, rfl, ha, ?_⟩
    obtain ⟨_, _, _, _, _, h, _⟩ := ol.open m
    refine h ?_
    cases e : fFind l m with
    | none => rfl
    | some _ => rw [e] at h2; cases h2
  | _ => cases h
section
variable {g : Fn} {c : Nat} {m : Str} {ra : Sa} {me : Sm T}
theorem e_methV {Q : VK} (h : tSm Γ W (sMethV c m g me ra) σ H Q) : tMethA (Γ.cl c) m (spOf Γ g) (WE W) (tSm Γ W me) (tAm Γ W ra) σ H Q := by
  obtain ⟨B, st, F, S, h⟩ := h
  unfold sMethV Sm.bind at h
  rw [run_bind] at h
  refine ⟨B, st, F, S, h.mono (fun t st1 q v H1 B1 G1 F1 P => ?_) fun _ _ q => q⟩
  by_cases hi : t.isObj c m = true
  · rw [if_pos hi] at q
    obtain ⟨a, dx, fs, rfl, ha, hl⟩ := P.o.isObj P.s.ex hi
    refine ⟨a, dx, fs, rfl, ha, hl, B1, st1, F1, P.s, ?_⟩
    rw [run_bind] at q
    refine q.mono (fun u st2 q vs H2 B2 G2 F2 P2 => ?_) fun x st' => OutX.after P.drop
    exact PostA.call (P.cons P2 (.val P2.l)) q
  · rw [if_neg hi] at q; exact q.elim
theorem e_make {Q : VK} (h : tSm Γ W (sMake c g ra) σ H Q) : tMakeA (Γ.cl c) (spOf Γ g) (WE W) (tAm Γ W ra) σ H Q := by
  obtain ⟨B, st, F, S, h⟩ := h
  unfold sMake Sm.bind at h
  rw [run_bind] at h
  refine ⟨B, st, F, S, h.mono (fun u st1 q vs H1 B1 G1 F1 P => ?_) fun _ _ q => q⟩
  intro x dx hx hdx ne
  have kx : Sub H1 (upd (upd H1 dx (.own x)) x (.ins (Γ.cl c) dx [])) := fun a o h => by
    rw [upd_ne (ne_of_none h hx), upd_ne (ne_of_none h hdx)]; exact h
  have nd := nd_app.mp P.nd
  have xG : x ∉ G1 := fun z => (P.o.there x z).ne hx
  have dG : dx ∉ G1 := fun z => (P.o.there dx z).ne hdx
  have u0 : Upd B1 H1 G1 B1 (upd (upd H1 dx (.own x)) x (.ins (Γ.cl c) dx [])) (x :: dx :: G1) := by
    refine ⟨Sub.refl _, fun a o h _ => kx a o h, fun a h => ?_, fun a m => ?_, fun a o h => .inl h⟩
    · cases e : H1 a with
      | none => exact absurd e h
      | some o => rw [kx a o e]; exact fun z => by cases z
    · rcases List.mem_cons.mp m with rfl | m
      · exact .inr hx
      · rcases List.mem_cons.mp m with rfl | m
        · exact .inr hdx
        · exact .inl m
  refine ⟨B1, .obj c [] :: u.1, x :: dx :: G1, ⟨P.s.ex.trans kx, ?_, ?_, ?_⟩, ?_⟩
  · have o1 : Ow Γ B1 (upd (upd H1 dx (.own x)) x (.ins (Γ.cl c) dx [])) (.ref x) (.obj c []) (x :: dx :: []) := .obj upd_same (by rw [upd_ne ne, upd_same]) .nil
    have := Sl.cons o1 ((P.o.at (Sub.refl _) fun a _ o h => kx a o h).sl)
    exact this
  · refine List.nodup_cons.mpr ⟨fun z => ?_, List.nodup_cons.mpr ⟨dG, nd.1⟩⟩
    rcases List.mem_cons.mp z with z | z
    · exact ne z.symm
    · exact xG z
  · intro a m
    rcases List.mem_cons.mp m with rfl | m
    · exact P.s.ex.none hx
    · rcases List.mem_cons.mp m with rfl | m
      · exact P.s.ex.none hdx
      · exact P.fr a m
  · cases e : g (.obj c [] :: u.1) with
    | no => rw [e] at q; exact q.elim
    | ret tr qs =>
      rw [e] at q
      intro w H2 B2 G2 F2 r
      cases tr with
      | imm d =>
        cases d with
        | non =>
          cases qs with
          | nil => exact q.elim
          | cons o1 qs =>
            cases o1 with
            | none => exact q.elim
            | some t1 =>
              have q : ∀ v H' B' G F', PostV Γ B H F σ t1 (wb u.2 qs st1) v H' B' G F' → Q v H' := q
              have ew : w = .non := by cases r.o with
                | imm rr => cases rr; rfl
              refine ⟨ew, ?_⟩
              have uu := u0.trans (r.u.weak (F2 := F2) fun a m => List.mem_append_right _ m)
              have sl := r.s.sl
              cases sl with
              | @cons _ _ _ _ Fr Gx ox sr =>
                have n2 := nd_app.mp r.s.nd
                have pS : PostS Γ B1 H1 G1 (vs.map some) qs H2 B2 Fr := ⟨⟨r.s.ex, sr, n2.2.1, fun a m => r.s.fr a (List.mem_append_right _ m)⟩, uu.weak fun a m => List.mem_append_right _ m⟩
                obtain ⟨F3, s, z⟩ := P.back pS
                have d : ∀ a ∈ F1, a ∉ G1 := fun a m z => nd.2.2 a z m
                have ap := uu.apart d P.s.there
                refine q _ H2 B2 Gx F3 ⟨s.s, ox, nd_app.mpr ⟨n2.1, s.s.nd, fun a m y => ?_⟩, fun a m => r.s.fr a (List.mem_append_left _ m), ?_⟩
                · rcases z a y with y | y
                  · exact n2.2.2 a m y
                  · exact ap a y (List.mem_append_left _ m)
                · refine P.u.comp uu (fun a m => List.mem_append_left _ m) fun a m => ?_
                  rcases List.mem_append.mp m with m | m
                  · exact .inl (List.mem_append_left _ m)
                  · exact (z a m).imp (fun m => List.mem_append_right _ m) (fun m => List.mem_append_right _ m)
        | _ => exact q.elim
      | _ => exact q.elim
    | ex xx qs =>
      rw [e] at q
      cases qs with
      | nil => exact q.elim
      | cons o1 qs =>
        intro cls d H2 B2 F2 r
        have uu := u0.trans r.s.u
        have sr : ∃ Fr, Sl Γ B2 H2 (vs.map some) qs Fr ∧ Fr.Nodup ∧ ∀ a ∈ Fr, a ∈ F2 := by
          have sl := r.s.s.sl
          cases sl with
          | skip sr => exact ⟨_, sr, r.s.s.nd, fun a m => m⟩
          | cons ox sr => exact ⟨_, sr, (nd_app.mp r.s.s.nd).2.1, fun a m => List.mem_append_right _ m⟩
        obtain ⟨Fr, s1, s2, s3⟩ := sr
        have pS : PostS Γ B1 H1 G1 (vs.map some) qs H2 B2 Fr := ⟨⟨r.s.s.ex, s1, s2, fun a m => r.s.s.fr a (s3 a m)⟩, uu.weak s3⟩
        obtain ⟨F3, s, z⟩ := P.back pS
        exact q cls d H2 B2 F3 ⟨s, r.x⟩
section
variable {o e : Expr} {es : List Expr} {k : Nat} {fa : Addr} {fd : FuncData} {ps : List Str} {x : Str} {p pos apos npos : Pos}
/-- the facts of a method -/
structure MthOk (X : Cx) (Γ : Wh) (k : Nat) (c : Nat) (m : Str) (fa : Addr) (fd : FuncData) (ps : List Str) (g : Fn) : Prop where
  cls : Cls X.K (Γ.cl c)
  mth : Meth X.K (Γ.cl c) m fa
  fn : FnOk X.prog X.w X.K X.mg X.base (L2.CX X.prog X.w) k fa fd ps (spOf Γ g)
  bd : Binds X.K fd ps []
theorem tSm.mono {m : Sm T} {Q Q' : VK} (h : tSm Γ W m σ H Q) (k : ∀ v H, Q v H → Q' v H) : tSm Γ W m σ H Q' := by
  obtain ⟨B, st, F, S, h⟩ := h
  exact ⟨B, st, F, S, h.mono (fun t st1 q v H1 B1 G F1 P => k v H1 (q v H1 B1 G F1 P)) fun _ _ q => q⟩
theorem tAm_nil {Q : List V → Hp → Prop} (h : tAm Γ W aNil σ H Q) : Q [] H := by
  obtain ⟨B, st, F, S, h⟩ := h
  exact h [] H B [] F ⟨S, .nil, by simpa using S.nd, fun _ m => (nomatch m), .refl, .nil⟩
theorem ge_methV {pl : Sem Bool} (M : MthOk X Γ k c m fa fd ps g) (hr : Room k X.A) (tk : Takes X W) (ho : PE X o (tSm Γ W me)) (ha : PA X (e :: es) (tAm Γ W ra))
    (hst : starEach (e :: es) X.env = (false, eval e X.env) :: starEach es X.env := by rfl) (hpl : (backTo pos (starEach es X.env)).any (·.1) = false := by rfl)
    (ht : eval (.Call (.Attribute o m apos) (e :: es) [] pos) X.env = (do
      let ov ← eval o X.env
      standAt apos.atName
      let (f, first) ← holding [ov] (getMethod ov m pl)
      callWith pos f first (backTo pos (starEach (e :: es) X.env)) (backToKw pos (keywordEach [] X.env))) := by rfl) :
    PE X (.Call (.Attribute o m apos) (e :: es) [] pos) (tSm Γ W (sMethV c m g me ra)) :=
  PE.weak (pe_methA ho M.cls M.mth M.fn hr M.bd (fun σ => passAt tk σ) ha hst hpl ht) fun _ _ _ => e_methV
theorem ge_methV0 {pl : Sem Bool} (M : MthOk X Γ k c m fa fd ps g) (hr : Room k X.A) (tk : Takes X W) (ho : PE X o (tSm Γ W me))
    (ht : eval (.Call (.Attribute o m apos) [] [] pos) X.env = (do
      let ov ← eval o X.env
      standAt apos.atName
      let (f, first) ← holding [ov] (getMethod ov m pl)
      callWith pos f first (backTo pos (starEach [] X.env)) (backToKw pos (keywordEach [] X.env))) := by rfl) :
    PE X (.Call (.Attribute o m apos) [] [] pos) (tSm Γ W (sMethV c m g me aNil)) :=
  PE.weak (pe_methA0 ho M.cls M.mth M.fn hr M.bd (fun σ => passAt tk σ) ht) fun σ H Q h => tSm.mono (e_methV h) fun v H ⟨a, dx, fs, h1, h2, h3, h4⟩ => ⟨a, dx, fs, h1, h2, h3, tAm_nil h4⟩
theorem ge_make (M : Mk X.K (Γ.cl c) fa) (F : FnOk X.prog X.w X.K X.mg X.base (L2.CX X.prog X.w) k fa fd ps (spOf Γ g)) (hr : Room (k + 1) X.A) (hm : X.mg x = some (.ref (Γ.cl c))) (hb : Binds X.K fd ps []) (tk : Takes X W) (ha : PA X (e :: es) (tAm Γ W ra)) (hg : Gl X x := by rfl)
    (hdb : (x == ("__debug__" : Str)) = false := by decide) (he : starEach (e :: es) X.env = (false, eval e X.env) :: starEach es X.env := by rfl) (hpl : (backTo pos (starEach es X.env)).any (·.1) = false := by rfl) :
    PE X (.Call (.Name x p) (e :: es) [] pos) (tSm Γ W (sMake c g ra)) :=
  PE.weak (pe_makeA M F hr hm hb (fun σ => passAt tk σ) ha hg hdb he hpl) fun _ _ _ => e_make
end
end
end
end G
set_option Elab.async false
set_option linter.all false
set_option maxRecDepth 100000
namespace G
open PySem PySem.Spec PyProof.Rows L2
section
variable {Γ : Wh} {X : Cx}
variable {B H B' H' B1 H1 B2 H2 : Hp} {v v0 y : V} {t t' x sub sub' res : T} {F G' F1 F2 G1 A : List Addr} {σ : L2.St} {st st1 st2 : G.St} {W : L2.WX} {p : List Stp} {i : Nat} {fx : List Nat}
theorem ge_globI {x : Str} {i : Int} {pos : Pos} {u : Value} (hm : X.mg x = some u) (r : RelV (.int i) u) (hg : Gl X x := by rfl) (hd : (x == ("__debug__" : Str)) = false := by decide) : PE X (.Name x pos) (tSm Γ W (sCst (.int i))) := ge_glob hg hm r (fun _ => .int i) hd
theorem ge_globS {x : Str} {i : Str} {pos : Pos} {u : Value} (hm : X.mg x = some u) (r : RelV (.str i) u) (hg : Gl X x := by rfl) (hd : (x == ("__debug__" : Str)) = false := by decide) : PE X (.Name x pos) (tSm Γ W (sCst (.str i))) := ge_glob hg hm r (fun _ => .str i) hd
theorem RpL.ofS {B : Hp} : ∀ ss : List Str, RpL Γ B (ss.map V.str) (ss.map D.str)
  | [] => .nil
  | s :: ss => .cons (.str s) (RpL.ofS ss)
/-- a written list of texts -/
def LstS (K : PySem.W.Frag) (a : Addr) (ss : List Str) : Prop := ∀ H : Hp, SqL K H a (ss.map V.str)
theorem LstS.mk' {K : PySem.W.Frag} {a : Addr} {ss : List Str} {its : Array Value} {n : Nat} {sl : Array (Option Value)} (hl : K.lookup a = some ⟨.type "list", none, .seq its n, sl⟩) (hv : Vals (ss.map V.str) its.toList) (hz : its.size ≤ 1000) : LstS K a ss := fun H => .inr ⟨_, its, n, hl, rfl, rfl, rfl, Nat.le_trans hz (by decide), hv⟩
theorem ge_globL {x : Str} {a : Addr} {ss : List Str} {pos : Pos} (hK : X.K = Γ.K) (hm : X.mg x = some (.ref a)) (l : LstS X.K a ss) (hg : Gl X x := by rfl) (hd : (x == ("__debug__" : Str)) = false := by decide) : PE X (.Name x pos) (tSm Γ W (sCst (.rol (ss.map D.str)))) :=
  ge_glob hg hm (v := .ref a) rfl (fun B => .rol (by rw [← hK]; exact l B) (RpL.ofS ss)) hd
theorem ge_fld {e : Expr} {f : Str} {m : Sm T} {cs : List Nat} {pos : Pos} (hc : ∀ c ∈ cs, Cls X.K (Γ.cl c) ∧ NoAttr X.K (Γ.cl c) f) (h : PE X e (tSm Γ W m)) (hb : attributeBase e f X.env (eval e X.env) = eval e X.env := by rfl) : PE X (.Attribute e f pos) (tSm Γ W (sUn (fFld cs f) m)) :=
  PE.weak (pe_fld h hb) fun σ H Q h => by
    refine e_un (r := fun x H1 Q => ∃ a C dx fs v, x = .ref a ∧ H1 a = some (.ins C dx fs) ∧ Cls X.K C ∧ NoAttr X.K C f ∧ fs.lookup f = some v ∧ Q v H1) (fun {B H x d t Q} s r e k => ?_) h
    cases r with
    | @obj a dx c vs l ha rl =>
      have e : (if c ∈ cs then (fFind l f).map T.imm else none) = some t := e
      by_cases z : c ∈ cs
      · rw [if_pos z] at e
        rcases rl.find f with ⟨h1, _⟩ | ⟨d, v, h1, h2, h3⟩
        · rw [h1] at e; cases e
        · rw [h1] at e
          cases e
          exact ⟨a, _, dx, vs, v, rfl, s _ _ ha, (hc c z).1, (hc c z).2, h2, k _ _ _ _ (NewV.imm s h3)⟩
      · rw [if_neg z] at e; cases e
    | _ => cases e
theorem ge_dctK {pos : Pos} : PE X (.Dict [] [] pos) (tSm Γ W (sDctK false)) := PE.weak pe_dnewK fun σ H Q h => by
  obtain ⟨B, st, F, S, h⟩ := h
  intro p hp
  have n : NewV Γ B H (.dct false []) (.ref p) (upd H p (.dK [])) B [p] := ⟨S.ex.put (S.ex.none hp), .dK upd_same List.nodup_nil .nil, by simp, fun a m => by rw [List.mem_singleton.mp m]; exact S.ex.none hp, upd_newH hp⟩
  exact h _ _ _ _ _ (n.post (PostS.refl S))
theorem RpK.put {k : Key} {v : V} {d : D} (r : Rp Γ B v d) : ∀ {vs : List (Key × V)} {l : List (D × D)}, RpK Γ B vs l → RpK Γ B (pK vs k v) (dPut l (keyD k) d)
  | _, _, .nil => .cons r .nil
  | _, _, @RpK.cons _ _ k' v' d' vs l r' rs => by
    by_cases e : k' = k
    · subst e
      have e1 : pK ((k', v') :: vs) k' v = (k', v) :: vs := if_pos rfl
      have e2 : dPut ((keyD k', d') :: l) (keyD k') d = (keyD k', d) :: l := if_pos (by rw [kEq_one]; exact decide_eq_true rfl)
      rw [e1, e2]
      exact .cons r rs
    · have e1 : pK ((k', v') :: vs) k v = (k', v') :: pK vs k v := if_neg e
      have e2 : dPut ((keyD k', d') :: l) (keyD k) d = (keyD k', d') :: dPut l (keyD k) d := if_neg (by rw [kEq_one, decide_eq_false e]; exact Bool.false_ne_true)
      rw [e1, e2]
      exact .cons r' (RpK.put r rs)
end
end G
set_option Elab.async false
set_option linter.all false
set_option maxRecDepth 100000
namespace G
open PySem PySem.Spec PyProof.Rows L2
section
variable {Γ : Wh} {X : Cx}
variable {B H B' H' B1 H1 B2 H2 : Hp} {v v0 y : V} {t t' x sub sub' res : T} {F G' F1 F2 G1 A : List Addr} {σ σ' : L2.St} {st st1 st2 st' : G.St} {W : L2.WX} {p : List Stp} {i : Nat} {fx : List Nat}
theorem Src.str {s : Str} : Src Γ B (Its s) (s.cps.toList.map fun c => D.str ⟨#[c]⟩) := fun i H e => by
  refine ⟨fun q => by show s.cps.size ≤ i; simpa using q, fun d q => ?_⟩
  have hl : i < s.cps.size := by
    have := lt_of_some q
    simpa using this
  have e1 : d = .str ⟨#[s.cps[i]]⟩ := by
    rw [List.getElem?_map] at q
    simp [hl] at q
    exact q.symm
  subst e1
  refine ⟨hl, fun x H' z => ?_⟩
  obtain ⟨rfl, c, hc, rfl⟩ := z
  rw [Array.getElem?_eq_getElem hl] at hc
  cases hc
  exact ⟨B, .refl, e, .str _⟩
theorem gi_str {tg e : Expr} {m : Sm T} (h : PE X e (tSm Γ W m)) : PI X tg e (tIm Γ W (iStr m)) := PI.weak (pi_str h) fun σ H R h => by
  obtain ⟨B, st, F, S, h⟩ := h
  unfold iStr Sm.bind at h
  rw [run_bind] at h
  refine ⟨B, st, F, S, h.mono (fun t st1 q v H1 B1 G1 F1 p => ?_) fun _ _ q => q⟩
  obtain ⟨B2, r, p'⟩ := p.frz
  cases e : t.toD with
  | str s =>
    rw [e] at q r
    cases r
    exact ⟨s, rfl, q _ H1 B2 F1 p' Src.str⟩
  | _ => rw [e] at q; exact q.elim
theorem enum_get : ∀ {l : List D} {n i : Nat} {d : D}, (enumD n l)[i]? = some d → ∃ x, l[i]? = some x ∧ d = .tup [.int (n + i : Nat), x]
  | [], _, _, _, h => by simp [enumD] at h
  | a :: l, n, 0, d, h => by
    have e : D.tup [.int n, a] = d := by simpa [enumD] using h
    exact ⟨a, rfl, by rw [← e]; simp⟩
  | a :: l, n, i + 1, d, h => by
    obtain ⟨x, h1, h2⟩ := enum_get (l := l) (n := n + 1) (i := i) (d := d) (by simpa [enumD] using h)
    refine ⟨x, by simpa using h1, ?_⟩
    rw [h2]
    congr 3
    omega
theorem enum_len : ∀ (l : List D) (n : Nat), (enumD n l).length = l.length
  | [], _ => rfl
  | a :: l, n => by show (enumD (n + 1) l).length + 1 = _; rw [enum_len l]; rfl
theorem Src.enum {a : Addr} {vs : List V} {l : List D} (h : SqL Γ.K B a vs) (r : RpL Γ B vs l) : Src Γ B (Ite Γ.K a) (enumD 0 l) := fun i H e => by
  have hs := e.sl h
  refine ⟨fun q => ⟨vs, hs, by rw [r.len, ← enum_len l 0]; exact q⟩, fun d q => ?_⟩
  obtain ⟨x, hx, rfl⟩ := enum_get q
  obtain ⟨xv, hv, rx⟩ := RpL.get r hx
  refine ⟨⟨vs, xv, hs, hv⟩, fun y H' z => ?_⟩
  obtain ⟨T, x', rfl, hT, rfl, g⟩ := z
  have e1 := g vs hs
  rw [hv] at e1
  cases e1
  refine ⟨upd B T (.tup [.int (i : Nat), xv]), upd_newB e hT, sub_both e, .tup upd_same (.cons ?_ (.cons (rx.mono Γ (Sub.new (e.none hT))) .nil))⟩
  rw [Nat.zero_add]
  exact .int _
theorem gi_enum {e : Expr} {m : Sm T} {elts : List Expr} {kk : Nat} {tpos p pos : Pos} (hK : X.K = Γ.K) (hg : Gl X "enumerate") (hm : X.mg "enumerate" = none) (h : PE X e (tSm Γ W m))
    (hs : starEach [e] X.env = (false, eval e X.env) :: starEach [] X.env := by rfl) (hs1 : starEach [e] X.env = [(false, eval e X.env)] := by rfl) : PI X (.Tuple elts kk tpos) (.Call (.Name "enumerate" p) [e] [] pos) (tIm Γ W (iEnum m)) :=
  PI.weak (pi_enum hg hm (pa_cons h pa_nil hs) hs1) fun σ H R h => by
  obtain ⟨B, st, F, S, h⟩ := h
  unfold iEnum Sm.bind at h
  rw [run_bind] at h
  refine ⟨B, st, F, S, h.mono (fun t st1 q v H1 B1 G1 F1 p => ?_) fun _ _ q => q⟩
  obtain ⟨B2, r, p'⟩ := p.frz
  rw [hK]
  cases e : t.toD with
  | lst ds =>
    rw [e] at q r
    cases r with
    | @lst a vs _ hs rl => exact ⟨a, vs, rfl, p'.s.ex.sl (SqL.of hs), q _ H1 B2 F1 p' (Src.enum (SqL.of hs) rl)⟩
  | rol ds =>
    rw [e] at q r
    cases r with
    | @rol a vs _ hs rl => exact ⟨a, vs, rfl, p'.s.ex.sl hs, q _ H1 B2 F1 p' (Src.enum hs rl)⟩
  | _ => rw [e] at q; exact q.elim
theorem Src.rev {a : Addr} {vs : List V} {l : List D} (h : SqL Γ.K B a vs) (r : RpL Γ B vs l) : Src Γ B (Itv Γ.K a vs.length) l.reverse := fun i H e => by
  have hs := e.sl h
  refine ⟨fun q => by rw [List.length_reverse, ← r.len] at q; exact q, fun d q => ?_⟩
  have hi : i < l.length := by have := lt_of_some q; simpa using this
  rw [List.getElem?_reverse (by simpa using hi)] at q
  obtain ⟨xv, hv, rx⟩ := RpL.get r q
  rw [← r.len] at hv hi
  refine ⟨⟨hi, vs, xv, hs, hv⟩, fun z H' k => ?_⟩
  obtain ⟨rfl, g⟩ := k
  have e1 := g vs hs
  rw [hv] at e1
  cases e1
  exact ⟨B, .refl, e, rx⟩
end
end G
set_option Elab.async false
set_option linter.all false
set_option maxRecDepth 100000
namespace G
open PySem PySem.Spec PyProof.Rows L2
section
variable {Γ : Wh} {X : Cx}
variable {B H B' H' B1 H1 B2 H2 : Hp} {v v0 y : V} {t t' x sub sub' res : T} {F F' G' F1 F2 G1 A : List Addr} {σ σ' : L2.St} {st st1 st2 st' : G.St} {W : L2.WX} {p : List Stp} {i : Nat} {fx : List Nat}
theorem RpK.getK {d : Key} {v : V} : ∀ {vs : List (Key × V)} {l : List (D × D)} {i : Nat}, RpK Γ B vs l → vs[i]? = some (d, v) → (l.map (·.1))[i]? = some (keyD d)
  | _, _, i, .nil, h => by simp at h
  | _, _, 0, .cons r rs, h => by
    simp at h
    obtain ⟨rfl, rfl⟩ := h
    rfl
  | _, _, i + 1, .cons r rs, h => by
    have := RpK.getK (i := i) rs (by simpa using h)
    simpa using this
theorem Rp.keyD (k : Key) : Rp Γ B (kV k) (keyD k) := by cases k <;> constructor
theorem Src.keys {d : Addr} {od : Obj} {vs : List (Key × V)} {l : List (D × D)} (h : B d = some (.frz od (.dK vs))) (r : RpK Γ B vs l) : Src Γ B (Itk d od vs) (l.map (·.1)) := fun i H e => by
  have hd := e _ _ h
  refine ⟨fun q => ⟨hd, by rw [r.len]; simpa using q⟩, fun x q => ?_⟩
  have hi : i < vs.length := by have := lt_of_some q; rw [r.len]; simpa using this
  refine ⟨⟨hd, hi⟩, fun y H' z => ?_⟩
  obtain ⟨rfl, k, v, hk, rfl⟩ := z
  have := r.getK hk
  rw [this] at q
  cases q
  exact ⟨B, .refl, e, Rp.keyD k⟩
end
end G
set_option Elab.async false
set_option linter.all false
set_option maxRecDepth 100000
namespace G
open PySem PySem.Spec PyProof.Rows L2
def truT : T → Option Bool
  | .imm .non => some false
  | .imm (.tup l) => some (!l.isEmpty)
  | _ => none
/-- a or b, a None or a tuple -/
def sOrD (a b : Sm T) : Sm T := Sm.bind a fun t => match truT t with
  | some true => Sm.pure t
  | some false => b
  | none => fun _ => .no
/-- a, b = e1, e2 (no tuple made) -/
def sPar (i j : Nat) (a : Sa) : Ss := Sm.bind a fun p st => match T.toDs p.1 with
  | [d, e] => .ok .nx ((st.set i (some (.imm d))).set j (some (.imm e)))
  | _ => .no
end G
set_option Elab.async false
set_option linter.all false
set_option maxRecDepth 100000
namespace G
open PySem PySem.Spec PyProof.Rows L2
end G
set_option Elab.async false
set_option linter.all false
set_option maxRecDepth 100000
namespace G
open PySem PySem.Spec PyProof.Rows L2
end G
set_option Elab.async false
set_option linter.all false
set_option maxRecDepth 100000
namespace G
open PySem PySem.Spec PyProof.Rows L2
end G
set_option Elab.async false
set_option linter.all false
set_option maxRecDepth 100000
namespace G
open PySem PySem.Spec PyProof.Rows L2
section
variable {Γ : Wh} {X : Cx} {W : L2.WX} {B H : Hp} {σ : L2.St} {ma mk mv : Sm T} {ra : Sa} {trs : List (TE × TE)}
theorem tAm.mono {Q Q' : List V → Hp → Prop} (h : tAm Γ W ra σ H Q) (k : ∀ vs H', Q vs H' → Q' vs H') : tAm Γ W ra σ H Q' := by
  obtain ⟨B, st, F, S, h⟩ := h
  exact ⟨B, st, F, S, h.mono (fun p st' q vs H' B' G F' z => k _ _ (q vs H' B' G F' z)) fun _ _ q => q⟩
theorem RpK.length : ∀ {kvs : List (Key × V)} {ps : List (D × D)}, RpK Γ B kvs ps → kvs.length = ps.length
  | _, _, .nil => rfl
  | _, _, @RpK.cons _ _ _ _ _ _ _ _ rs => by simp [RpK.length rs]
end
end G
set_option Elab.async false
set_option linter.all false
set_option maxRecDepth 100000
namespace G
open PySem PySem.Spec PyProof.Rows L2
section
variable {Γ : Wh} {X : Cx}
variable {B H B' H' B1 H1 B2 H2 : Hp} {v v0 y : V} {t t' x sub sub' res : T} {F F' G' F1 F2 G1 A : List Addr} {σ σ' : L2.St} {st st1 st2 st' : G.St} {W : L2.WX} {p : List Stp} {i : Nat} {fx : List Nat}
theorem RpU.getK {d : List Key} {v : V} : ∀ {vs : List (List Key × V)} {l : List (D × D)} {i : Nat}, RpU Γ B vs l → vs[i]? = some (d, v) → (l.map (·.1))[i]? = some (.tup (d.map keyD))
  | _, _, i, .nil, h => by simp at h
  | _, _, 0, .cons r rs, h => by
    simp at h
    obtain ⟨rfl, rfl⟩ := h
    rfl
  | _, _, i + 1, .cons r rs, h => by
    have := RpU.getK (i := i) rs (by simpa using h)
    simpa using this
theorem RpL.ofK : ∀ k : List Key, RpL Γ B (k.map kV) (k.map keyD)
  | [] => .nil
  | k :: ks => .cons (Rp.keyD k) (RpL.ofK ks)
theorem RpU.keysL : ∀ {vs : List (List Key × V)} {l : List (D × D)} {bs : List Addr}, RpU Γ B vs l → IsKeys H vs bs → (∀ b ∈ bs, B2 b = H b) → RpL Γ B2 (bs.map V.ref) (l.map (·.1))
  | _, _, _, .nil, .nil, _ => .nil
  | _, _, _, .cons r rs, .cons h t, k => .cons (.tup (by rw [k _ List.mem_cons_self]; exact h) (RpL.ofK _)) (RpU.keysL rs t fun b m => k b (List.mem_cons_of_mem _ m))
end
end G
set_option Elab.async false
set_option linter.all false
set_option maxRecDepth 100000
namespace G
open PySem PySem.Spec PyProof.Rows L2
end G
set_option Elab.async false
set_option linter.all false
set_option maxRecDepth 100000
set_option maxHeartbeats 1000000
namespace G
open PySem PySem.Spec PyProof.Rows L2
/-- done: the items as they are behind the body; what raises or breaks is not told -/
def loopO (j i : Nat) (body : Ss) : List T → List T → Ss
  | done, [] => fun st => .ok .nx (st.set j (some (.lst done)))
  | done, t :: r => fun st => match body (st.set i (some t)) with
    | .ok f st2 => match st2[i]? with
      | some (some t') => match f with
        | .nx => loopO j i body (done ++ [t']) r (st2.set i none)
        | .ct => loopO j i body (done ++ [t']) r (st2.set i none)
        | .rt (.imm (.bl b)) => .ok (.rt (.imm (.bl b))) (st2.set i none)
        | _ => .no
      | _ => .no
    | _ => .no
def sForO (j i : Nat) (body : Ss) : Ss := fun st => match st[j]? with
  | some (some (.lst l)) => if i < st.length then loopO j i body [] l (st.set j none) else .no
  | _ => .no
section
variable {Γ : Wh} {X : Cx}
variable {B H B' H' B1 H1 B2 H2 : Hp} {v v0 : V} {t t' x sub sub' res : T} {F F' G' F1 F2 G1 A : List Addr} {σ σ' : L2.St} {st st1 st2 st' : G.St} {W : L2.WX} {fx : List Nat} {i j : Nat} {body : Ss}
theorem set_mid {α : Type} (done : List α) (t t' : α) (r : List α) : (done ++ t :: r).set done.length t' = done ++ [t'] ++ r := by
  rw [List.set_append_right _ _ (Nat.le_refl _)]
  simp
/-- between two turns: the list at a, its items us, the trees l -/
structure OSt (Γ : Wh) (B H : Hp) (a : Addr) (us : List V) (l : List T) (Fl : List Addr) (σ : L2.St) (st : G.St) (F : List Addr) (j : Nat) : Prop where
  s : Stt Γ B H σ st F
  h : H a = some (.lst us)
  o : OwL Γ B H us l Fl
  as : Aside B H (a :: Fl) F
  j : σ[j]? = some (some (.ref a))
/-- an item is taken -/
theorem OSt.take {a : Addr} {us : List V} {done r : List T} {Fl : List Addr} (s : OSt Γ B H a us (done ++ t :: r) Fl σ st F j) (hij : i ≠ j) (hi : i < st.length) : ∃ y K1 Gt K2 Fs, us[done.length]? = some y ∧ Fl = K1 ++ (Gt ++ K2) ∧
    Stt Γ B H (σ.set i (some y)) (st.set i (some t)) Fs ∧ (∀ b ∈ Fs, b ∈ Gt ∨ b ∈ F) ∧ Aside B H (a :: (K1 ++ K2)) Fs ∧
    ∀ B' H', Sub B B' → At H H' (K1 ++ K2) → ∀ x Gx, Ow Γ B' H' y x Gx → OwL Γ B' H' us (done ++ [x] ++ r) (K1 ++ (Gx ++ K2)) := by
  obtain ⟨y, t0, K1, Gt, K2, hy, ht, rfl, oy, k⟩ := s.o.open (j := done.length) (by simp)
  have et : t0 = t := by simpa using ht.symm
  subst et
  obtain ⟨A, Gi, C, rfl, _, q⟩ := s.s.sl.open hi
  have q1 := (q B H (Sub.refl B) at_self).1 y t0 Gt oy
  have n := nd_app.mp s.as.nd
  have n1 := List.nodup_cons.mp n.1
  have n2 := nd_app.mp (nd_mid.mp n1.2)
  have n3 := nd_app.mp (nd_mid.mp n.2.1)
  have sub : ∀ b ∈ A ++ C, b ∈ A ++ (Gi ++ C) := fun b m => mem3.mpr (.inr m)
  have nF : (A ++ (Gt ++ C)).Nodup := nd_mid.mpr (nd_app.mpr ⟨n2.1, n3.2.1, fun b m z => n.2.2 b (List.mem_cons_of_mem _ (mem3.mpr (.inl m))) (sub b z)⟩)
  have fF : ∀ b ∈ A ++ (Gt ++ C), b ∈ Gt ∨ b ∈ A ++ C := fun b m => mem3.mp m
  refine ⟨y, K1, Gt, K2, A ++ (Gt ++ C), hy, rfl, ⟨s.s.ex, q1, nF, fun b m => ?_⟩, fun b m => (fF b m).imp id (sub b), ⟨nd_app.mpr ⟨?_, nF, fun b m z => ?_⟩, fun b m => ?_, fun b m => ?_⟩, fun B' H' e k2 x Gx ox => ?_⟩
  · rcases fF b m with z | z
    · exact s.as.fr b (List.mem_cons_of_mem _ (mem3.mpr (.inl z)))
    · exact s.s.fr b (sub b z)
  · exact List.nodup_cons.mpr ⟨fun z => n1.1 (mem3.mpr (.inr z)), n2.2.1⟩
  · rcases fF b z with z | z
    · rcases List.mem_cons.mp m with rfl | m
      · exact n1.1 (mem3.mpr (.inl z))
      · exact n2.2.2 b z m
    · refine n.2.2 b ?_ (sub b z)
      rcases List.mem_cons.mp m with rfl | m
      · exact List.mem_cons_self
      · exact List.mem_cons_of_mem _ (mem3.mpr (.inr m))
  · refine s.as.fr b ?_
    rcases List.mem_cons.mp m with rfl | m
    · exact List.mem_cons_self
    · exact List.mem_cons_of_mem _ (mem3.mpr (.inr m))
  · refine s.as.th b ?_
    rcases List.mem_cons.mp m with rfl | m
    · exact List.mem_cons_self
    · exact List.mem_cons_of_mem _ (mem3.mpr (.inr m))
  · have o2 := k B' H' e k2 y x Gx ox
    rw [set_self hy, set_mid] at o2
    exact o2
/-- and laid back, as the body left it -/
theorem OSt.back {a : Addr} {us : List V} {done r : List T} {K1 K2 Fs : List Addr} {y : V} (ha : H a = some (.lst us)) (as : Aside B H (a :: (K1 ++ K2)) Fs) (hij : i ≠ j) (hj : σ[j]? = some (some (.ref a)))
    (k : ∀ B' H', Sub B B' → At H H' (K1 ++ K2) → ∀ x Gx, Ow Γ B' H' y x Gx → OwL Γ B' H' us (done ++ [x] ++ r) (K1 ++ (Gx ++ K2)))
    {σ3 : L2.St} {st3 : G.St} {H3 B3 : Hp} {F3 : List Addr} (p : PostT Γ B H Fs (i :: j :: fx) (σ.set i (some y)) σ3 st3 H3 B3 F3) (hi : i < σ.length) (e : st3[i]? = some (some t')) :
    ∃ Fl F4, OSt Γ B3 H3 a us (done ++ [t'] ++ r) Fl σ3 (st3.set i none) F4 j ∧ ∀ b ∈ (a :: Fl) ++ F4, b ∈ a :: (K1 ++ K2) ∨ b ∈ F3 := by
  have hy : σ3[i]? = some (some y) := by rw [p.k i (by simp), List.getElem?_set_self hi]
  obtain ⟨A, Gi, C, rfl, g, q⟩ := p.s.sl.open (lt_of_some e)
  obtain ⟨v', hv', o'⟩ := g t' e
  rw [hy] at hv'
  cases hv'
  have q1 := (q B3 H3 (Sub.refl B3) at_self).2 (some y)
  rw [set_self hy] at q1
  obtain ⟨as3, at3⟩ := as.over p.u p.s.nd
  have n := nd_app.mp as3.nd
  have n1 := List.nodup_cons.mp n.1
  have n3 := nd_app.mp (nd_mid.mp n.2.1)
  have sub : ∀ b ∈ A ++ C, b ∈ A ++ (Gi ++ C) := fun b m => mem3.mpr (.inr m)
  have subG : ∀ b ∈ Gi, b ∈ A ++ (Gi ++ C) := fun b m => mem3.mpr (.inl m)
  have at4 : At H H3 (K1 ++ K2) := at3.t
  refine ⟨K1 ++ (Gi ++ K2), A ++ C, ⟨⟨p.s.ex, q1, n3.2.1, fun b m => p.s.fr b (sub b m)⟩, at3.h ha, k B3 H3 p.u.b at4 t' Gi o', ⟨nd_app.mpr ⟨?_, n3.2.1, fun b m z => ?_⟩, fun b m => ?_, fun b m => ?_⟩, ?_⟩, fun b m => ?_⟩
  · refine List.nodup_cons.mpr ⟨fun z => ?_, nd_mid.mpr (nd_app.mpr ⟨n3.1, n1.2, fun b m z => n.2.2 b (List.mem_cons_of_mem _ z) (subG b m)⟩)⟩
    rcases mem3.mp z with z | z
    · exact n.2.2 a List.mem_cons_self (subG a z)
    · exact n1.1 z
  · rcases List.mem_cons.mp m with rfl | m
    · exact n.2.2 _ List.mem_cons_self (sub _ z)
    · rcases mem3.mp m with m | m
      · exact n3.2.2 b m z
      · exact n.2.2 b (List.mem_cons_of_mem _ m) (sub b z)
  · rcases List.mem_cons.mp m with rfl | m
    · exact as3.fr _ List.mem_cons_self
    · rcases mem3.mp m with m | m
      · exact p.s.fr b (subG b m)
      · exact as3.fr b (List.mem_cons_of_mem _ m)
  · rcases List.mem_cons.mp m with rfl | m
    · exact as3.th _ List.mem_cons_self
    · rcases mem3.mp m with m | m
      · exact p.s.there b (subG b m)
      · exact as3.th b (List.mem_cons_of_mem _ m)
  · rw [p.k j (by simp), List.getElem?_set_ne hij]
    exact hj
  · rcases List.mem_append.mp m with m | m
    · rcases List.mem_cons.mp m with rfl | m
      · exact .inl List.mem_cons_self
      · rcases mem3.mp m with m | m
        · exact .inr (subG b m)
        · exact .inl (List.mem_cons_of_mem _ m)
    · exact .inr (sub b m)
end
end G
set_option Elab.async false
set_option linter.all false
set_option maxRecDepth 100000
set_option maxHeartbeats 1000000
namespace PySem.W
open PySem PySem.Spec PySem.Calls PyProof.Rows
end PySem.W
namespace G
open PySem PySem.Spec PyProof.Rows L2
end G
set_option Elab.async false
set_option linter.all false
set_option maxRecDepth 100000
set_option maxHeartbeats 1000000
namespace G
open PySem PySem.Spec PyProof.Rows L2
mutual
/-- tuples of plain values -/
def D.tupo : D → Bool
  | .non => true
  | .bl _ => true
  | .int _ => true
  | .str _ => true
  | .tup l => D.tupoL l
  | _ => false
def D.tupoL : List D → Bool
  | [] => true
  | d :: r => d.tupo && D.tupoL r
end
mutual
def T.wide : T → Bool
  | .imm d => d.tupo
  | .lst l => T.wideL l
  | .dct false l => T.wideK l
  | .obj _ l => T.wideF l
  | _ => false
def T.wideL : List T → Bool
  | [] => true
  | t :: r => t.wide && T.wideL r
def T.wideK : List (D × T) → Bool
  | [] => true
  | (_, t) :: r => t.wide && T.wideK r
def T.wideF : List (Str × T) → Bool
  | [] => true
  | (_, t) :: r => t.wide && T.wideF r
end
def sViewW (m : Sm T) : Sm T := fun st => match m (frzSt st) with
  | .ok t _ => if t.wide then .ok t st else .no
  | _ => .no
section
variable {Γ : Wh} {X : Cx} {B H B' H' B2 : Hp} {σ : L2.St} {W : L2.WX} {st : G.St} {F G' : List Addr}
theorem band {a b : Bool} (h : (a && b) = true) : a = true ∧ b = true := by
  cases a <;> cases b <;> simp_all
mutual
theorem Rp.tupo (k : ∀ a vs, B a = some (.tup vs) → B2 a = some (.tup vs)) : ∀ {v : V} {d : D}, Rp Γ B v d → d.tupo = true → Rp Γ B2 v d
  | _, _, .non, _ => .non
  | _, _, .bl b, _ => .bl b
  | _, _, .int b, _ => .int b
  | _, _, .str b, _ => .str b
  | _, _, .tup h r, q => .tup (k _ _ h) (RpL.tupo k r q)
  | _, _, .lst _ _, q => nomatch q
  | _, _, .rol _ _, q => nomatch q
  | _, _, .dK _ _ _, q => nomatch q
  | _, _, .dT _ _ _, q => nomatch q
  | _, _, .obj _ _, q => nomatch q
  | _, _, .exn _ _ _, q => nomatch q
theorem RpL.tupo (k : ∀ a vs, B a = some (.tup vs) → B2 a = some (.tup vs)) : ∀ {v : List V} {d : List D}, RpL Γ B v d → D.tupoL d = true → RpL Γ B2 v d
  | _, _, .nil, _ => .nil
  | _, _, .cons h r, q => .cons (Rp.tupo k h (band q).1) (RpL.tupo k r (band q).2)
end
mutual
theorem Ow.wide (k : ∀ a vs, B a = some (.tup vs) → B2 a = some (.tup vs)) : ∀ {v : V} {t : T} {G' : List Addr}, Ow Γ B H v t G' → t.wide = true → Ow Γ B2 H v t G'
  | _, _, _, .imm r, q => .imm (r.tupo k q)
  | _, _, _, .lst h r, q => .lst h (OwL.wide k r q)
  | _, _, _, .dK h n r, q => .dK h n (OwK.wide k r q)
  | _, _, _, .dT _ _ _, q => nomatch q
  | _, _, _, .obj h i r, q => .obj h i (OwF.wide k r q)
  | _, _, _, .tup _ _, q => nomatch q
theorem OwL.wide (k : ∀ a vs, B a = some (.tup vs) → B2 a = some (.tup vs)) : ∀ {v : List V} {t : List T} {G' : List Addr}, OwL Γ B H v t G' → T.wideL t = true → OwL Γ B2 H v t G'
  | _, _, _, .nil, _ => .nil
  | _, _, _, .cons o r, q => .cons (Ow.wide k o (band q).1) (OwL.wide k r (band q).2)
theorem OwK.wide (k : ∀ a vs, B a = some (.tup vs) → B2 a = some (.tup vs)) : ∀ {v : List (Key × V)} {t : List (D × T)} {G' : List Addr}, OwK Γ B H v t G' → T.wideK t = true → OwK Γ B2 H v t G'
  | _, _, _, .nil, _ => .nil
  | _, _, _, .cons o r, q => .cons (Ow.wide k o (band q).1) (OwK.wide k r (band q).2)
theorem OwF.wide (k : ∀ a vs, B a = some (.tup vs) → B2 a = some (.tup vs)) : ∀ {v : List (Str × V)} {t : List (Str × T)} {G' : List Addr}, OwF Γ B H v t G' → T.wideF t = true → OwF Γ B2 H v t G'
  | _, _, _, .nil, _ => .nil
  | _, _, _, .cons o r, q => .cons (Ow.wide k o (band q).1) (OwF.wide k r (band q).2)
end
mutual
/-- what is owned is no tuple -/
theorem Ow.notup : ∀ {v : V} {t : T} {G' : List Addr}, Ow Γ B H v t G' → ∀ a ∈ G', ∀ vs, H a ≠ some (.tup vs)
  | _, _, _, .imm r, a, m, vs, e => nomatch m
  | _, _, _, .lst h r, a, m, vs, e => by
    rcases List.mem_cons.mp m with rfl | m
    · rw [h] at e; cases e
    · exact OwL.notup r a m vs e
  | _, _, _, .dK h n r, a, m, vs, e => by
    rcases List.mem_cons.mp m with rfl | m
    · rw [h] at e; cases e
    · exact OwK.notup r a m vs e
  | _, _, _, .dT h n r, a, m, vs, e => by
    rcases List.mem_cons.mp m with rfl | m
    · rw [h] at e; cases e
    · exact OwU.notup r a m vs e
  | _, _, _, .obj h i r, a, m, vs, e => by
    rcases List.mem_cons.mp m with rfl | m
    · rw [h] at e; cases e
    · rcases List.mem_cons.mp m with rfl | m
      · rw [i] at e; cases e
      · exact OwF.notup r a m vs e
  | _, _, _, .tup h r, a, m, vs, e => OwL.notup r a m vs e
theorem OwL.notup : ∀ {v : List V} {t : List T} {G' : List Addr}, OwL Γ B H v t G' → ∀ a ∈ G', ∀ vs, H a ≠ some (.tup vs)
  | _, _, _, .nil, a, m, vs, e => nomatch m
  | _, _, _, .cons o r, a, m, vs, e => by
    rcases List.mem_append.mp m with m | m
    · exact Ow.notup o a m vs e
    · exact OwL.notup r a m vs e
theorem OwK.notup : ∀ {v : List (Key × V)} {t : List (D × T)} {G' : List Addr}, OwK Γ B H v t G' → ∀ a ∈ G', ∀ vs, H a ≠ some (.tup vs)
  | _, _, _, .nil, a, m, vs, e => nomatch m
  | _, _, _, .cons o r, a, m, vs, e => by
    rcases List.mem_append.mp m with m | m
    · exact Ow.notup o a m vs e
    · exact OwK.notup r a m vs e
theorem OwU.notup : ∀ {v : List (List Key × V)} {t : List (D × T)} {G' : List Addr}, OwU Γ B H v t G' → ∀ a ∈ G', ∀ vs, H a ≠ some (.tup vs)
  | _, _, _, .nil, a, m, vs, e => nomatch m
  | _, _, _, .cons o r, a, m, vs, e => by
    rcases List.mem_append.mp m with m | m
    · exact Ow.notup o a m vs e
    · exact OwU.notup r a m vs e
theorem OwF.notup : ∀ {v : List (Str × V)} {t : List (Str × T)} {G' : List Addr}, OwF Γ B H v t G' → ∀ a ∈ G', ∀ vs, H a ≠ some (.tup vs)
  | _, _, _, .nil, a, m, vs, e => nomatch m
  | _, _, _, .cons o r, a, m, vs, e => by
    rcases List.mem_append.mp m with m | m
    · exact Ow.notup o a m vs e
    · exact OwF.notup r a m vs e
end
theorem Sl.notup (h : Sl Γ B H σ st F) : ∀ a ∈ F, ∀ vs, H a ≠ some (.tup vs) := by
  induction h with
  | nil => exact fun a m => nomatch m
  | skip _ ih => exact ih
  | cons o _ ih =>
    intro a m vs e
    rcases List.mem_append.mp m with m | m
    · exact o.notup a m vs e
    · exact ih a m vs e
/-- the heap of data behind a view: without what is owned -/
def thawB (B1 : Hp) (F : List Addr) : Hp := fun a => if a ∈ F then none else B1 a
theorem thawB_some {B1 : Hp} {a : Addr} {o : HO} (h : thawB B1 F a = some o) : a ∉ F ∧ B1 a = some o := by
  unfold thawB at h
  split at h
  · cases h
  · rename_i m; exact ⟨m, h⟩
theorem thawB_of {B1 : Hp} {a : Addr} {o : HO} (h : B1 a = some o) (m : a ∉ F) : thawB B1 F a = some o := by
  unfold thawB
  rw [if_neg m]; exact h
end
end G
set_option Elab.async false
set_option linter.all false
set_option maxRecDepth 100000
set_option maxHeartbeats 1000000
namespace G
open PySem PySem.Spec PyProof.Rows L2
section
variable {Γ : Wh} {X : Cx} {B H B' H' B1 H1 : Hp} {σ : L2.St} {W : L2.WX} {st st1 : G.St} {F F1 G' : List Addr}
/-- what came back of a view, behind it -/
theorem PostA.still {v0 : V} {t y : T} {G0 : List Addr} {F' : List Addr} {s : G.St} {vs : List V} {H2 B2 : Hp} {G2 F2 : List Addr} (S : Stt Γ B1 H1 σ st1 F1) (o : Ow Γ B1 H1 v0 t G0) (as : Aside B1 H1 G0 F1) (hF : ∀ a ∈ F', a ∈ F1 ∨ a ∈ G0)
    (pa : PostA Γ (frzB B1 H1 F') H1 [] σ [y] [none] s vs H2 B2 G2 F2) (k : y.wide = true) : PostA Γ B1 H1 F1 σ [y] [none] st1 vs H2 (thawB B2 (F1 ++ G0)) G2 F1 := by
  have gn : ∀ a ∈ G2, H1 a = none := fun a m => by
    rcases pa.u.new a (List.mem_append_left _ m) with q | q
    · exact nomatch q
    · exact q
  have own : ∀ a ∈ F1 ++ G0, B1 a = none ∧ H1 a ≠ none ∧ ∀ vs, H1 a ≠ some (.tup vs) := fun a m => by
    rcases List.mem_append.mp m with m | m
    · exact ⟨S.fr a m, (S.there a m).ne, S.sl.notup a m⟩
    · exact ⟨as.fr a m, (as.th a m).ne, o.notup a m⟩
  have hb : ∀ a o, B1 a = some o → a ∉ F1 ++ G0 := fun a o h m => by rw [(own a m).1] at h; cases h
  have sb : Sub B1 (thawB B2 (F1 ++ G0)) := fun a o h => thawB_of (pa.u.b a o (frzB_sub S.ex a o h)) (hb a o h)
  have keep : ∀ a o, H1 a = some o → H2 a = some o := fun a o h => pa.u.keep a o h fun m => (nomatch m)
  have hk : ∀ a vs, B2 a = some (.tup vs) → thawB B2 (F1 ++ G0) a = some (.tup vs) := fun a vs h => by
    refine thawB_of h fun m => ?_
    obtain ⟨o', ho⟩ := Option.ne_none_iff_exists'.mp (own a m).2.1
    have h2 := keep a o' ho
    have h3 := pa.s.ex a _ h
    rw [h2] at h3
    cases h3
    exact (own a m).2.2 vs ho
  have ol : OwL Γ (thawB B2 (F1 ++ G0)) H2 vs [y] G2 := pa.o.wide hk (by show (y.wide && true) = true; rw [k]; rfl)
  refine ⟨⟨fun a o h => pa.s.ex a o (thawB_some h).2, S.sl.at sb fun a _ o h => keep a o h, S.nd, fun a m => ?_⟩, ol, ?_, ?_, ?_, pa.l⟩
  · unfold thawB; rw [if_pos (List.mem_append_left _ m)]
  · exact nd_app.mpr ⟨(nd_app.mp pa.nd).1, S.nd, fun a m z => (S.there a z).ne (gn a m)⟩
  · intro a m
    have := pa.fr a m
    unfold thawB
    split
    · rfl
    · exact this
  · refine ⟨sb, fun a o h _ => keep a o h, pa.u.dom, fun a m => (List.mem_append.mp m).elim (fun z => .inr (gn a z)) .inl, fun a o h => ?_⟩
    obtain ⟨m, h⟩ := thawB_some h
    rcases pa.u.frz a o h with q | q | q
    · unfold frzB at q
      by_cases mf : a ∈ F'
      · exact absurd (List.mem_append.mpr (hF a mf)) m
      · rw [if_neg mf] at q; exact .inl q
    · exact nomatch q
    · exact .inr (.inr q)
variable {i : Nat} {r : Sk} {e : Sm T} {rr : V → List V → Hp → VK → Prop} {f : List T → List T → Option (List T × T)}
end
end G
set_option Elab.async false
set_option linter.all false
set_option maxRecDepth 100000
set_option maxHeartbeats 1000000
namespace G
open PySem PySem.Spec PyProof.Rows L2
section
variable {Γ : Wh} {X : Cx} {B H B' H' B1 H1 : Hp} {σ : L2.St} {W : L2.WX} {st st1 : G.St} {F F1 G' : List Addr}
theorem OwL.ins {x : V} {sub : T} {F : List Addr} (o : Ow Γ B H x sub F) : ∀ (j : Nat) {xs : List V} {ts : List T} {G : List Addr}, OwL Γ B H xs ts G → ∃ G1 G2, G = G1 ++ G2 ∧ OwL Γ B H (xs.take j ++ x :: xs.drop j) (ts.take j ++ sub :: ts.drop j) (G1 ++ (F ++ G2))
  | 0, xs, ts, G, h => ⟨[], G, rfl, by have := OwL.cons o h; simpa using this⟩
  | j + 1, _, _, _, .nil => ⟨[], [], rfl, by have := OwL.cons o (OwL.nil (Γ := Γ) (B := B) (H := H)); simpa using this⟩
  | j + 1, _, _, _, @OwL.cons _ _ _ v t vs l Fv Fl h r => by
    obtain ⟨G1, G2, rfl, q⟩ := OwL.ins o j r
    refine ⟨Fv ++ G1, G2, by simp, ?_⟩
    have := OwL.cons h q
    simpa using this
end
end G
set_option Elab.async false
set_option linter.all false
set_option maxRecDepth 100000
set_option maxHeartbeats 1000000
namespace G
open PySem PySem.Spec PyProof.Rows L2
end G
set_option Elab.async false
set_option linter.all false
set_option maxRecDepth 100000
set_option maxHeartbeats 1000000
namespace G
open PySem PySem.Spec PyProof.Rows L2
def sViewX (m : Sm T) : Sm T := fun st => match m (frzSt st) with
  | .ok t _ => if t.scal then .ok t st else .no
  | .ex x _ => if x.fs.isEmpty then .ex x st else .no
  | .no => .no
end G
set_option Elab.async false
set_option linter.all false
set_option maxRecDepth 100000
set_option maxHeartbeats 1000000
namespace G
open PySem PySem.Spec PyProof.Rows L2
def sTupO (a : Sa) : Sm T := Sm.bind a fun p st => if p.1.length ≤ 1000 then .ok (.tup p.1) st else .no
end G
set_option Elab.async false
set_option linter.all false
set_option maxRecDepth 100000
set_option maxHeartbeats 1000000
namespace PySem.SeqAt
open MeetsSeq MeetsSeq2 MeetsSeq3 SeqRoads2
end PySem.SeqAt
namespace G
open PySem PySem.Spec PyProof.Rows L2
end G
set_option Elab.async false
set_option linter.all false
set_option maxRecDepth 100000
set_option maxHeartbeats 1000000
namespace G
open PySem PySem.Spec PyProof.Rows L2
end G
set_option Elab.async false
set_option linter.all false
set_option maxRecDepth 100000
set_option maxHeartbeats 1000000
namespace G
open PySem PySem.Spec PyProof.Rows L2
end G
set_option Elab.async false
set_option linter.all false
set_option maxRecDepth 100000
set_option maxHeartbeats 1000000
namespace L2
open PySem PySem.Spec PyProof.Rows
end L2
namespace G
open PySem PySem.Spec PyProof.Rows L2
def fVals : D → Option T
  | .dct false l => some (.lst (ims (l.map (·.2))))
  | _ => none
end G
set_option Elab.async false
set_option linter.all false
set_option maxRecDepth 100000
set_option maxHeartbeats 1000000
namespace G
open PySem PySem.Spec PyProof.Rows L2
def popV1 : T → Sm T := fun t st => match t with
  | .lst l => match l[l.length - 1]? with
    | some (.imm d) => .ok (.imm d) st
    | _ => .no
  | _ => .no
def sPopV (m : Sm T) : Sm T := m.bind popV1
end G
set_option Elab.async false
set_option linter.all false
set_option maxRecDepth 100000
set_option maxHeartbeats 1000000
namespace G
open PySem PySem.Spec PyProof.Rows L2
def loopM (i : Nat) (body : Ss) : List T → Ss
  | [] => fun st => .ok .nx st
  | t :: r => fun st => (body (st.set i (some t))).bind fun f st2 => match f with
    | .nx => loopM i body r st2
    | .ct => loopM i body r st2
    | .bk => .ok .nx st2
    | .rt t => .ok (.rt t) st2
def sForM (i : Nat) (m : Sm T) (body : Ss) : Ss := Sm.bind m fun t st => match t with
  | .lst l => if i < st.length then loopM i body l st else .no
  | _ => .no
section
variable {Γ : Wh} {X : Cx}
variable {B H B' H' B1 H1 B2 H2 : Hp} {v v0 : V} {t t' x sub sub' res : T} {F F' G' F1 F2 G1 A : List Addr} {σ σ' : L2.St} {st st1 st2 st' : G.St} {W : L2.WX} {fx : List Nat} {i j : Nat} {body : Ss} {m : Sm T}
/-- between two turns: the list at a, its items us; vs the ones to come, the trees l -/
structure MSt (Γ : Wh) (B H : Hp) (a : Addr) (us vs : List V) (l : List T) (Fl : List Addr) (σ : L2.St) (st : G.St) (F : List Addr) : Prop where
  s : Stt Γ B H σ st F
  h : H a = some (.lst us)
  o : OwL Γ B H vs l Fl
  as : Aside B H (a :: Fl) F
theorem MSt.take {a : Addr} {us vs : List V} {r : List T} {Fl : List Addr} (s : MSt Γ B H a us vs (t :: r) Fl σ st F) (hi : i < st.length) : ∃ y vs2 Gt K2 Fs, vs = y :: vs2 ∧ Fl = Gt ++ K2 ∧
    Stt Γ B H (σ.set i (some y)) (st.set i (some t)) Fs ∧ (∀ b ∈ Fs, b ∈ Gt ∨ b ∈ F) ∧ Aside B H (a :: K2) Fs ∧ OwL Γ B H vs2 r K2 := by
  obtain ⟨ss, hh, oo, aa⟩ := s
  cases oo with
  | cons oy o2 =>
  rename_i y vs2 Gt K2
  obtain ⟨A, Gi, C, rfl, _, q⟩ := ss.sl.open hi
  have q1 := (q B H (Sub.refl B) at_self).1 y t Gt oy
  have n := nd_app.mp aa.nd
  have n1 := List.nodup_cons.mp n.1
  have n2 := nd_app.mp n1.2
  have n3 := nd_app.mp (nd_mid.mp n.2.1)
  have sub : ∀ b ∈ A ++ C, b ∈ A ++ (Gi ++ C) := fun b m => mem3.mpr (.inr m)
  have nF : (A ++ (Gt ++ C)).Nodup := nd_mid.mpr (nd_app.mpr ⟨n2.1, n3.2.1, fun b m z => n.2.2 b (List.mem_cons_of_mem _ (List.mem_append_left _ m)) (sub b z)⟩)
  have fF : ∀ b ∈ A ++ (Gt ++ C), b ∈ Gt ∨ b ∈ A ++ C := fun b m => mem3.mp m
  refine ⟨y, vs2, Gt, K2, A ++ (Gt ++ C), rfl, rfl, ⟨ss.ex, q1, nF, fun b m => ?_⟩, fun b m => (fF b m).imp id (sub b), ⟨nd_app.mpr ⟨?_, nF, fun b m z => ?_⟩, fun b m => ?_, fun b m => ?_⟩, o2⟩
  · rcases fF b m with z | z
    · exact aa.fr b (List.mem_cons_of_mem _ (List.mem_append_left _ z))
    · exact ss.fr b (sub b z)
  · exact List.nodup_cons.mpr ⟨fun z => n1.1 (List.mem_append_right _ z), n2.2.1⟩
  · rcases fF b z with z | z
    · rcases List.mem_cons.mp m with rfl | m
      · exact n1.1 (List.mem_append_left _ z)
      · exact n2.2.2 b z m
    · refine n.2.2 b ?_ (sub b z)
      rcases List.mem_cons.mp m with rfl | m
      · exact List.mem_cons_self
      · exact List.mem_cons_of_mem _ (List.mem_append_right _ m)
  · refine aa.fr b ?_
    rcases List.mem_cons.mp m with rfl | m
    · exact List.mem_cons_self
    · exact List.mem_cons_of_mem _ (List.mem_append_right _ m)
  · refine aa.th b ?_
    rcases List.mem_cons.mp m with rfl | m
    · exact List.mem_cons_self
    · exact List.mem_cons_of_mem _ (List.mem_append_right _ m)
end
end G
set_option Elab.async false
set_option linter.all false
set_option maxRecDepth 100000
namespace G
open PySem PySem.Spec PyProof.Rows L2
def sForT (j : Nat) (g : Pat) (body : Ss) : Ss := fun st => match st[j]? with
  | some (some t) => match t.toD with
    | .dct true kvs => loopFor g (noxS body) (kvs.map (·.1)) (st.set j (some (.imm t.toD)))
    | _ => .no
  | _ => .no
end G
set_option Elab.async false
set_option linter.all false
set_option maxRecDepth 100000
set_option maxHeartbeats 1000000
namespace G
open PySem PySem.Spec PyProof.Rows L2
end G
set_option Elab.async false
set_option linter.all false
set_option maxRecDepth 100000
set_option maxHeartbeats 1000000
namespace G
open PySem PySem.Spec PyProof.Rows L2
/-- what the written part must say of an exception's class -/
structure Xk (K : PySem.W.Frag) (D : Addr) : Prop where
  cl : PySem.W.isClsIn K D = true
  ga : PySem.W.findIn K (.ref D) "__getattribute__" = some (some (.builtin "BaseException.__getattribute__"))
  gt : PySem.W.findIn K (.ref D) "__getattr__" = some none
  sb : PySem.W.subIn K (.ref D) (.type "BaseException") = some true
  hd : PySem.W.hasDictIn K D = true
  ca : PySem.W.findIn K (.ref D) "__class__" = some (some (.builtin "object.__class__"))
  cn : PySem.W.specialIn K (.builtin "object.__class__") "__get__" = some (some (.builtin "getset_descriptor.__get__"))
  ck : PySem.W.takesIn K (.builtin "object.__class__") = some true
  cm : PySem.W.mroIn K D (.type "object") = some true
theorem Xk.find {K : PySem.W.Frag} {D : Addr} (k : Xk K D) (od : Option Obj) : PySem.W.findObj K D od "__class__" = some (.bind (.builtin "getset_descriptor.__get__") (.builtin "object.__class__")) := by
  obtain ⟨cd, hc⟩ := Option.isSome_iff_exists.mp (show (PySem.W.clsIn K D).isSome = true from k.cl)
  unfold PySem.W.findObj
  rw [hc, Option.bind_some, k.ca, Option.bind_some]
  simp [k.cn, k.ck]
/-- the classes of errors by number: MillError 0, its own classes from 1 on, ValueError 99 -/
def xsub (c c' : Nat) : Bool := decide (c = c') || decide (c' = 0) || decide (c' = 99)
def fIsx (l : List Nat) (c' : Nat) : D → Option T
  | .non => some1 (.bl false)
  | .exn c _ => if c ∈ l then some1 (.bl (xsub c c')) else none
  | _ => none
def fFldX (l : List Nat) (f : Str) : D → Option T
  | .exn c fs => if c ∈ l then (fFind fs f).map T.imm else none
  | _ => none
end G
set_option Elab.async false
set_option linter.all false
set_option maxRecDepth 100000
set_option maxHeartbeats 1000000
namespace G
open PySem PySem.Spec PyProof.Rows L2
def sRaise (c : Nat) : Ss := fun st => .ex ⟨c, []⟩ st
/-- try: m except H as e: x = e (slot i of e, j of x); l: the classes that may come -/
def sTryK (l : List Nat) (h i j : Nat) (m : Ss) : Ss := fun st => match m st with
  | .ex x st' => if x.cls ∈ l then (if xsub x.cls h then .ok .nx ((st'.set j (some (.imm (.exn x.cls x.fs)))).set i none) else .ex x st') else .no
  | r => r
section
variable {Γ : Wh}
variable {B H B' H' B1 H1 B2 H2 : Hp} {σ σ1 σ2 : L2.St} {st st1 st2 : G.St} {F F' F1 F2 F3 F4 G1 G2 : List Addr} {t t1 t2 : T} {v v1 v2 : V} {W : L2.WX} {fx : List Nat}
variable {X : Cx}
/-- what the written part says of a class that is raised -/
structure Xr (K : PySem.W.Frag) (C : Addr) : Prop where
  q : PySem.W.excIn K C [.type "ValueError", .type "Exception", .type "BaseException", .type "object"] "ValueError.__new__" = true
  kp : PySem.W.keepIn K (.ref C) = true
  sb : PySem.W.subIn K (.ref C) (.type "BaseException") = some true
  ty : PySem.W.typeIn K (.ref C) = some (.type "type")
theorem gs_raise {x m : Str} {c j : Nat} {p p2 pos pos' : Pos} (hc : X.calm = true) (tk : Takes X W) (k : Xr X.K (Γ.xc c)) (hm : X.mg x = some (.ref (Γ.xc c))) (hg : Gl X x := by rfl) (hdb : (x == ("__debug__" : Str)) = false := by decide) :
    PS X (.Raise (some (.Call (.Name x p) [.Constant (.str m) j p2] [] pos)) none pos') (tSs Γ W fx (sRaise c)) :=
  PS.weak (ps_raise hc tk (pmk_own PySem.F.excBase_ValueError k.q hm k.kp (raises_own k.sb k.ty) hg hdb)) fun D σ H h => by
    obtain ⟨B, st, F, S, h⟩ := h
    exact h σ _ none H B F (PostT.refl S) ⟨rfl, rfl⟩
end
end G
set_option Elab.async false
set_option linter.all false
set_option maxRecDepth 100000
set_option maxHeartbeats 1000000
namespace G
open PySem PySem.Spec PyProof.Rows L2
/-- of the class at CM: ValueError.__init__ is what its __init__ is -/
structure Xm (K : PySem.W.Frag) (CM : Addr) : Prop where
  ga : PySem.W.specialIn K (.ref CM) "__getattribute__" = some (some (.builtin "type.__getattribute__"))
  rd : PySem.W.readsIn K CM (.type "type") = true
  ini : PySem.W.findCls K (.ref CM) (.type "type") "__init__" = some (.val (.builtin "ValueError.__init__"))
section
variable {X : Cx} {e : Expr} {es : List Expr} {ta : TA} {M : Str} {CM : Addr} {p1 p2 pos : Pos}
theorem pe_minit {pl : Sem Bool} (k : Xm X.K CM) (hm : X.mg M = some (.ref CM)) (ha : PA X (e :: es) ta)
    (hc : eval (.Call (.Attribute (.Name M p1) "__init__" p2) (e :: es) [] pos) X.env = (do
      let ov ← eval (.Name M p1) X.env; standAt p2.atName; let (f, first) ← holding [ov] (getMethod ov "__init__" pl)
      callWith pos f first (backTo pos (starEach (e :: es) X.env)) (backToKw pos (keywordEach [] X.env))) := by rfl)
    (hg : Gl X M := by rfl) (hdb : (M == ("__debug__" : Str)) = false := by decide)
    (he : starEach (e :: es) X.env = (false, eval e X.env) :: starEach es X.env := by rfl) (hpl : (backTo pos (starEach es X.env)).any (·.1) = false := by rfl) : PE X (.Call (.Attribute (.Name M p1) "__init__" p2) (e :: es) [] pos) (tVeI X.K ta) := by
  refine ⟨fun pins s σ H Q I h => PySem.W.methodCall_KW (ld_glob I hg hm ?_ hdb) hc⟩
  refine PySem.W.method_cls I.kIn k.ga (PySem.W.cls_value I.kIn k.rd k.ini rfl (PyProof.Rows.callWith_method1 (thn (ha.run pos pins _ σ H _ (I.tok _) h) fun us s1 ih => ?_) he hpl))
  obtain ⟨vs, H1, I1, r1, a, C, ws, rfl, hl, T, ea, q⟩ := ih
  cases r1 with
  | @cons _ u0 _ ur r0 rs =>
    have e0 : u0 = Value.ref a := r0
    subst e0
    have n : ur.length ≤ sizeLine := by
      rw [← Paired.length rs, sizeLine_eq]
      omega
    exact oinit_ok T I1 ea n fun s' J => ⟨.non, H1, J, rfl, q⟩
end
def spXiK (K : PySem.W.Frag) (f : Str) (ok : V → Prop) : Sp := fun vs H Q _ => ∃ (a C : Addr) (v : V), vs = [.ref a, v] ∧ ok v ∧ OexC K C ∧ H a = some (exo a C none) ∧ PySem.W.findIn K (.ref C) f = some none ∧
  ∀ dx, H dx = none → dx ≠ a → Q .non (upd (upd H dx (exd dx [(f, v)])) a (exo a C (some dx)))
def okI : V → Prop := fun v => ∃ i : Int, v = .int i ∧ bits i < 1920
theorem xi_read {K : PySem.W.Frag} {f : Str} {ok : V → Prop} {vs : List V} {H : Hp} {Q : VK} {E : XK} {D : Ends} {N : List Str} {tm : TE} (q : spXiK K f ok vs H Q E) (hD : ∀ σ' H', D.nx σ' H' ↔ Q .non H') (hN : N.length = 2)
    (ht : ∀ (v : V) (a : Addr) (Q : VK), ok v → (∀ w, Q w H) → tm [some (.ref a), some v] H Q) :
    tSeq (tDrop (tVeI K (tCons (tVar 0) (tCons tm tNil)))) (tOst K f (tVar 0) (tVar 1)) D (L2.start N vs) H := by
  obtain ⟨a, C, v, rfl, hv, T, ha, hf, q⟩ := q
  have es : L2.start N [.ref a, v] = [some (.ref a), some v] := by
    unfold L2.start
    rw [hN]
    rfl
  rw [es]
  refine ⟨.ref a, rfl, ht v a _ hv fun w => ⟨a, C, [w], rfl, by simp, T, ha, ?_⟩⟩
  exact ⟨v, rfl, .ref a, rfl, a, C, rfl, T, hf, .inl ⟨ha, fun dx h1 h2 => (hD _ _).mpr (q dx h1 h2)⟩⟩
def fitI : D → Bool
  | .int i => decide (bits i < 1920)
  | _ => false
def sRaiseF (c : Nat) (f : Str) (ok : D → Bool) (m : Sm T) : Ss := Sm.bind m fun t st => if ok t.toD then .ex ⟨c, [(f, t.toD)]⟩ st else .no
section
variable {Γ : Wh}
variable {B H B' H' B1 H1 B2 H2 : Hp} {σ σ1 σ2 : L2.St} {st st1 st2 : G.St} {F F' F1 F2 F3 F4 G1 G2 : List Addr} {t t1 t2 : T} {v v1 v2 : V} {W : L2.WX} {fx : List Nat}
variable {X : Cx}
/-- what the written part says of such a class -/
structure Xf (K : PySem.W.Frag) (C fI : Addr) (f : Str) : Prop where
  o : OexC K C
  ini : PySem.W.findIn K (.ref C) "__init__" = some (some (.ref fI))
  ty : PySem.W.typeIn K (.ref fI) = some (.type "function")
  no : PySem.W.findIn K (.ref C) f = some none
theorem gs_raiseF {x f : Str} {c k : Nat} {e : Expr} {p pos pos' : Pos} {fI : Addr} {fd : FuncData} {ps : List Str} {ok : D → Bool} {okV : V → Prop} {m : Sm T} (hK : X.K = Γ.K) (hc : X.calm = true) (tk : Takes X W) (kx : Xf X.K (Γ.xc c) fI f)
    (hok : ∀ {B : Hp} {v : V} {d : D}, Rp Γ B v d → ok d = true → okV v) (Fk : FnOk X.prog X.w X.K X.mg X.base (L2.CX X.prog X.w) k fI fd ps (spXiK X.K f okV)) (hr : Room (k + 1) X.A) (hb : Binds X.K fd ps []) (hm : X.mg x = some (.ref (Γ.xc c)))
    (he : PE X e (tSm Γ W m)) (hg : Gl X x := by rfl) (hdb : (x == ("__debug__" : Str)) = false := by decide) (hse : starEach [e] X.env = (false, eval e X.env) :: starEach [] X.env := by rfl) (hpl : (backTo pos (starEach [] X.env)).any (·.1) = false := by rfl) :
    PS X (.Raise (some (.Call (.Name x p) [e] [] pos)) none pos') (tSs Γ W fx (sRaiseF c f ok m)) := by
  refine PS.weak (ps_raise hc tk (pmk_oex (CX := L2.CX X.prog X.w) (ds := []) (dvs := []) kx.o kx.ini kx.ty Fk hr hb .nil passL hg hm (pa_cons he pa_nil hse) hdb hse hpl)) fun D σ H h => ?_
  have h2 : tSm Γ W m σ H fun v H1 => ∀ a, H1 a = none → spXiK X.K f okV [.ref a, v] (upd H1 a (exo a (Γ.xc c) none))
      (fun v H2 => v = .non ∧ ∃ (d : Addr) (fs : List (Str × V)), H2 a = some (exo a (Γ.xc c) (some d)) ∧ H2 d = some (exd d fs) ∧ H1 d = none ∧ W (.ref (Γ.xc c)) (some d) σ (upd (del H2 a) d (.xd fs))) fun _ _ _ => False := by
    refine e_sthen h fun v t B H F B1 H1 st1 G1 F1 P q a na => ?_
    by_cases hf : ok t.toD = true
    · rw [if_pos hf] at q
      obtain ⟨B2, r, P2⟩ := P.frz
      refine ⟨a, Γ.xc c, v, rfl, hok r hf, kx.o, upd_same, kx.no, fun dx n1 n2 => ⟨rfl, dx, [(f, v)], upd_same, ?_, ?_, ?_⟩⟩
      · rw [upd_ne n2, upd_same]
      · rw [upd_ne n2] at n1; exact n1
      · have n1' : H1 dx = none := by rw [upd_ne n2] at n1; exact n1
        have eH : upd (del (upd (upd (upd H1 a (exo a (Γ.xc c) none)) dx (exd dx [(f, v)])) a (exo a (Γ.xc c) (some dx))) a) dx (.xd [(f, v)]) = upd H1 dx (.xd [(f, v)]) := by
          funext b
          by_cases hb : b = dx
          · rw [hb, upd_same, upd_same]
          · rw [upd_ne hb, upd_ne hb]
            by_cases ha : b = a
            · rw [ha, del_same, na]
            · rw [del_ne ha, upd_ne ha, upd_ne hb, upd_ne ha]
        rw [eH]
        have hu := upd_newB (o := .xd [(f, v)]) P2.s.ex n1'
        have g := Stt.grow (fx := fx) P2.s hu (sub_both P2.s.ex)
        exact q σ _ _ _ _ _ ((PostT.ofS P2).trans g) ⟨rfl, dx, [(f, v)], rfl, upd_same, .cons (r.mono Γ hu.b) .nil⟩
    · rw [if_neg hf] at q
      exact q.elim
  obtain ⟨B, st, F, S, h3⟩ := h2
  refine ⟨B, st, F, S, h3.mono (fun t st1 q v H1 B1 G1 F1 p => ?_) fun _ _ q => q⟩
  exact ⟨by simp, q v H1 B1 G1 F1 p⟩
theorem fitI_ok {d : D} (r : Rp Γ B v d) (h : fitI d = true) : okI v := by
  cases r with
  | int s => exact ⟨s, rfl, by simpa [fitI] using h⟩
  | _ => cases h
end
end G
set_option Elab.async false
set_option linter.all false
set_option maxRecDepth 100000
namespace G
open PySem PySem.Spec PyProof.Rows L2
section
variable {K : PySem.W.Frag} {C C' : Addr} {b : Bool}
theorem kit_own (h : PySem.W.subIn K (.ref C) (.ref C') = some b) (self : PySem.W.subIn K (.ref C) (.ref C) = some true) (cl : PySem.W.isClsIn K C' = true) (ty : PySem.W.typeIn K (.ref C') = some (.type "type")) : PySem.W.kitOne K (.ref C) (.ref C') = some b := by
  unfold PySem.W.kitOne
  by_cases e : C = C'
  · subst e
    rw [self] at h
    cases h
    rw [if_pos (by simp)]
  · rw [if_neg (by simpa using e)]
    have e2 : ((PySem.W.clsIn K C').isSome && PySem.W.typeIn K (.ref C') == some (.type "type")) = true := by rw [show (PySem.W.clsIn K C').isSome = true from cl, ty]; rfl
    show (if ((PySem.W.clsIn K C').isSome && PySem.W.typeIn K (.ref C') == some (.type "type")) = true then PySem.W.subIn K (.ref C) (.ref C') else none) = some b
    rw [if_pos e2]
    exact h
end
end G
set_option Elab.async false
set_option linter.all false
set_option maxRecDepth 100000
namespace G
open PySem PySem.Spec PyProof.Rows L2
end G
set_option Elab.async false
set_option linter.all false
set_option maxRecDepth 100000
set_option maxHeartbeats 1000000
namespace G
open PySem PySem.Spec PyProof.Rows L2
def strL (l : List Str) : List D := l.map D.str
def fSplit (a : Str) : D → Option T
  | .str b => if (b.length == 0) = false ∧ a.length + 2 ≤ line then some (.lst (ims (strL (Txt.split a b)))) else none
  | _ => none
def fPart (a : Str) : D → Option T
  | .str b => if (b.length == 0) = false ∧ a.length ≤ line then some (.imm (.tup [.str (Txt.partition a b).1, .str (Txt.partition a b).2.1, .str (Txt.partition a b).2.2])) else none
  | _ => none
section
variable {Γ : Wh} {X : Cx}
theorem RpL.strs {B : Hp} : ∀ l : List Str, RpL Γ B (l.map V.str) (strL l)
  | [] => .nil
  | s :: l => .cons (.str s) (RpL.strs l)
theorem s_split : St1D Γ (fun x xs H Q => ∃ a b, x = .str a ∧ xs = [.str b] ∧ (b.length == 0) = false ∧ a.length + 2 ≤ sizeLine ∧ rNewStrs (Txt.split a b) H Q) fSplit := fun {B H a y e t Q} s ry h k => by
  cases ry with
  | str b =>
    have h : (if (b.length == 0) = false ∧ a.length + 2 ≤ line then some (T.lst (ims (strL (Txt.split a b)))) else none) = some t := h
    by_cases z : (b.length == 0) = false ∧ a.length + 2 ≤ line
    · rw [if_pos z] at h
      cases h
      exact ⟨a, b, rfl, rfl, z.1, z.2, fun p hp => k _ _ _ _ (new_lst s hp (RpL.strs _))⟩
    · rw [if_neg z] at h; cases h
  | _ => cases h
theorem s_part : St1D Γ (fun x xs H Q => ∃ a b, x = .str a ∧ xs = [.str b] ∧ (b.length == 0) = false ∧ a.length ≤ sizeLine ∧
    ∀ p, H p = none → Q (.ref p) (upd H p (.tup [.str (Txt.partition a b).1, .str (Txt.partition a b).2.1, .str (Txt.partition a b).2.2]))) fPart := fun {B H a y e t Q} s ry h k => by
  cases ry with
  | str b =>
    have h : (if (b.length == 0) = false ∧ a.length ≤ line then some (T.imm (.tup [.str (Txt.partition a b).1, .str (Txt.partition a b).2.1, .str (Txt.partition a b).2.2])) else none) = some t := h
    by_cases z : (b.length == 0) = false ∧ a.length ≤ line
    · rw [if_pos z] at h
      cases h
      exact ⟨a, b, rfl, rfl, z.1, z.2, fun p hp => k _ _ _ _ (NewV.obj s hp (.tup upd_same (.cons (.str _) (.cons (.str _) (.cons (.str _) .nil)))))⟩
    · rw [if_neg z] at h; cases h
  | _ => cases h
end
theorem xlen_int {m : Str} {i : Int} (h : m.length ≤ 1000) (k : bits i < 1920) : m.length + (Str.ofString (toString i)).length ≤ sizeLine := by
  have e := int_text_length_le (a := i) (k := 1920) (by decide) k
  rw [PySem.ofString_length, sizeLine_eq]
  omega
end G
set_option Elab.async false
set_option linter.all false
set_option maxRecDepth 100000
set_option maxHeartbeats 1000000
namespace G
open PySem PySem.Spec PyProof.Rows L2
def fStarts (a : Str) : D → Option T
  | .str b => some (.imm (.bl (Txt.startswith a b)))
  | _ => none
def bIntS : List D → Option T
  | [.str a] => match PySem.intText? a with
    | some n => if a.length ≤ 640 then some (.imm (.int n)) else none
    | none => none
  | _ => none
def bStrA : List D → Option T
  | [.int i] => if bits i < 1920 then some1 (.str (toString i)) else none
  | [.str s] => some1 (.str s)
  | _ => none
/-- isinstance(x, C) of an instance of C -/
def fIsC (c : Nat) : D → Option T
  | .obj c' _ => if c' = c then some1 (.bl true) else none
  | _ => none
section
variable {Γ : Wh} {X : Cx} {W : L2.WX} {a : Expr} {ma : Sm T} {p p2 pos : Pos}
theorem s_starts : St1D Γ (fun x xs H Q => ∃ a b, x = .str a ∧ xs = [.str b] ∧ Q (.bl (Txt.startswith a b)) H) fStarts := fun {B H a y e t Q} s ry h k => by
  cases ry with
  | str b =>
    cases h
    exact ⟨a, b, rfl, rfl, k _ _ _ _ (new_bl s)⟩
  | _ => cases h
theorem k_intS : CallD Γ (fun xs H Q => ∃ a n, xs = [.str a] ∧ PySem.intText? a = some n ∧ a.length ≤ 640 ∧ Q (.int n) H) bIntS := fun {B H x d t Q} s r h k => by
  match d, r, h with
  | [.str i], .cons (.str _) .nil, h =>
    have h : (match PySem.intText? i with
      | some n => if i.length ≤ 640 then some (T.imm (.int n)) else none
      | none => none) = some t := h
    cases e : PySem.intText? i with
    | none => rw [e] at h; cases h
    | some n =>
      rw [e] at h
      by_cases y : i.length ≤ 640
      · have h : (if i.length ≤ 640 then some (T.imm (.int n)) else none) = some t := h
        rw [if_pos y] at h
        cases h
        exact ⟨i, n, rfl, e, y, k _ _ _ _ (new_int s)⟩
      · have h : (if i.length ≤ 640 then some (T.imm (.int n)) else none) = some t := h
        rw [if_neg y] at h; cases h
theorem k_strA : CallD Γ (fun xs H Q => (∃ i, xs = [.int i] ∧ i.natAbs.log2 < 1920 ∧ Q (.str (toString i)) H) ∨ ∃ a, xs = [.str a] ∧ Q (.str a) H) bStrA := fun {B H x d t Q} s r h k => by
  match d, r, h with
  | [.int i], .cons (.int _) .nil, h =>
    have h : (if bits i < 1920 then some (T.imm (.str (toString i))) else none) = some t := h
    by_cases y : bits i < 1920
    · rw [if_pos y] at h
      cases h
      exact .inl ⟨i, rfl, y, k _ _ _ _ (new_str s)⟩
    · rw [if_neg y] at h; cases h
  | [.str i], .cons (.str _) .nil, h =>
    cases h
    exact .inr ⟨i, rfl, k _ _ _ _ (new_str s)⟩
theorem call_strA : CallR X (.type "str") (fun xs H Q => (∃ i, xs = [.int i] ∧ i.natAbs.log2 < 1920 ∧ Q (.str (toString i)) H) ∨ ∃ a, xs = [.str a] ∧ Q (.str a) H) := CallR.or call_str_int SkE.call_str_str
theorem d_isC {c : Nat} : UnD Γ (fun x H Q => ∃ a dx fs, [x, V.ref (Γ.cl c)] = [.ref a, .ref (Γ.cl c)] ∧ H a = some (.ins (Γ.cl c) dx fs) ∧ Q (.bl true) H) (fIsC c) := fun {B H x d t Q} s r h q => by
  cases r with
  | @obj a dx c' vs l ha rl =>
    have h : (if c' = c then some1 (.bl true) else none) = some t := h
    by_cases e : c' = c
    · rw [if_pos e] at h
      cases h
      subst e
      exact ⟨a, dx, vs, rfl, s _ _ ha, q _ _ _ _ (new_bl s)⟩
    · rw [if_neg e] at h; cases h
  | _ => cases h
theorem ge_isC {c : Str} {c' : Nat} (hK : X.K = Γ.K) (k : C8.InsC Γ.K (Γ.cl c')) (ha : PE X a (tSm Γ W ma)) (hg : Gl X "isinstance") (hm : X.mg "isinstance" = none) (hg2 : Gl X c) (hm2 : X.mg c = some (.ref (Γ.cl c'))) (hd : (c == ("__debug__" : Str)) = false := by decide)
    (hs : starEach [a, .Name c p2] X.env = (false, eval a X.env) :: starEach [.Name c p2] X.env := by rfl) (hs2 : starEach [.Name c p2] X.env = (false, eval (.Name c p2) X.env) :: starEach [] X.env := by rfl) (hpl : (backTo pos (starEach [.Name c p2] X.env)).any (·.1) = false := by rfl) :
    PE X (.Call (.Name "isinstance" p) [a, .Name c p2] [] pos) (tSm Γ W (sUn (fIsC c') ma)) := by
  refine PE.weak (pe_callB (C8.call_isC (by rw [hK]; exact k)) hg hm (by decide +kernel) (pa_cons ha (pa_cons (pe_glob (v := .ref (Γ.cl c')) hg2 hm2 rfl hd) pa_nil hs2) hs) (by decide) (by decide) hs hpl) fun σ H Q h => ?_
  exact e_un d_isC h
end
end G
set_option Elab.async false
set_option linter.all false
namespace G
open PySem L2
end G
set_option Elab.async false
set_option linter.all false
namespace G
open PySem
structure Tg {α : Sort u} (k : α) : Type where
def Run {α : Type} (m : Sm α) (st : St) (K : α → St → Prop) (E : X → St → Prop) : Prop := match m st with
  | .no => False
  | .ok a s => K a s
  | .ex x s => E x s
abbrev KF := T → List (Option T) → Prop
abbrev EF := X → List (Option T) → Prop
def RunF (f : Fn) (ts : List T) (K : KF) (E : EF) (_ : Tg (K, E)) : Prop := match f ts with
  | .no => False
  | .ret t ps => K t ps
  | .ex x ps => E x ps
theorem RunF.of_eq {f : Fn} {ts : List T} {t : T} {ps : List (Option T)} {K : KF} {E : EF} {g} (h : f ts = .ret t ps) : RunF f ts K E g = K t ps := by
  unfold RunF; rw [h]
theorem RunF.eq {f : Fn} {ts : List T} {K : KF} {g} (h : RunF f ts K (fun _ _ => False) g) : ∃ t ps, f ts = .ret t ps ∧ K t ps := by
  unfold RunF at h
  cases e : f ts with
  | no => rw [e] at h; exact h.elim
  | ret t ps => rw [e] at h; exact ⟨t, ps, rfl, h⟩
  | ex x ps => rw [e] at h; exact h.elim
theorem RunF.mono {f : Fn} {ts : List T} {K K' : KF} {E E' : EF} {g g'} (h : RunF f ts K E g) (k : ∀ t ps, K t ps → K' t ps) (e : ∀ x ps, E x ps → E' x ps) : RunF f ts K' E' g' := by
  unfold RunF at h ⊢
  cases e1 : f ts with
  | no => rw [e1] at h; exact h.elim
  | ret t ps => rw [e1] at h; exact k _ _ h
  | ex x ps => rw [e1] at h; exact e _ _ h
/-- with no exception -/
theorem RunF.then {f : Fn} {ts : List T} {K K' : KF} {E : EF} {g g'} (h : RunF f ts K (fun _ _ => False) g) (k : ∀ t ps, K t ps → K' t ps) : RunF f ts K' E g' := h.mono k fun _ _ z => z.elim
theorem Run.mono {α : Type} {m : Sm α} {st : St} {K K' : α → St → Prop} {E E' : X → St → Prop} (h : Run m st K E) (k : ∀ a s, K a s → K' a s) (e : ∀ x s, E x s → E' x s) : Run m st K' E' := by
  unfold Run at h ⊢
  cases e1 : m st with
  | no => rw [e1] at h; exact h.elim
  | ok a s => rw [e1] at h; exact k _ _ h
  | ex x s => rw [e1] at h; exact e _ _ h
theorem run_b {α β : Type} {m : Sm α} {k : α → Sm β} {st : St} {K : β → St → Prop} {E : X → St → Prop} : Run (Sm.bind m k) st K E = Run m st (fun a s => Run (k a) s K E) E := by
  unfold Run Sm.bind
  cases m st <;> rfl
def getK : St → Nat → (Option T → Prop) → Prop
  | [], _, k => k none
  | o :: _, 0, k => k o
  | _ :: r, n + 1, k => getK r n k
@[simp ↓] theorem getK_nil {n k} : getK [] n k = k none := by cases n <;> rfl
@[simp ↓] theorem getK_0 {o r k} : getK (o :: r) 0 k = k o := rfl
@[simp ↓] theorem getK_s {o r n k} : getK (o :: r) (n + 1) k = getK r n k := rfl
theorem getK_eq : ∀ (st : St) (n : Nat) (k : Option T → Prop), getK st n k = k (st[n]?.getD none)
  | [], _, k => by simp
  | o :: _, 0, k => by simp
  | _ :: r, n + 1, k => by simp [getK_eq r n k]
def putK : St → Nat → Option T → (St → Prop) → Prop
  | [], _, _, k => k []
  | _ :: r, 0, v, k => k (v :: r)
  | o :: r, n + 1, v, k => putK r n v fun r' => k (o :: r')
@[simp ↓] theorem putK_nil {n v k} : putK [] n v k = k [] := by cases n <;> rfl
@[simp ↓] theorem putK_0 {o r v k} : putK (o :: r) 0 v k = k (v :: r) := rfl
@[simp ↓] theorem putK_s {o r n v k} : putK (o :: r) (n + 1) v k = putK r n v fun r' => k (o :: r') := rfl
theorem putK_eq : ∀ (st : St) (n : Nat) (v : Option T) (k : St → Prop), putK st n v k = k (st.set n v)
  | [], _, _, k => by simp
  | o :: _, 0, _, k => by simp
  | _ :: r, n + 1, v, k => by simp [putK_eq r n v]
def wipeK (st : St) (vs : List Nat) (k : St → Prop) : Prop := k (wipe st vs)
@[simp ↓] theorem wipeK_nil {st k} : wipeK st [] k = k st := rfl
@[simp ↓] theorem wipeK_cons {st v vs k} : wipeK st (v :: vs) k = wipeK st vs fun s => putK s v none k := by
  show k _ = putK (wipe st vs) v none k
  rw [putK_eq]; rfl
def backK (st : St) (vs : List Nat) (s : St) (k : St → Prop) : Prop := k (back st vs s)
@[simp ↓] theorem backK_nil {st s k} : backK st [] s k = k s := rfl
@[simp ↓] theorem backK_cons {st v vs s k} : backK st (v :: vs) s k = wipeK st vs fun st' => getK st' v fun o => putK s v o fun s' => backK st vs s' k := by
  show k _ = getK (wipe st vs) v fun o => putK s v o fun s' => backK st vs s' k
  rw [getK_eq, putK_eq]; rfl
def ifK (p : Prop) (A B : Prop) : Prop := (p → A) ∧ (¬p → B)
@[simp ↓] theorem ifK_true {A B} : ifK (true = true) A B = A := by simp [ifK]
@[simp ↓] theorem ifK_false {A B} : ifK (false = true) A B = B := by simp [ifK]
@[simp ↓] theorem ifK_dec {p : Prop} [Decidable p] {A B} : ifK (decide p = true) A B = ifK p A B := by simp [ifK]
@[simp ↓] theorem ifK_ndec {p : Prop} [Decidable p] {A B} : ifK ((!decide p) = true) A B = ifK p B A := by
  simp only [ifK, Bool.not_eq_true', decide_eq_false_iff_not, eq_iff_iff]
  constructor
  · exact fun h => ⟨fun q => h.2 fun n => n q, h.1⟩
  · exact fun h => ⟨h.2, fun n => h.1 (Decidable.of_not_not n)⟩
@[simp ↓] theorem ifK_nt {A B} : ifK ((!true) = true) A B = B := by simp [ifK]
@[simp ↓] theorem ifK_nf {A B} : ifK ((!false) = true) A B = A := by simp [ifK]
@[simp ↓] theorem ifK_T {A B} : ifK True A B = A := by simp [ifK]
@[simp ↓] theorem ifK_F {A B} : ifK False A B = B := by simp [ifK]
theorem ifK.mk {p A B : Prop} (h : p → A) (h' : ¬p → B) : ifK p A B := ⟨h, h'⟩
def toK (t : T) (k : D → Prop) : Prop := k t.toD
@[simp ↓] theorem toK_imm {d k} : toK (.imm d) k = k d := rfl
@[simp ↓ high] theorem toK_ims {l k} : toK (.lst (ims l)) k = k (.lst l) := by unfold toK; rw [toD_lst, toDs_ims]
@[simp ↓] theorem toK_lst {l k} : toK (.lst l) k = k (.lst (T.toDs l)) := rfl
def op2K (f : D → D → Option T) (a b : D) (k : T → Prop) : Prop := ∃ t, f a b = some t ∧ k t
def op1K (f : D → Option T) (a : D) (k : T → Prop) : Prop := ∃ t, f a = some t ∧ k t
theorem runOf {α : Type} {o : Option α} {st : St} {K : α → St → Prop} {E : X → St → Prop} : Run (Sm.ofO o) st K E = ∃ t, o = some t ∧ K t st := by
  unfold Run Sm.ofO
  cases o <;> simp
section
variable {st : St} {K : T → St → Prop} {E : X → St → Prop}
def varK (o : Option T) (st : St) (i : Nat) (K : T → St → Prop) : Prop := match o with
  | some (.imm d) => K (.imm d) st
  | some t => putK st i (some (.imm t.toD)) (K (.imm t.toD))
  | none => False
@[simp ↓] theorem varK_imm {d st i K} : varK (some (.imm d)) st i K = K (.imm d) st := rfl
@[simp ↓ high] theorem varK_ims {l st i K} : varK (some (.lst (ims l))) st i K = putK st i (some (.imm (.lst l))) (K (.imm (.lst l))) := by
  show putK st i (some (.imm (T.lst (ims l)).toD)) (K (.imm (T.lst (ims l)).toD)) = _
  rw [toD_lst, toDs_ims]
@[simp ↓] theorem varK_lst {l st i K} : varK (some (.lst l)) st i K = putK st i (some (.imm (.lst (T.toDs l)))) (K (.imm (.lst (T.toDs l)))) := rfl
@[simp ↓] theorem run_var {i} : Run (sVar i) st K E = getK st i fun o => varK o st i K := by
  rw [getK_eq]
  unfold Run sVar varK
  cases e : st[i]? with
  | none => rfl
  | some o => cases o with
    | none => rfl
    | some t => cases t <;> first | rfl | (simp only [Option.getD_some, putK_eq])
def mvK (o : Option T) (k : T → Prop) : Prop := match o with
  | some t => k t
  | none => False
@[simp ↓] theorem mvK_some {t k} : mvK (some t) k = k t := rfl
@[simp ↓] theorem run_mv {i} : Run (sMv i) st K E = getK st i fun o => mvK o fun t => putK st i none (K t) := by
  rw [getK_eq]
  unfold Run sMv mvK
  cases e : st[i]? with
  | none => rfl
  | some o => cases o with
    | none => rfl
    | some t => simp only [Option.getD_some, putK_eq]
@[simp ↓] theorem run_cst {d} : Run (sCst d) st K E = K (.imm d) st := rfl
@[simp ↓] theorem run_op2 {f a b} : Run (sOp2 f a b) st K E = Run a st (fun x s => toK x fun d => Run b s (fun y s => toK y fun d' => op2K f d d' fun t => K t s) E) E := by
  unfold sOp2; rw [run_b]; simp only [run_b, runOf]; rfl
@[simp ↓] theorem run_un {f a} : Run (sUn f a) st K E = Run a st (fun x s => toK x fun d => op1K f d fun t => K t s) E := by
  unfold sUn; rw [run_b]; simp only [run_b, runOf]; rfl
def chK (o : T) (A : Prop) (B : Prop) : Prop := match o with
  | .imm (.bl true) => A
  | .imm (.bl false) => B
  | _ => False
@[simp ↓] theorem chK_some {p : Prop} [Decidable p] {A B} : chK (.imm (.bl (decide p))) A B = ifK p A B := by
  by_cases h : p <;> simp [chK, ifK, h]
@[simp ↓] theorem run_chain {f g a b c} : Run (sChain f g a b c) st K E = Run a st (fun x s => toK x fun d => Run b s (fun y s => toK y fun d' => op2K f d d' fun t => chK t (Run c s (fun z s => toK z fun d'' => op2K g d' d'' fun t => K t s) E) (K (.imm (.bl false)) s)) E) E := by
  unfold sChain; rw [run_b]
  congr 1
  funext x s
  rw [run_b]
  unfold toK op2K
  congr 1
  funext y s
  dsimp only
  generalize f x.toD y.toD = o
  cases o with
  | none => simp [Run]
  | some t =>
    simp only [Option.some.injEq, exists_eq_left']
    cases t with
    | imm d =>
      cases d with
      | bl b => cases b with
        | true => simp only [run_b, runOf, chK]
        | false => rfl
      | _ => rfl
    | _ => rfl
end
theorem ex_ite {α : Type} {c : Prop} [Decidable c] {x : α} {k : α → Prop} : (∃ t, (if c then some x else none) = some t ∧ k t) = (c ∧ k x) := by
  by_cases h : c <;> simp [h]
section
variable {i j : Int} {k : T → Prop}
@[simp ↓] theorem o2_add : op2K fAdd (.int i) (.int j) k = k (.imm (.int (i + j))) := by simp [op2K, fAdd]
@[simp ↓] theorem o2_addI : op2K fAddI (.int i) (.int j) k = k (.imm (.int (i + j))) := by simp [op2K, fAddI]
@[simp ↓] theorem o2_sub : op2K fSub (.int i) (.int j) k = k (.imm (.int (i - j))) := by simp [op2K, fSub]
@[simp ↓] theorem o2_mul : op2K fMul (.int i) (.int j) k = (bits i + bits j < mulLine ∧ k (.imm (.int (i * j)))) := ex_ite
@[simp ↓] theorem o2_div : op2K fDiv (.int i) (.int j) k = ((0 < j ∧ bits j < 9000) ∧ k (.imm (.int (i / j)))) := ex_ite
@[simp ↓] theorem o2_mod : op2K fMod (.int i) (.int j) k = (0 < j ∧ k (.imm (.int (i % j)))) := ex_ite
@[simp ↓] theorem o2_pow : op2K fPow (.int i) (.int j) k = ((0 ≤ j ∧ j ≤ 1000000 ∧ i.natAbs < 2 ^ 64) ∧ k (.imm (.int (i ^ j.toNat)))) := ex_ite
@[simp ↓] theorem o1_neg : op1K fNeg (.int i) k = k (.imm (.int (-i))) := by simp [op1K, fNeg]
@[simp ↓] theorem o2_lt : op2K fLt (.int i) (.int j) k = k (.imm (.bl (decide (i < j)))) := by simp [op2K, fLt]
@[simp ↓] theorem o2_le : op2K fLe (.int i) (.int j) k = k (.imm (.bl (decide (i ≤ j)))) := by simp [op2K, fLe]
@[simp ↓] theorem o2_gt : op2K fGt (.int i) (.int j) k = k (.imm (.bl (decide (j < i)))) := by simp [op2K, fGt]
@[simp ↓] theorem o2_ge : op2K fGe (.int i) (.int j) k = k (.imm (.bl (decide (j ≤ i)))) := by simp [op2K, fGe]
@[simp ↓] theorem o1_isN {d} : op1K fIsN d k = k (.imm (.bl d.isN)) := by simp [op1K, fIsN]
@[simp ↓] theorem o1_notN {d} : op1K fNotN d k = k (.imm (.bl (!d.isN))) := by simp [op1K, fNotN]
section
variable {d : D} {l : List D} {b : Bool} {s : Str}
theorem o1_isi' {d : D} {x} {b : Bool} (h : fIsi x d = some (.imm (.bl b))) : op1K (fIsi x) d k = k (.imm (.bl b)) := by simp [op1K, h]
@[simp ↓ high] theorem isi_int_int : op1K (fIsi .int) (.int i) k = k (.imm (.bl true)) := o1_isi' rfl
@[simp ↓ high] theorem isi_int_bl : op1K (fIsi .int) (.bl b) k = k (.imm (.bl true)) := o1_isi' rfl
@[simp ↓ high] theorem isi_bl_int : op1K (fIsi .bl) (.int i) k = k (.imm (.bl false)) := o1_isi' rfl
@[simp ↓ high] theorem isi_bl_bl : op1K (fIsi .bl) (.bl b) k = k (.imm (.bl true)) := o1_isi' rfl
@[simp ↓ high] theorem isi_tup_tup : op1K (fIsi .tup) (.tup l) k = k (.imm (.bl true)) := o1_isi' rfl
@[simp ↓ high] theorem isi_lst_lst : op1K (fIsi .lst) (.lst l) k = k (.imm (.bl true)) := o1_isi' rfl
@[simp ↓ high] theorem isi_str_str : op1K (fIsi .str) (.str s) k = k (.imm (.bl true)) := o1_isi' rfl
@[simp ↓ high] theorem isi_tup_non : op1K (fIsi .tup) .non k = k (.imm (.bl false)) := o1_isi' rfl
@[simp ↓ high] theorem isi_int_str : op1K (fIsi .int) (.str s) k = k (.imm (.bl false)) := o1_isi' rfl
@[simp ↓ high] theorem isi_str_int : op1K (fIsi .str) (.int i) k = k (.imm (.bl false)) := o1_isi' rfl
@[simp ↓ high] theorem isi_tup_lst : op1K (fIsi .tup) (.lst l) k = k (.imm (.bl false)) := o1_isi' rfl
@[simp ↓ high] theorem isi_lst_tup : op1K (fIsi .lst) (.tup l) k = k (.imm (.bl false)) := o1_isi' rfl
@[simp] theorem isN_non : D.isN .non = true := rfl
@[simp] theorem isN_bl : D.isN (.bl b) = false := rfl
@[simp] theorem isN_int : D.isN (.int i) = false := rfl
@[simp] theorem isN_str : D.isN (.str s) = false := rfl
@[simp] theorem isN_tup : D.isN (.tup l) = false := rfl
@[simp] theorem isN_lst : D.isN (.lst l) = false := rfl
end
end
@[simp ↓] theorem o2_eq_int {i j : Int} {k : T → Prop} : op2K fEq (.int i) (.int j) k = k (.imm (.bl (decide (i = j)))) := by simp [op2K, fEq, dEq, sEq]
@[simp ↓] theorem o2_ne_int {i j : Int} {k : T → Prop} : op2K fNe (.int i) (.int j) k = k (.imm (.bl (!decide (i = j)))) := by simp [op2K, fNe, dEq, sEq]
@[simp ↓] theorem o2_eq_str {i j : Str} {k : T → Prop} : op2K fEq (.str i) (.str j) k = k (.imm (.bl (decide (i = j)))) := by simp [op2K, fEq, dEq, sEq]
@[simp ↓] theorem o2_ne_str {i j : Str} {k : T → Prop} : op2K fNe (.str i) (.str j) k = k (.imm (.bl (!decide (i = j)))) := by simp [op2K, fNe, dEq, sEq]
@[simp ↓] theorem o2_eq_bl {i j : Bool} {k : T → Prop} : op2K fEq (.bl i) (.bl j) k = k (.imm (.bl (decide (i = j)))) := by simp [op2K, fEq, dEq, sEq]
@[simp ↓] theorem o2_ne_bl {i j : Bool} {k : T → Prop} : op2K fNe (.bl i) (.bl j) k = k (.imm (.bl (!decide (i = j)))) := by simp [op2K, fNe, dEq, sEq]
theorem o2_eq {a b : D} {k : T → Prop} : op2K fEq a b k = ∃ c, dEq a b = some c ∧ k (.imm (.bl c)) := by
  simp only [op2K, fEq, Option.map_eq_some_iff, eq_iff_iff]
  exact ⟨fun ⟨t, ⟨c, h, e⟩, q⟩ => ⟨c, h, by rw [e]; exact q⟩, fun ⟨c, h, q⟩ => ⟨_, ⟨c, h, rfl⟩, q⟩⟩
theorem o2_ne {a b : D} {k : T → Prop} : op2K fNe a b k = ∃ c, dEq a b = some c ∧ k (.imm (.bl (!c))) := by
  simp only [op2K, fNe, Option.map_eq_some_iff, eq_iff_iff]
  exact ⟨fun ⟨t, ⟨c, h, e⟩, q⟩ => ⟨c, h, by rw [e]; exact q⟩, fun ⟨c, h, q⟩ => ⟨_, ⟨c, h, rfl⟩, q⟩⟩
def atK (o : Option D) (k : T → Prop) : Prop := ∃ d, o = some d ∧ k (.imm d)
@[simp ↓] theorem atK_some {d k} : atK (some d) k = k (.imm d) := by simp [atK]
section
variable {l : List D} {i : Int} {k : T → Prop}
theorem o2_ix {a : D} {l : List D} (h : fIx a (.int i) = (atI l i).map T.imm) : op2K fIx a (.int i) k = atK (atI l i) k := by
  unfold op2K atK
  rw [h]
  simp only [Option.map_eq_some_iff, eq_iff_iff]
  exact ⟨fun ⟨t, ⟨c, h, e⟩, q⟩ => ⟨c, h, by rw [e]; exact q⟩, fun ⟨c, h, q⟩ => ⟨_, ⟨c, h, rfl⟩, q⟩⟩
@[simp ↓] theorem o2_ix_lst : op2K fIx (.lst l) (.int i) k = atK (atI l i) k := o2_ix rfl
@[simp ↓] theorem o2_ix_tup : op2K fIx (.tup l) (.int i) k = atK (atI l i) k := o2_ix rfl
@[simp ↓] theorem o2_ix_rol : op2K fIx (.rol l) (.int i) k = atK (atI l i) k := o2_ix rfl
end
theorem atI_nat {α : Type} {l : List α} {n : Nat} : atI l (n : Int) = l[n]? := by simp [atI]
@[simp] theorem atI_lit {α : Type} {l : List α} {n : Nat} : atI l (no_index (OfNat.ofNat n) : Int) = l[(OfNat.ofNat n : Nat)]? := atI_nat
@[simp] theorem atI_0 {α : Type} {l : List α} : atI l 0 = l[0]? := atI_nat (n := 0)
@[simp] theorem atI_1 {α : Type} {l : List α} : atI l 1 = l[1]? := atI_nat (n := 1)
theorem atI_in {α : Type} {l : List α} {i : Int} (h : 0 ≤ i) (h' : i < l.length) : ∃ d, atI l i = some d ∧ d ∈ l := by
  have : i.toNat < l.length := by omega
  exact ⟨l[i.toNat], by simp [atI, h, this], List.getElem_mem _⟩
abbrev KA := List T → List (Option Nat) → St → Prop
def RunA (a : Sa) (st : St) (K : KA) (E : X → St → Prop) : Prop := Run a st (fun p s => K p.1 p.2 s) E
section
variable {st : St} {K : KA} {E : X → St → Prop}
@[simp ↓] theorem runA_nil : RunA aNil st K E = K [] [] st := rfl
@[simp ↓] theorem runA_val {m r} : RunA (aVal m r) st K E = Run m st (fun t s => RunA r s (fun ts ls => K (t :: ts) (none :: ls)) E) E := by
  unfold RunA aVal; rw [run_b]; simp only [run_b]; rfl
def lendK (o : Option T) (k : T → Prop) : Prop := match o with
  | some t => k t
  | none => False
@[simp ↓] theorem lendK_some {t k} : lendK (some t) k = k t := rfl
@[simp ↓] theorem runA_lend {i r} : RunA (aLend i r) st K E = getK st i fun o => lendK o fun t => putK st i none fun s => RunA r s (fun ts ls => K (t :: ts) (some i :: ls)) E := by
  rw [getK_eq]
  unfold RunA Run aLend lendK
  cases e : st[i]? with
  | none => rfl
  | some o => cases o with
    | none => rfl
    | some t =>
      simp only [Option.getD_some, putK_eq]
      cases r (st.set i none) <;> rfl
end
section
variable {st : St} {K : T → St → Prop} {E : X → St → Prop}
def lenK (n : Nat) (k : Prop) : Prop := n ≤ 1000 ∧ k
@[simp ↓] theorem lenK_lit {ts : List T} {k} : lenK ts.length k = (ts.length ≤ 1000 ∧ k) := rfl
def toDsK : List T → (List D → Prop) → Prop
  | [], k => k []
  | t :: r, k => toK t fun d => toDsK r fun ds => k (d :: ds)
@[simp ↓] theorem toDsK_nil {k} : toDsK [] k = k [] := rfl
@[simp ↓] theorem toDsK_cons {t r k} : toDsK (t :: r) k = toK t fun d => toDsK r fun ds => k (d :: ds) := rfl
theorem toDsK_eq : ∀ (ts : List T) (k : List D → Prop), toDsK ts k = k (T.toDs ts)
  | [], k => rfl
  | t :: r, k => by show toDsK r (fun ds => k (t.toD :: ds)) = _; rw [toDsK_eq r]; rfl
@[simp ↓] theorem run_tup {a} : Run (sTup a) st K E = RunA a st (fun ts _ s => toDsK ts fun ds => ts.length ≤ 1000 ∧ K (.imm (.tup ds)) s) E := by
  unfold sTup RunA; rw [run_b]
  congr 1
  funext p s
  dsimp only
  rw [toDsK_eq]
  unfold Run
  by_cases h : p.1.length ≤ 1000 <;> simp [h]
@[simp ↓] theorem run_lst {a} : Run (sLst a) st K E = RunA a st (fun ts _ s => ts.length ≤ 1000 ∧ K (.lst ts) s) E := by
  unfold sLst RunA; rw [run_b]
  congr 1
  funext p s
  unfold Run
  by_cases h : p.1.length ≤ 1000 <;> simp [h]
def bltK (f : List D → Option T) (ds : List D) (k : T → Prop) : Prop := ∃ t, f ds = some t ∧ k t
@[simp ↓] theorem run_blt {f a} : Run (sBlt f a) st K E = RunA a st (fun ts _ s => toDsK ts fun ds => bltK f ds fun t => K t s) E := by
  unfold sBlt RunA; rw [run_b]; simp only [runOf, toDsK_eq]; rfl
def wbK (ls : List (Option Nat)) (ps : List (Option T)) (st : St) (k : St → Prop) : Prop := k (wb ls ps st)
@[simp ↓] theorem wbK_nil {ps st k} : wbK [] ps st k = k st := rfl
@[simp ↓] theorem wbK_none {ls p ps st k} : wbK (none :: ls) (p :: ps) st k = wbK ls ps st k := rfl
@[simp ↓] theorem wbK_some {i ls p ps st k} : wbK (some i :: ls) (p :: ps) st k = putK st i p fun s => wbK ls ps s k := by
  rw [putK_eq]; rfl
@[simp ↓] theorem run_call {f a} : Run (sCall f a) st K E = RunA a st (fun ts ls s => RunF f ts (fun t ps => wbK ls ps s (K t)) (fun x ps => wbK ls ps s (E x)) ⟨⟩) E := by
  unfold sCall RunA; rw [run_b]
  congr 1
  funext p s
  unfold Run RunF wbK
  dsimp only
  cases f p.1 <;> rfl
end
def RunO (m : So) (st : St) (K : Option Int → St → Prop) (E : X → St → Prop) : Prop := Run m st K E
def intK (d : D) (k : Int → Prop) : Prop := match d with
  | .int i => k i
  | _ => False
@[simp ↓] theorem intK_int {i k} : intK (.int i) k = k i := rfl
def sliceK (d : D) (l h : Option Int) (k : T → Prop) : Prop := ∃ t, fSlice d l h = some t ∧ k t
@[simp ↓] theorem sliceK_lst {l lo hi k} : sliceK (.lst l) lo hi k = k (.lst (ims (cutL l lo hi))) := by simp [sliceK, fSlice]
@[simp ↓] theorem sliceK_rol {l lo hi k} : sliceK (.rol l) lo hi k = k (.lst (ims (cutL l lo hi))) := by simp [sliceK, fSlice]
@[simp ↓] theorem sliceK_tup {l lo hi k} : sliceK (.tup l) lo hi k = (¬ (cutAt l.length 0 lo = 0 ∧ cutAt l.length l.length hi = l.length) ∧ k (.imm (.tup (cutL l lo hi)))) := by
  unfold sliceK
  simp only [fSlice]
  by_cases h : cutAt l.length 0 lo = 0 ∧ cutAt l.length l.length hi = l.length
  · rw [if_pos h]; simp [h]
  · rw [if_neg h]; simp [h]
@[simp ↓] theorem runO_none {st K E} : RunO oNone st K E = K none st := rfl
@[simp ↓] theorem runO_some {m st K E} : RunO (oSome m) st K E = Run m st (fun t s => toK t fun d => intK d fun i => K (some i) s) E := by
  unfold RunO oSome
  rw [run_b]
  congr 1
  funext t s
  unfold Run toK intK
  cases t.toD <;> rfl
@[simp ↓] theorem run_slice {a : Sm T} {lo hi : So} {st : St} {K : T → St → Prop} {E : X → St → Prop} : Run (sSlice a lo hi) st K E = Run a st (fun x s => toK x fun d => RunO lo s (fun l s => RunO hi s (fun h s => sliceK d l h fun t => K t s) E) E) E := by
  unfold sSlice RunO
  rw [run_b]
  simp only [run_b, runOf]
  rfl
def frzK (st : St) (k : St → Prop) : Prop := k (frzSt st)
def frz1K (o : Option T) (k : Option T → Prop) : Prop := k (o.map fun t => .imm t.toD)
@[simp ↓] theorem frz1K_none {k} : frz1K none k = k none := rfl
@[simp ↓] theorem frz1K_some {t k} : frz1K (some t) k = toK t fun d => k (some (.imm d)) := rfl
theorem frz1K_any {o k} : frz1K o k = k (o.map fun t => .imm t.toD) := rfl
@[simp ↓] theorem frzK_nil {k} : frzK [] k = k [] := rfl
@[simp ↓] theorem frzK_cons {o st k} : frzK (o :: st) k = frz1K o fun o => frzK st fun s => k (o :: s) := rfl
def scalK (t : T) (k : Prop) : Prop := t.scal = true ∧ k
@[simp ↓] theorem scalK_non {k} : scalK (.imm .non) k = k := by simp [scalK, T.scal]
@[simp ↓] theorem scalK_bl {b k} : scalK (.imm (.bl b)) k = k := by simp [scalK, T.scal]
@[simp ↓] theorem scalK_int {b k} : scalK (.imm (.int b)) k = k := by simp [scalK, T.scal]
@[simp ↓] theorem scalK_str {b k} : scalK (.imm (.str b)) k = k := by simp [scalK, T.scal]
@[simp ↓] theorem run_view {m : Sm T} {st : St} {K : T → St → Prop} {E : X → St → Prop} : Run (sView m) st K E = frzK st fun s => Run m s (fun t _ => scalK t (K t st)) fun _ _ => False := by
  unfold Run sView frzK scalK
  dsimp only
  cases m (frzSt st) with
  | no => rfl
  | ex => rfl
  | ok t s => cases h : t.scal <;> simp [h]
@[simp ↓] theorem run_viewB {m : Sm Bool} {st : St} {K : Bool → St → Prop} {E : X → St → Prop} : Run (sViewB m) st K E = frzK st fun s => Run m s (fun t _ => K t st) fun _ _ => False := by
  unfold Run sViewB frzK
  dsimp only
  cases m (frzSt st) <;> rfl
def strK (d : D) (k : Str → Prop) : Prop := match d with
  | .str s => k s
  | _ => False
@[simp ↓] theorem strK_str {s k} : strK (.str s) k = k s := rfl
def opSK (f : Str → D → Option T) (a : Str) (b : D) (k : T → Prop) : Prop := ∃ t, f a b = some t ∧ k t
@[simp ↓] theorem run_str1 {f : Str → D → Option T} {a b : Sm T} {st : St} {K : T → St → Prop} {E : X → St → Prop} : Run (sStr1 f a b) st K E = Run a st (fun x s => toK x fun d => strK d fun u => Run b s (fun y s => toK y fun d' => opSK f u d' fun t => K t s) E) E := by
  unfold sStr1
  rw [run_b]
  congr 1
  funext x s
  unfold toK strK opSK
  dsimp only
  cases x.toD with
  | str u => simp only [run_b, runOf]
  | _ => rfl
def mkSt : List T → Nat → (St → Prop) → Prop
  | _, 0, k => k []
  | [], n + 1, k => mkSt [] n fun s => k (none :: s)
  | t :: r, n + 1, k => mkSt r n fun s => k (some t :: s)
@[simp ↓] theorem mkSt_0 {ts k} : mkSt ts 0 k = k [] := by cases ts <;> rfl
@[simp ↓] theorem mkSt_n {n k} : mkSt [] (n + 1) k = mkSt [] n fun s => k (none :: s) := rfl
@[simp ↓] theorem mkSt_c {t r n k} : mkSt (t :: r) (n + 1) k = mkSt r n fun s => k (some t :: s) := rfl
theorem mkSt_eq : ∀ (ts : List T) (n : Nat) (k : St → Prop), ts.length ≤ n → mkSt ts n k = k (ts.map some ++ List.replicate (n - ts.length) none)
  | [], 0, k, _ => rfl
  | [], n + 1, k, _ => by rw [mkSt_n, mkSt_eq [] n _ (Nat.zero_le _)]; simp [List.replicate_succ]
  | t :: r, n + 1, k, h => by
    rw [mkSt_c, mkSt_eq r n _ (by simpa using h)]
    simp
def finK (fx : List Nat) (i n : Nat) (st : St) (k : List (Option T) → Prop) : Prop := k (fin fx i n st)
@[simp ↓] theorem finK_0 {fx i st k} : finK fx i 0 st k = k [] := by unfold finK; cases st <;> rfl
@[simp ↓] theorem finK_s {fx i n o st k} : finK fx i (n + 1) (o :: st) k = ifK (i ∈ fx) (finK fx (i + 1) n st fun ps => k (o :: ps)) (finK fx (i + 1) n st fun ps => k (none :: ps)) := by
  show k ((if i ∈ fx then o else none) :: fin fx (i + 1) n st) = ((i ∈ fx → k (o :: fin fx (i + 1) n st)) ∧ (¬ i ∈ fx → k (none :: fin fx (i + 1) n st)))
  by_cases h : i ∈ fx <;> simp [h]
@[simp ↓] theorem finK_e {i n st k} : finK [] i (n + 1) st k = finK [] (i + 1) n (st.drop 1) fun ps => k (none :: ps) := by
  unfold finK
  cases st with
  | nil => rfl
  | cons o r => show k ((if i ∈ [] then o else none) :: fin [] (i + 1) n r) = _; simp
/-- the end of a body -/
def endK (f : Fl) (k : T → Prop) : Prop := match f with
  | .nx => k (.imm .non)
  | .rt t => k t
  | _ => False
@[simp ↓] theorem endK_nx {k} : endK .nx k = k (.imm .non) := rfl
@[simp ↓] theorem endK_rt {t k} : endK (.rt t) k = k t := rfl
theorem run_def {np n fx body ts} {K : KF} {E : EF} {g} (h : ts.length = np) (hn : np ≤ n) : RunF (sDef np n fx body) ts K E g = mkSt ts n fun s => Run body s (fun f s => endK f fun t => finK fx 0 np s (K t)) (fun x s => finK fx 0 np s (E x)) := by
  subst h
  rw [mkSt_eq _ _ _ hn]
  unfold RunF sDef Run
  rw [if_pos rfl]
  cases body (ts.map some ++ List.replicate (n - ts.length) none) with
  | no => rfl
  | ex x st => rfl
  | ok f st => cases f <;> rfl
def blK (t : T) (k : Bool → Prop) : Prop := match t.toD with
  | .bl b => k b
  | _ => False
@[simp ↓] theorem blK_bl {b k} : blK (.imm (.bl b)) k = k b := rfl
section
variable {st : St} {K : Bool → St → Prop} {E : X → St → Prop}
@[simp ↓] theorem run_test {m} : Run (sTest m) st K E = Run m st (fun t s => blK t fun b => K b s) E := by
  unfold sTest; rw [run_b]
  congr 1
  funext t s
  unfold blK Run
  cases t.toD <;> rfl
@[simp ↓] theorem run_and {a b} : Run (bAnd a b) st K E = Run a st (fun x s => ifK (x = true) (Run b s K E) (K false s)) E := by
  unfold bAnd; rw [run_b]
  congr 1
  funext x s
  cases x <;> simp [ifK, Run, Sm.pure]
@[simp ↓] theorem run_or {a b} : Run (bOr a b) st K E = Run a st (fun x s => ifK (x = true) (K true s) (Run b s K E)) E := by
  unfold bOr; rw [run_b]
  congr 1
  funext x s
  cases x <;> simp [ifK, Run, Sm.pure]
@[simp ↓] theorem run_not {a} : Run (bNot a) st K E = Run a st (fun x s => K (!x) s) E := by
  unfold bNot; rw [run_b]; rfl
@[simp ↓] theorem run_yes : Run bYes st K E = K true st := rfl
end
section
variable {st : St} {K : T → St → Prop} {E : X → St → Prop}
@[simp ↓] theorem run_andV {a b} : Run (sAndV a b) st K E = Run a st (fun t s => blK t fun x => ifK (x = true) (Run b s K E) (K (.imm (.bl false)) s)) E := by
  unfold sAndV; rw [run_b, run_test]
  congr 1
  funext t s
  congr 1
  funext x
  cases x <;> simp [ifK, Run, Sm.pure]
@[simp ↓] theorem run_orV {a b} : Run (sOrV a b) st K E = Run a st (fun t s => blK t fun x => ifK (x = true) (K (.imm (.bl true)) s) (Run b s K E)) E := by
  unfold sOrV; rw [run_b, run_test]
  congr 1
  funext t s
  congr 1
  funext x
  cases x <;> simp [ifK, Run, Sm.pure]
@[simp ↓] theorem run_notV {a} : Run (sNotV a) st K E = Run a st (fun t s => blK t fun x => K (.imm (.bl (!x))) s) E := by
  unfold sNotV; rw [run_b, run_test]; rfl
end
def seqK (f : Fl) (A : Prop) (k : Fl → Prop) : Prop := match f with
  | .nx => A
  | f => k f
@[simp ↓] theorem seqK_nx {A k} : seqK .nx A k = A := rfl
@[simp ↓] theorem seqK_rt {t A k} : seqK (.rt t) A k = k (.rt t) := rfl
@[simp ↓] theorem seqK_bk {A k} : seqK .bk A k = k .bk := rfl
@[simp ↓] theorem seqK_ct {A k} : seqK .ct A k = k .ct := rfl
def PatK (g : Pat) (d : D) (s : St) (k : St → Prop) : Prop := match g d s with
  | some s' => k s'
  | none => False
@[simp ↓] theorem patK_name {i d s k} : PatK (gName i) d s k = putK s i (some (.imm d)) k := by rw [putK_eq]; rfl
def PatsK : List Pat → List D → St → (St → Prop) → Prop
  | [], [], s, k => k s
  | p :: ps, d :: ds, s, k => PatK p d s fun s => PatsK ps ds s k
  | _, _, _, _ => False
@[simp ↓] theorem patsK_nil {s k} : PatsK [] [] s k = k s := rfl
@[simp ↓] theorem patsK_cons {p ps d ds s k} : PatsK (p :: ps) (d :: ds) s k = PatK p d s fun s => PatsK ps ds s k := rfl
theorem patsK_eq : ∀ (ps : List Pat) (ds : List D) (s : St) (k : St → Prop), PatsK ps ds s k = match gAll ps ds s with | some s' => k s' | none => False
  | [], [], s, k => rfl
  | [], _ :: _, s, k => rfl
  | _ :: _, [], s, k => rfl
  | p :: ps, d :: ds, s, k => by
    rw [patsK_cons]
    unfold PatK gAll
    cases p d s with
    | none => rfl
    | some s' => exact patsK_eq ps ds s' k
@[simp ↓] theorem patK_tup {ps l s k} : PatK (gTup ps) (.tup l) s k = PatsK ps l s k := by
  rw [patsK_eq]; rfl
@[simp ↓] theorem patK_unp {ps l s k} : PatK (gUnp ps) (.lst l) s k = PatsK ps l s k := by
  rw [patsK_eq]; rfl
section
variable {st : St} {K : Fl → St → Prop} {E : X → St → Prop}
@[simp ↓] theorem run_set {i e} : Run (sSet i e) st K E = Run e st (fun t s => putK s i (some t) (K .nx)) E := by
  unfold sSet; rw [run_b]; simp only [putK_eq]; rfl
@[simp ↓] theorem run_setF {i e} : Run (sSetF i e) st K E = Run e st (fun t s => toK t fun d => putK s i (some (.imm d)) (K .nx)) E := by
  unfold sSetF; rw [run_b]; simp only [putK_eq]; rfl
@[simp ↓] theorem run_asg {g e} : Run (sAsg g e) st K E = Run e st (fun t s => toK t fun d => PatK g d s (K .nx)) E := by
  unfold sAsg; rw [run_b]
  congr 1
  funext t s
  unfold toK PatK Run
  dsimp only
  cases g t.toD s <;> rfl
@[simp ↓] theorem run_expr {e} : Run (sExpr e) st K E = Run e st (fun _ s => K .nx s) E := by
  unfold sExpr; rw [run_b]; rfl
@[simp ↓] theorem run_ret {e} : Run (sRet e) st K E = Run e st (fun t s => K (.rt t) s) E := by
  unfold sRet; rw [run_b]; rfl
@[simp ↓] theorem run_retN : Run sRetN st K E = K (.rt (.imm .non)) st := rfl
@[simp ↓] theorem run_pass : Run sPass st K E = K .nx st := rfl
@[simp ↓] theorem run_break : Run sBreak st K E = K .bk st := rfl
@[simp ↓] theorem run_never : Run sNever st K E = False := rfl
@[simp ↓] theorem run_seq {a b} : Run (sSeq a b) st K E = Run a st (fun f s => seqK f (Run b s K E) fun f => K f s) E := by
  unfold sSeq; rw [run_b]
  congr 1
  funext f s
  cases f <;> rfl
@[simp ↓] theorem run_if {c a b} : Run (sIf c a b) st K E = Run c st (fun x s => ifK (x = true) (Run a s K E) (Run b s K E)) E := by
  unfold sIf; rw [run_b]
  congr 1
  funext x s
  cases x <;> simp [ifK]
def augK (o : Option T) (k : D → Prop) : Prop := match o with
  | some (.imm d) => k d
  | _ => False
@[simp ↓] theorem augK_imm {d k} : augK (some (.imm d)) k = k d := rfl
@[simp ↓] theorem run_aug {i f e} : Run (sAug i f e) st K E = getK st i fun o => augK o fun d => Run e st (fun y s => toK y fun d' => op2K f d d' fun t => toK t fun d => putK s i (some (.imm d)) (K .nx)) E := by
  rw [getK_eq]
  unfold Run sAug augK
  cases e1 : st[i]? with
  | none => rfl
  | some o => cases o with
    | none => rfl
    | some t => cases t with
      | imm d =>
        simp only [Option.getD_some]
        cases e2 : e st with
        | no => rfl
        | ex => rfl
        | ok y s =>
          simp only [bind_ok]
          unfold toK op2K
          dsimp only
          cases e3 : f d y.toD with
          | none => simp
          | some t => simp [putK_eq]
      | _ => rfl
def lstK (o : Option T) (k : List T → Prop) : Prop := match o with
  | some (.lst l) => k l
  | _ => False
@[simp ↓] theorem lstK_lst {l k} : lstK (some (.lst l)) k = k l := rfl
def methK (f : List T → List T → Option (List T × T)) (l ts : List T) (k : List T → T → Prop) (_ : Tg k) : Prop := ∃ q, f l ts = some q ∧ k q.1 q.2
@[simp ↓] theorem run_meth {i f a} {K : T → St → Prop} : Run (sMeth i f a) st K E = getK st i fun o => lstK o fun _ => RunA a st (fun ts _ s => getK s i fun o => lstK o fun l => methK f l ts (fun l' r => putK s i (some (.lst l')) (K r)) ⟨⟩) E := by
  rw [getK_eq]
  unfold Run sMeth lstK
  cases e1 : st[i]? with
  | none => rfl
  | some o => cases o with
    | none => rfl
    | some t => cases t with
      | lst l =>
        simp only [Option.getD_some]
        unfold RunA Run
        cases e2 : a st with
        | no => rfl
        | ex => rfl
        | ok p s =>
          simp only [bind_ok]
          rw [getK_eq]
          cases e3 : s[i]? with
          | none => rfl
          | some o => cases o with
            | none => rfl
            | some t => cases t with
              | lst l =>
                simp only [Option.getD_some]
                unfold methK
                cases e4 : f l p.1 with
                | none => simp
                | some q => simp [putK_eq]
              | _ => rfl
      | _ => rfl
@[simp ↓] theorem meth_app {l t k g} : methK mAppend l [t] k g = (l.length < line ∧ k (l ++ [t]) (.imm .non)) := ex_ite
@[simp ↓] theorem meth_pop0 {t r k g} : methK mPop0 (t :: r) [.imm (.int 0)] k g = k r t := by simp [methK, mPop0]
@[simp ↓] theorem meth_clear {l k g} : methK mClear l [] k g = k [] (.imm .non) := by simp [methK, mClear]
@[simp ↓] theorem meth_ext {l r k g} : methK mExtend l [.imm (.lst r)] k g = (l.length + r.length ≤ line ∧ k (l ++ ims r) (.imm .non)) := ex_ite
@[simp ↓] theorem meth_extT {l r k g} : methK mExtend l [.lst (ims r)] k g = (l.length + r.length ≤ line ∧ k (l ++ ims r) (.imm .non)) := by
  have : methK mExtend l [.lst (ims r)] k g = methK mExtend l [.imm (.lst r)] k g := by
    have e : mExtend l [.lst (ims r)] = mExtend l [.imm (.lst r)] := by
      unfold mExtend
      dsimp only
      rw [toD_lst, toDs_ims]; rfl
    unfold methK
    rw [e]
  rw [this, meth_ext]
theorem meth_pop {l : List T} {t k g} : methK mPop (l ++ [t]) [] k g = k l t := by
  simp [methK, mPop]
end
def RunI (m : Si) (st : St) (K : List D → St → Prop) (E : X → St → Prop) : Prop := Run m st K E
def RunL (g : Pat) (body : Ss) (ds : List D) (st : St) (K : Fl → St → Prop) (E : X → St → Prop) (_ : Tg (K, E)) : Prop := Run (loopFor g body ds) st K E
def loK (f : Fl) (A : Prop) (k : Fl → Prop) : Prop := match f with
  | .nx => A
  | .ct => A
  | .bk => k .nx
  | .rt t => k (.rt t)
@[simp ↓] theorem loK_nx {A k} : loK .nx A k = A := rfl
@[simp ↓] theorem loK_ct {A k} : loK .ct A k = A := rfl
@[simp ↓] theorem loK_bk {A k} : loK .bk A k = k .nx := rfl
@[simp ↓] theorem loK_rt {t A k} : loK (.rt t) A k = k (.rt t) := rfl
section
variable {st : St} {K : Fl → St → Prop} {E : X → St → Prop} {g : Pat} {body : Ss}
@[simp ↓] theorem run_for {src} : Run (sFor src g body) st K E = RunI src st (fun ds s => RunL g body ds s K E ⟨⟩) E := by
  unfold sFor RunI; rw [run_b]; rfl
theorem runL_nil {t} : RunL g body [] st K E t = K .nx st := rfl
theorem runL_cons {d r t} : RunL g body (d :: r) st K E t = PatK g d st fun s => Run body s (fun f s => loK f (RunL g body r s K E t) fun f => K f s) E := by
  unfold RunL PatK
  unfold Run
  rw [loopFor]
  dsimp only
  cases g d st with
  | none => rfl
  | some s1 =>
    dsimp only
    cases body s1 with
    | no => rfl
    | ex => rfl
    | ok f s => cases f <;> rfl
/-- I: what holds before the rest -/
theorem RunL.inv (I : List D → St → Prop) (step : ∀ d r s, I (d :: r) s → PatK g d s fun s => Run body s (fun f s => loK f (I r s) fun f => K f s) E) (fin : ∀ s, I [] s → K .nx s) : ∀ (ds : List D) (st : St) (t), I ds st → RunL g body ds st K E t
  | [], st, t, h => by rw [runL_nil]; exact fin _ h
  | d :: r, st, t, h => by
    rw [runL_cons]
    have := step d r st h
    unfold PatK at this ⊢
    cases e : g d st with
    | none => rw [e] at this; exact this.elim
    | some s1 =>
      rw [e] at this
      refine Run.mono this (fun f s q => ?_) fun _ _ z => z
      cases f with
      | nx => exact RunL.inv I step fin r s t q
      | ct => exact RunL.inv I step fin r s t q
      | bk => exact q
      | rt t => exact q
theorem RunL.rng (I : Nat → St → Prop) {lo c : Int} : ∀ (n j : Nat) (st : St) (t) (step : ∀ i s, i < n + j → I i s → PatK g (.int (lo + c * i)) s fun s => Run body s (fun f s => loK f (I (i + 1) s) fun f => K f s) E) (fin : ∀ s, I (n + j) s → K .nx s), I j st → RunL g body (rng (lo + c * j) c n) st K E t
  | 0, j, st, t, step, fin, h => by
    rw [show G.rng (lo + c * j) c 0 = [] from rfl, runL_nil]
    exact fin _ (by simpa using h)
  | n + 1, j, st, t, step, fin, h => by
    rw [show G.rng (lo + c * j) c (n + 1) = .int (lo + c * j) :: G.rng (lo + c * j + c) c n from rfl, runL_cons]
    have := step j st (by omega) h
    unfold PatK at this ⊢
    cases e : g (.int (lo + c * j)) st with
    | none => rw [e] at this; exact this.elim
    | some s1 =>
      rw [e] at this
      have go : ∀ s, I (j + 1) s → RunL g body (G.rng (lo + c * j + c) c n) s K E t := fun s q => by
        have := RunL.rng I (lo := lo) (c := c) n (j + 1) s t (fun i s h => step i s (by omega)) (fun s h => fin s (by rw [show n + 1 + j = n + (j + 1) by omega]; exact h)) q
        rwa [show lo + c * ((j + 1 : Nat) : Int) = lo + c * j + c by rw [Int.natCast_add, Int.mul_add]; simp [Int.add_assoc]] at this
      refine Run.mono this (fun f s q => ?_) fun _ _ z => z
      cases f with
      | nx => exact go s q
      | ct => exact go s q
      | bk => exact q
      | rt t => exact q
/-- for x in range(n) -/
theorem RunL.rng0 (I : Nat → St → Prop) {n : Nat} {st : St} {t} (step : ∀ i s, i < n → I i s → PatK g (.int i) s fun s => Run body s (fun f s => loK f (I (i + 1) s) fun f => K f s) E) (fin : ∀ s, I n s → K .nx s) (h : I 0 st) : RunL g body (G.rng 0 1 n) st K E t := by
  have := RunL.rng (g := g) (body := body) (K := K) (E := E) I (lo := 0) (c := 1) n 0 st t (fun i s h q => by simpa using step i s (by omega) q) (fun s q => fin s (by simpa using q)) h
  simpa using this
end
theorem run_while {c : Sm Bool} {body : Ss} {n : Nat} {st : St} {K : Fl → St → Prop} {E : X → St → Prop} : Run (loopW c body (n + 1)) st K E = Run c st (fun b s => ifK (b = true) (Run body s (fun f s => loK f (Run (loopW c body n) s K E) fun f => K f s) E) (K .nx s)) E := by
  rw [loopW, run_b]
  congr 1
  funext b s
  cases b with
  | false => rw [if_neg (by decide), ifK_false]; rfl
  | true =>
    rw [if_pos rfl, ifK_true, run_b]
    congr 1
    funext f s
    cases f <;> rfl
section
variable {st : St} {K : List D → St → Prop} {E : X → St → Prop}
def seqDK (d : D) (k : List D → Prop) : Prop := match d with
  | .lst l => k l
  | .rol l => k l
  | _ => False
def tupDK (d : D) (k : List D → Prop) : Prop := match d with
  | .tup l => k l
  | _ => False
@[simp ↓] theorem seqDK_lst {l k} : seqDK (.lst l) k = k l := rfl
@[simp ↓] theorem seqDK_rol {l k} : seqDK (.rol l) k = k l := rfl
@[simp ↓] theorem tupDK_tup {l k} : tupDK (.tup l) k = k l := rfl
@[simp ↓] theorem runI_list {m} : RunI (iList m) st K E = Run m st (fun t s => toK t fun d => seqDK d fun l => K l s) E := by
  unfold RunI iList; rw [run_b]
  congr 1
  funext t s
  unfold toK seqDK Run
  cases t.toD <;> rfl
@[simp ↓] theorem runI_tup {m} : RunI (iTup m) st K E = Run m st (fun t s => toK t fun d => tupDK d fun l => K l s) E := by
  unfold RunI iTup; rw [run_b]
  congr 1
  funext t s
  unfold toK tupDK Run
  cases t.toD <;> rfl
def rngK (f : List D → Option (List D)) (ds : List D) (k : List D → Prop) : Prop := ∃ l, f ds = some l ∧ k l
@[simp ↓] theorem runI_range {f a} : RunI (iRange f a) st K E = RunA a st (fun ts _ s => toDsK ts fun ds => rngK f ds fun l => K l s) E := by
  unfold RunI iRange RunA; rw [run_b]; simp only [runOf, toDsK_eq]; rfl
theorem small_iff {i : Int} : small i = true ↔ -1000000000 ≤ i ∧ i ≤ 1000000000 := by simp [small]
@[simp ↓] theorem rngK_1 {n k} : rngK rng1 [.int n] k = ((-1000000000 ≤ n ∧ n ≤ 1000000000) ∧ k (rng 0 1 n.toNat)) := by
  unfold rngK rng1
  by_cases h : small n = true
  · simp [small_iff.mp h, h]
  · have : ¬ (-1000000000 ≤ n ∧ n ≤ 1000000000) := fun q => h (small_iff.mpr q)
    simp [this, h]
@[simp ↓] theorem rngK_2 {a b k} : rngK rng2 [.int a, .int b] k = (((-1000000000 ≤ a ∧ a ≤ 1000000000) ∧ (-1000000000 ≤ b ∧ b ≤ 1000000000)) ∧ k (rng a 1 (b - a).toNat)) := by
  unfold rngK rng2
  simp only [← small_iff]
  by_cases h : small a = true ∧ small b = true <;> simp [h]
@[simp ↓] theorem rngK_3 {a b c k} : rngK rng3 [.int a, .int b, .int c] k = (((-1000000000 ≤ a ∧ a ≤ 1000000000) ∧ (-1000000000 ≤ b ∧ b ≤ 1000000000) ∧ (-1000000000 ≤ c ∧ c ≤ 1000000000) ∧ 0 < c) ∧ k (rng a c (if a < b then (b - a - 1) / c + 1 else 0).toNat)) := by
  unfold rngK rng3
  simp only [← small_iff]
  by_cases h : small a = true ∧ small b = true ∧ small c = true ∧ 0 < c
  · simp [h]
  · have : ¬ ((small a && small b && small c && decide (0 < c)) = true) := fun q => h (by simpa [and_assoc] using q)
    simp [h, this]
end
def RunLC (own : List Nat) (g : Pat) (test : Sm Bool) (elt : Sm T) (ds : List D) (acc : List T) (st : St) (K : List T → St → Prop) (_ : Tg K) : Prop := Run (loopLC own g test elt ds acc) st K fun _ _ => False
section
variable {own : List Nat} {g : Pat} {test : Sm Bool} {elt : Sm T} {st : St} {K : List T → St → Prop} {E : X → St → Prop}
theorem loopLC_noex {own : List Nat} {g : Pat} {test : Sm Bool} {elt : Sm T} : ∀ (ds : List D) (acc : List T) (st : St) (x : X) (s : St), loopLC own g test elt ds acc st ≠ .ex x s
  | [], acc, st, x, s, h => nomatch h
  | d :: r, acc, st, x, s, h => by
    unfold loopLC at h
    cases e1 : g d st with
    | none => simp [e1] at h
    | some s1 =>
      simp only [e1] at h
      cases e2 : test s1 with
      | no => simp [nox, e2] at h
      | ex => simp [nox, e2] at h
      | ok b s2 =>
        simp only [nox, e2, bind_ok] at h
        cases b with
        | false => exact loopLC_noex _ _ _ _ _ (by simpa using h)
        | true =>
          simp only [if_true] at h
          cases e3 : elt s2 with
          | no => simp [e3] at h
          | ex => simp [e3] at h
          | ok t s3 =>
            simp only [e3, bind_ok] at h
            by_cases q : acc.length < line
            · rw [if_pos q] at h; exact loopLC_noex _ _ _ _ _ h
            · rw [if_neg q] at h; cases h
@[simp ↓] theorem run_lc {src} {K : T → St → Prop} : Run (sLC own src g test elt) st K E = RunI src st (fun ds s => wipeK s own fun s0 => RunLC own g test elt ds [] s0 (fun l s' => backK s own s' (K (.lst l))) ⟨⟩) E := by
  unfold sLC RunI; rw [run_b]
  congr 1
  funext ds s
  unfold wipeK RunLC Run backK
  dsimp only
  cases e : loopLC own g test elt ds [] (wipe s own) with
  | no => rfl
  | ok l s' => rfl
  | ex x s' => exact absurd e (loopLC_noex _ _ _ _ _)
theorem runLC_nil {acc t} : RunLC own g test elt [] acc st K t = K acc st := rfl
theorem runLC_cons {d r acc t} : RunLC own g test elt (d :: r) acc st K t = PatK g d st fun s1 => Run test s1 (fun b s2 => ifK (b = true) (Run elt s2 (fun v s3 => acc.length < line ∧ wipeK s3 own fun s => RunLC own g test elt r (acc ++ [v]) s K t) fun _ _ => False) (wipeK s2 own fun s => RunLC own g test elt r acc s K t)) fun _ _ => False := by
  unfold RunLC PatK
  unfold Run
  rw [loopLC]
  dsimp only
  cases g d st with
  | none => rfl
  | some s1 =>
    dsimp only
    unfold nox
    cases test s1 with
    | no => rfl
    | ex => rfl
    | ok b s2 =>
      dsimp only
      cases b with
      | false => simp only [bind_ok, ifK_F, Bool.false_eq_true, if_false]; rfl
      | true =>
        simp only [bind_ok, ifK_T, if_true]
        cases elt s2 with
        | no => rfl
        | ex => rfl
        | ok v s3 =>
          simp only [bind_ok]
          by_cases q : acc.length < line
          · simp only [if_pos q, q, true_and]; rfl
          · simp only [if_neg q, q, false_and, if_false]
inductive All2 {α β : Type} (R : α → β → Prop) : List α → List β → Prop
  | nil : All2 R [] []
  | cons {a b as bs} : R a b → All2 R as bs → All2 R (a :: as) (b :: bs)
/-- no test, no effect; R: what is known of each item -/
theorem RunLC.rel (R : D → T → Prop) {t} : ∀ (ds : List D) (acc : List T), (∀ d ∈ ds, PatK g d st fun s1 => Run elt s1 (fun v s2 => R d v ∧ wipe s2 own = st) fun _ _ => False) → acc.length + ds.length ≤ line → (∀ l, All2 R ds l → K (acc ++ l) st) → RunLC own g bYes elt ds acc st K t
  | [], acc, h, hn, k => by rw [runLC_nil]; simpa using k [] .nil
  | d :: r, acc, h, hn, k => by
    rw [runLC_cons]
    have := h d (by simp)
    unfold PatK at this ⊢
    cases e : g d st with
    | none => rw [e] at this; exact this.elim
    | some s1 =>
      rw [e] at this
      simp only [run_yes, ifK_T]
      refine Run.mono this (fun v s2 ⟨q, w⟩ => ⟨by simp at hn; omega, ?_⟩) fun _ _ z => z
      unfold wipeK
      rw [w]
      refine RunLC.rel R r (acc ++ [v]) (fun d m => h d (by simp [m])) (by simp at hn ⊢; omega) fun l hl => ?_
      simpa using k (v :: l) (.cons q hl)
theorem RunLC.map (F : D → T) {t} {ds : List D} (h : ∀ d ∈ ds, PatK g d st fun s1 => Run elt s1 (fun v s2 => v = F d ∧ wipe s2 own = st) fun _ _ => False) (hn : ds.length ≤ line) (k : K (ds.map F) st) : RunLC own g bYes elt ds [] st K t :=
  RunLC.rel (fun d v => v = F d) ds [] h (by simpa using hn) fun l hl => by
    have : l = ds.map F := by
      clear h hn k
      induction hl with
      | nil => rfl
      | cons q _ ih => rw [q, ih]; rfl
    rw [this]; exact k
/-- over a mapped list -/
theorem RunLC.filtM {α : Type} (f : α → D) (F : α → Option T) {t} : ∀ (L : List α) (acc : List T), (∀ a ∈ L, PatK g (f a) st fun s1 => Run test s1 (fun b s2 => ifK (b = true) (Run elt s2 (fun v s3 => F a = some v ∧ wipe s3 own = st) fun _ _ => False) (F a = none ∧ wipe s2 own = st)) fun _ _ => False) → acc.length + L.length ≤ line → K (acc ++ L.filterMap F) st → RunLC own g test elt (L.map f) acc st K t
  | [], acc, h, hn, k => by rw [List.map_nil, runLC_nil]; simpa using k
  | d :: r, acc, h, hn, k => by
    rw [List.map_cons, runLC_cons]
    have := h d (by simp)
    unfold PatK at this ⊢
    cases e : g (f d) st with
    | none => rw [e] at this; exact this.elim
    | some s1 =>
      rw [e] at this
      refine Run.mono this (fun b s2 q => ?_) fun _ _ z => z
      refine ⟨fun e => ?_, fun e => ?_⟩
      · refine Run.mono (q.1 e) (fun v s3 ⟨q, w⟩ => ⟨by simp at hn; omega, ?_⟩) fun _ _ z => z
        unfold wipeK
        rw [w]
        exact RunLC.filtM f F r (acc ++ [v]) (fun d m => h d (by simp [m])) (by simp at hn ⊢; omega) (by simpa [List.filterMap_cons, q] using k)
      · obtain ⟨q, w⟩ := q.2 e
        unfold wipeK
        rw [w]
        exact RunLC.filtM f F r acc (fun d m => h d (by simp [m])) (by simp at hn ⊢; omega) (by simpa [List.filterMap_cons, q] using k)
theorem RunLC.mapM {α : Type} (f : α → D) (F : α → T) {t} {L : List α} (h : ∀ a ∈ L, PatK g (f a) st fun s1 => Run elt s1 (fun v s2 => v = F a ∧ wipe s2 own = st) fun _ _ => False) (hn : L.length ≤ line) (k : K (L.map F) st) : RunLC own g bYes elt (L.map f) [] st K t :=
  RunLC.filtM f (fun a => some (F a)) L [] (fun a m => by
    have := h a m
    unfold PatK at this ⊢
    cases e : g (f a) st with
    | none => rw [e] at this; exact this.elim
    | some s1 =>
      rw [e] at this
      dsimp only at this ⊢
      rw [run_yes, ifK_true]
      exact Run.mono this (fun v s2 q => ⟨by rw [q.1], q.2⟩) fun _ _ z => z) (by simpa using hn) (by simpa using k)
@[simp] theorem toDs_length (l : List T) : (T.toDs l).length = l.length := by rw [toDs_map]; simp
end
end G
set_option Elab.async false
set_option linter.all false
namespace G
open PySem PySem.Builtin.Int
theorem bits_le {i : Int} {m : Nat} (h : intBits i ≤ m) : bits i ≤ m := by
  unfold bits
  unfold intBits at h
  by_cases e : i = 0
  · subst e; simp
  · rw [if_neg (by simpa using e)] at h; omega
@[simp] theorem line_eq : line = 16777216 := rfl
@[simp] theorem mulLine_eq : mulLine = 134000000 := rfl
/-- |i| < 2 ^ m -/
def Bd (m : Nat) (i : Int) : Prop := intBits i ≤ m
theorem Bd.mono {m n : Nat} {i : Int} (h : Bd m i) (k : m ≤ n) : Bd n i := Nat.le_trans h k
theorem Bd.add {m n : Nat} {i j : Int} (h : Bd m i) (k : Bd n j) : Bd (max m n + 1) (i + j) := intBits_add_le h k
theorem Bd.mul {m n : Nat} {i j : Int} (h : Bd m i) (k : Bd n j) : Bd (m + n) (i * j) := intBits_mul_le h k
theorem Bd.of_abs {m : Nat} {i : Int} (h : i.natAbs < 2 ^ m) : Bd m i := intBits_le_iff.mpr h
theorem Bd.range {m : Nat} {i : Int} (a : -(2 ^ m : Int) < i) (b : i < (2 ^ m : Int)) : Bd m i := Bd.of_abs (by
  have e : ((2 ^ m : Nat) : Int) = (2 : Int) ^ m := by simp
  generalize (2 : Int) ^ m = q at *
  generalize 2 ^ m = p at *
  omega)
theorem Bd.mulOk {m n : Nat} {i j : Int} (h : Bd m i) (k : Bd n j) (l : m + n < 134000000) : bits i + bits j < mulLine := by
  have := bits_le h
  have := bits_le k
  unfold mulLine
  omega
theorem Bd.sum {m : Nat} : ∀ (l : List Int), (∀ z ∈ l, Bd m z) → Bd (m + l.length) l.sum
  | [], _ => by show intBits (List.sum []) ≤ _; simp [intBits]
  | z :: r, h => by
    have := Bd.add (h z (by simp)) (Bd.sum r fun z q => h z (by simp [q]))
    refine (List.sum_cons (a := z) (l := r)) ▸ this.mono ?_
    simp; omega
theorem Bd.lit {m : Nat} {i : Int} (h : decide (intBits i ≤ m) = true) : Bd m i := of_decide_eq_true (p := intBits i ≤ m) h
@[simp] theorem bits_0 : bits 0 = 0 := by decide +kernel
@[simp] theorem bits_1 : bits 1 = 0 := by decide +kernel
@[simp] theorem bits_2 : bits 2 = 1 := by decide +kernel
@[simp] theorem bits_3 : bits 3 = 1 := by decide +kernel
@[simp] theorem bits_4 : bits 4 = 2 := by decide +kernel
@[simp] theorem bits_5 : bits 5 = 2 := by decide +kernel
@[simp] theorem bits_6 : bits 6 = 2 := by decide +kernel
@[simp] theorem bits_7 : bits 7 = 2 := by decide +kernel
@[simp] theorem bits_8 : bits 8 = 3 := by decide +kernel
@[simp] theorem bits_9 : bits 9 = 3 := by decide +kernel
@[simp] theorem bits_10 : bits 10 = 3 := by decide +kernel
@[simp] theorem bits_11 : bits 11 = 3 := by decide +kernel
@[simp] theorem bits_12 : bits 12 = 3 := by decide +kernel
@[simp] theorem bits_13 : bits 13 = 3 := by decide +kernel
@[simp] theorem bits_14 : bits 16 = 4 := by decide +kernel
@[simp] theorem bits_15 : bits 20 = 4 := by decide +kernel
@[simp] theorem bits_16 : bits 24 = 4 := by decide +kernel
@[simp] theorem bits_17 : bits 25 = 4 := by decide +kernel
@[simp] theorem bits_18 : bits 26 = 4 := by decide +kernel
@[simp] theorem bits_19 : bits 30 = 4 := by decide +kernel
@[simp] theorem bits_20 : bits 32 = 5 := by decide +kernel
@[simp] theorem bits_21 : bits 60 = 5 := by decide +kernel
@[simp] theorem bits_22 : bits 63 = 5 := by decide +kernel
@[simp] theorem bits_23 : bits 64 = 6 := by decide +kernel
@[simp] theorem bits_24 : bits 97 = 6 := by decide +kernel
@[simp] theorem bits_25 : bits 100 = 6 := by decide +kernel
@[simp] theorem bits_26 : bits 144 = 7 := by decide +kernel
@[simp] theorem bits_27 : bits 300 = 8 := by decide +kernel
@[simp] theorem bits_28 : bits 800 = 9 := by decide +kernel
@[simp] theorem bits_29 : bits 864 = 9 := by decide +kernel
@[simp] theorem bits_30 : bits 900 = 9 := by decide +kernel
@[simp] theorem bits_31 : bits 1000 = 9 := by decide +kernel
@[simp] theorem bits_32 : bits 1000003 = 19 := by decide +kernel
@[simp] theorem bits_33 : bits 982451653 = 29 := by decide +kernel
@[simp] theorem bits_34 : bits 2147483629 = 30 := by decide +kernel
@[simp] theorem bits_35 : bits 2147483587 = 30 := by decide +kernel
@[simp] theorem bits_36 : bits 2147483647 = 30 := by decide +kernel
@[simp] theorem bits_37 : bits 1000000000000000000000000000000 = 99 := by decide +kernel
@[simp] theorem bits_38 : bits 1000000000000000000000000000000000000000000000000000000000000 = 199 := by decide +kernel
@[simp] theorem bits_39 : bits 1000000000000000000 = 59 := by decide +kernel
theorem allI_map : ∀ l : List Int, allI (l.map D.int) = some l
  | [] => rfl
  | z :: r => by
    show (allI (r.map D.int)).map (z :: ·) = _
    rw [allI_map r]; rfl
theorem dEq_refl {d : D} (h : D.flat 40 d = true) : dEq d d = some true := by
  have e := PySem.SeqAt.eqv_refl d.py (flat_ok 40 d h).1
  unfold dEq
  cases d with
  | non => rfl
  | bl b => simp [sEq]
  | int i => simp [sEq]
  | str s => simp [sEq]
  | tup l => simp only [sEq, h, Bool.and_self, if_true, e]
  | lst l => simp only [sEq, h, Bool.and_self, if_true, e]
  | _ => simp [D.flat] at h
theorem eq_self' {d : D} {k : T → Prop} (h : D.flat 40 d = true) : op2K fEq d d k = k (.imm (.bl true)) := by
  rw [o2_eq, dEq_refl h]; simp
theorem ne_self' {d : D} {k : T → Prop} (h : D.flat 40 d = true) : op2K fNe d d k = k (.imm (.bl false)) := by
  rw [o2_ne, dEq_refl h]; simp
@[simp ↓] theorem ne_nil {k : T → Prop} : op2K fNe (.lst []) (.lst []) k = k (.imm (.bl false)) := ne_self' rfl
@[simp ↓] theorem eq_nil {k : T → Prop} : op2K fEq (.lst []) (.lst []) k = k (.imm (.bl true)) := eq_self' rfl
theorem dEq_cons_nil {d : D} {l : List D} (h : D.flat 40 (.lst (d :: l)) = true) : dEq (.lst (d :: l)) (.lst []) = some false := by
  have h' : D.flat 40 (.lst []) = true := rfl
  unfold dEq sEq
  rw [h, h']
  simp [D.py, D.pys, PyData.eqv, PyData.eqvAll]
theorem eq_cons_nil {d : D} {l : List D} {k : T → Prop} (h : D.flat 40 (.lst (d :: l)) = true) : op2K fEq (.lst (d :: l)) (.lst []) k = k (.imm (.bl false)) := by
  rw [o2_eq, dEq_cons_nil h]; simp
@[simp ↓] theorem o2_add_tup {l r : List D} {k : T → Prop} : op2K fAdd (.tup l) (.tup r) k = ((l.length + r.length ≤ line ∧ 0 < l.length ∧ 0 < r.length) ∧ k (.imm (.tup (l ++ r)))) := ex_ite
@[simp ↓] theorem o2_add_lst {l r : List D} {k : T → Prop} : op2K fAdd (.lst l) (.lst r) k = (l.length + r.length ≤ line ∧ k (.lst (ims (l ++ r)))) := ex_ite
section
variable {k : T → Prop} {l : List D} {i j : Int}
@[simp ↓] theorem b_int_bl {b : Bool} : bltK bInt [.bl b] k = k (.imm (.int (if b then 1 else 0))) := by simp [bltK, bInt, some1]
@[simp ↓] theorem b_len_lst : bltK bLen [.lst l] k = k (.imm (.int l.length)) := by simp [bltK, bLen, fLen]
@[simp ↓] theorem b_len_tup : bltK bLen [.tup l] k = k (.imm (.int l.length)) := by simp [bltK, bLen, fLen]
@[simp ↓] theorem b_len_rol : bltK bLen [.rol l] k = k (.imm (.int l.length)) := by simp [bltK, bLen, fLen]
@[simp ↓] theorem b_abs : bltK bAbs [.int i] k = k (.imm (.int (if i < 0 then -i else i))) := by simp [bltK, bAbs, some1]
@[simp ↓] theorem b_max2 : bltK bMax2 [.int i, .int j] k = k (.imm (.int (if j > i then j else i))) := by simp [bltK, bMax2, some1]
@[simp ↓] theorem b_min2 : bltK bMin2 [.int i, .int j] k = k (.imm (.int (if j < i then j else i))) := by simp [bltK, bMin2, some1]
@[simp ↓] theorem b_int : bltK bInt [.int i] k = k (.imm (.int i)) := by simp [bltK, bInt, some1]
@[simp ↓] theorem b_sum {l : List Int} : bltK bSum [.lst (l.map D.int)] k = k (.imm (.int l.sum)) := by simp [bltK, bSum, allI_map]
theorem b_minL {n : Int} {l : List Int} : bltK bMinL [.lst ((n :: l).map D.int)] k = k (.imm (.int (l.foldl (fun m k => if k < m then k else m) n))) := by
  simp only [bltK, bMinL, allI_map]; simp [some1]
theorem b_maxL {n : Int} {l : List Int} : bltK bMaxL [.lst ((n :: l).map D.int)] k = k (.imm (.int (l.foldl (fun m k => if k > m then k else m) n))) := by
  simp only [bltK, bMaxL, allI_map]; simp [some1]
@[simp ↓] theorem b_minL2 : bltK bMinL [.lst [.int i, .int j]] k = k (.imm (.int (if j < i then j else i))) := b_minL (l := [j])
@[simp ↓] theorem b_maxL2 : bltK bMaxL [.lst [.int i, .int j]] k = k (.imm (.int (if j > i then j else i))) := b_maxL (l := [j])
theorem b_sorted {l : List Int} : bltK bSorted [.lst (l.map D.int)] k = k (.lst (ims ((srt l).map D.int))) := by
  simp only [bltK, bSorted, allI_map]; simp
@[simp ↓] theorem b_sorted2 : bltK bSorted [.lst [.int i, .int j]] k = k (.lst (ims ((srt [i, j]).map D.int))) := b_sorted (l := [i, j])
@[simp ↓] theorem b_list_lst : bltK bList [.lst l] k = k (.lst (ims l)) := by simp [bltK, bList]
@[simp ↓] theorem b_list_rol : bltK bList [.rol l] k = k (.lst (ims l)) := by simp [bltK, bList]
@[simp ↓] theorem b_list_tup : bltK bList [.tup l] k = k (.lst (ims l)) := by simp [bltK, bList]
@[simp ↓] theorem b_tuple_lst : bltK bTuple [.lst l] k = k (.imm (.tup l)) := by simp [bltK, bTuple, some1]
@[simp ↓] theorem b_tuple_tup : bltK bTuple [.tup l] k = k (.imm (.tup l)) := by simp [bltK, bTuple, some1]
@[simp ↓] theorem o1_revT : op1K fRev (.tup l) k = k (.lst (ims l.reverse)) := by simp [op1K, fRev]
@[simp ↓] theorem o1_rev : op1K fRev (.lst l) k = k (.lst (ims l.reverse)) := by simp [op1K, fRev]
end
theorem rng_mem {lo c : Int} : ∀ {n : Nat} {d : D}, d ∈ rng lo c n → ∃ j : Nat, j < n ∧ d = .int (lo + c * j)
  | 0, d, h => by cases h
  | n + 1, d, h => by
    rw [show rng lo c (n + 1) = .int lo :: rng (lo + c) c n from rfl] at h
    rcases List.mem_cons.mp h with e | e
    · exact ⟨0, by omega, by simp [e]⟩
    · obtain ⟨j, h1, h2⟩ := rng_mem e
      refine ⟨j + 1, by omega, ?_⟩
      rw [h2, Int.natCast_add, Int.mul_add]
      simp [Int.add_assoc, Int.add_comm, Int.add_left_comm]
@[simp] theorem rng_length {lo c : Int} : ∀ {n : Nat}, (rng lo c n).length = n
  | 0 => rfl
  | n + 1 => by
    rw [show rng lo c (n + 1) = .int lo :: rng (lo + c) c n from rfl, List.length_cons, rng_length]
/-- ints of a list, by what is known of each -/
theorem All2.ints {P : Int → Prop} {R : D → T → Prop} (h : ∀ d t, R d t → ∃ z, t = .imm (.int z) ∧ P z) : ∀ {ds : List D} {l : List T}, All2 R ds l → ∃ L : List Int, l = ims (L.map D.int) ∧ L.length = ds.length ∧ ∀ z ∈ L, P z
  | _, _, .nil => ⟨[], rfl, rfl, by simp⟩
  | _, _, .cons q r => by
    obtain ⟨z, e, p⟩ := h _ _ q
    obtain ⟨L, e2, e3, p2⟩ := All2.ints h r
    refine ⟨z :: L, by rw [e, e2]; rfl, by simp [e3], ?_⟩
    intro y hy
    rcases List.mem_cons.mp hy with q | q
    · rw [q]; exact p
    · exact p2 y q
theorem RunLC.draw {a p : Int} {n s j : Nat} {ns : List Int} {st : St} {K : List T → St → Prop} {t} (hs : st[s]? = some (some (.imm (.rol (ns.map D.int))))) (hj : st[j]? = some none) (h : ∀ i : Nat, i < n → 0 ≤ a + p * i ∧ a + p * i < ns.length) (hn : n ≤ line)
    (k : ∀ L : List Int, L.length = n → (∀ z ∈ L, z ∈ ns) → K (ims (L.map D.int)) st) : RunLC [j] (gName j) bYes (sOp2 fIx (sVar s) (sVar j)) (rng a p n) [] st K t := by
  have ne : s ≠ j := fun e => by rw [e, hj] at hs; cases hs
  refine RunLC.rel (fun d t => ∃ z, t = .imm (.int z) ∧ z ∈ ns) _ _ (fun d hd => ?_) (by simpa using hn) fun l hl => ?_
  · obtain ⟨i, hi, rfl⟩ := rng_mem hd
    obtain ⟨h1, h2⟩ := h i hi
    obtain ⟨x, e, m⟩ := atI_in (l := ns.map D.int) h1 (by simpa using h2)
    obtain ⟨z, hz, rfl⟩ := List.mem_map.mp m
    have g1 : (st.set j (some (.imm (.int (a + p * i)))))[s]? = some (some (.imm (.rol (ns.map D.int)))) := by
      rw [List.getElem?_set_ne (fun e => ne e.symm)]; exact hs
    have lj : j < st.length := by
      rcases Nat.lt_or_ge j st.length with q | q
      · exact q
      · rw [List.getElem?_eq_none q] at hj; cases hj
    have g2 : (st.set j (some (.imm (.int (a + p * i)))))[j]? = some (some (.imm (.int (a + p * i)))) := by
      rw [List.getElem?_set_self lj]
    rw [patK_name, putK_eq, run_op2, run_var, getK_eq, g1]
    simp [getK_eq, g2, e]
    refine ⟨hz, ?_⟩
    show ((st.set j (some (.imm (.int (a + p * i))))).set j none) = st
    rw [List.set_set]
    apply List.ext_getElem?
    intro q
    by_cases e : j = q
    · subst e; rw [List.getElem?_set_self lj, hj]
    · rw [List.getElem?_set_ne e]
  · obtain ⟨L, e, e2, e3⟩ := All2.ints (P := (· ∈ ns)) (fun _ _ h => h) hl
    rw [e]
    exact k L (by simpa using e2) e3
theorem rng3_lt {a p m : Int} {i : Nat} (hp : 0 < p) (h : i < (if a < m then (m - a - 1) / p + 1 else 0).toNat) : a + p * i < m := by
  by_cases q : a < m
  · rw [if_pos q] at h
    have h1 : (i : Int) ≤ (m - a - 1) / p := by omega
    have h2 := (Int.le_ediv_iff_mul_le hp).mp h1
    rw [Int.mul_comm] at h2
    omega
  · rw [if_neg q] at h
    simp at h
theorem rng3_len {a p m : Int} (hp : 0 < p) (ha : 0 ≤ a) : ((if a < m then (m - a - 1) / p + 1 else 0).toNat : Int) ≤ max m 0 := by
  by_cases q : a < m
  · rw [if_pos q]
    have : (m - a - 1) / p ≤ m - a - 1 := by
      have := Int.ediv_le_self (a := m - a - 1) p (by omega)
      exact this
    omega
  · rw [if_neg q]; simp; omega
/-- n digits below 1000003 -/
def Purse (n : Nat) (L : List Int) : Prop := L.length = n ∧ ∀ z ∈ L, 0 ≤ z ∧ z < 1000003
theorem popK {L : List Int} {n : Nat} (h : Purse (n + 1) L) {k g} (q : ∀ M z, Purse n M → 0 ≤ z → z < 1000003 → k (ims (M.map D.int)) (.imm (.int z))) : methK mPop (ims (L.map D.int)) [] k g := by
  obtain ⟨h1, h2⟩ := h
  have hne : L ≠ [] := fun e => by rw [e] at h1; simp at h1
  have e := List.dropLast_concat_getLast hne
  have m := List.getLast_mem hne
  generalize L.getLast hne = z at e m
  generalize L.dropLast = M at e
  subst e
  rw [List.map_append, ims_append]
  simp only [List.map_cons, List.map_nil, ims_cons, ims_nil]
  rw [meth_pop]
  exact q M z ⟨by simpa using h1, fun y hy => h2 y (by simp [hy])⟩ (h2 z (by simp)).1 (h2 z (by simp)).2
/-- at least n digits below 1000003 -/
def Rich (n : Nat) (L : List Int) : Prop := n ≤ L.length ∧ ∀ z ∈ L, 0 ≤ z ∧ z < 1000003
theorem popR {L : List Int} {n : Nat} (h : Rich (n + 1) L) {k g} (q : ∀ M z, M.length + 1 = L.length → Rich n M → 0 ≤ z → z < 1000003 → k (ims (M.map D.int)) (.imm (.int z))) : methK mPop (ims (L.map D.int)) [] k g := by
  obtain ⟨n', hn⟩ : ∃ n', L.length = n' + 1 := ⟨L.length - 1, by have := h.1; omega⟩
  exact popK ⟨hn, h.2⟩ fun M z hM h0 h1 => q M z (by rw [hM.1, hn]) ⟨by have := hM.1; have := h.1; omega, hM.2⟩ h0 h1
/-- a call ends with a value, as Q tells; it never raises -/
def Sp (f : Fn) (ts : List T) (Q : KF) : Prop := RunF f ts Q (fun _ _ => False) ⟨⟩
theorem sp_def {np n fx body ts} {Q : KF} (h : ts.length = np) (hn : np ≤ n) : Sp (sDef np n fx body) ts Q = mkSt ts n fun s => Run body s (fun f s => endK f fun t => finK fx 0 np s (Q t)) (fun _ _ => False) := run_def h hn
theorem Sp.k {f : Fn} {ts : List T} {Q K : KF} {E g} (h : Sp f ts Q) (k : ∀ t ps, Q t ps → K t ps) : RunF f ts K E g := RunF.then h k
theorem Sp.eqn {f : Fn} {ts : List T} {t0 : T} {ps0 : List (Option T)} {K : KF} {E g} (h : Sp f ts fun t ps => t = t0 ∧ ps = ps0) : RunF f ts K E g = K t0 ps0 := by
  obtain ⟨t, ps, e, rfl, rfl⟩ := RunF.eq h
  exact RunF.of_eq e
theorem Sp.mono {f : Fn} {ts : List T} {Q K : KF} (h : Sp f ts Q) (k : ∀ t ps, Q t ps → K t ps) : Sp f ts K := RunF.then h k
@[simp] theorem filterMap_no {α β : Type} (l : List α) : l.filterMap (fun _ => (none : Option β)) = [] := by
  induction l with
  | nil => rfl
  | cons a r ih => simp [List.filterMap_cons, ih]
theorem True'.mk {f : Fn} {ns : List Int} (h : Sp f [.imm (script ns)] fun t ps => t = .imm (.bl true)) : True' f ns := by
  obtain ⟨t, ps, e, q⟩ := RunF.eq h
  exact ⟨ps, by rw [e, q]⟩
end G
set_option Elab.async false
set_option linter.all false
namespace G
open PySem
theorem toNat_inj {a b : Char} (h : a.toNat = b.toNat) : a = b := by
  apply Char.ext
  exact UInt32.toNat_inj.mp h
theorem map_toNat_inj : ∀ {l r : List Char}, l.map Char.toNat = r.map Char.toNat → l = r
  | [], [], _ => rfl
  | [], _ :: _, h => nomatch h
  | _ :: _, [], h => nomatch h
  | a :: l, b :: r, h => by
    rw [List.map_cons, List.map_cons] at h
    injection h with h1 h2
    rw [toNat_inj h1, map_toNat_inj h2]
@[simp] theorem ofString_inj {a b : String} : Str.ofString a = Str.ofString b ↔ a = b := by
  constructor
  · intro h
    rw [Str.ofString_eq_toList, Str.ofString_eq_toList] at h
    injection h with h
    have := map_toNat_inj (Array.mk.inj h)
    exact String.toList_inj.mp this
  · intro h; rw [h]
theorem strOk_ofString (s : String) : PyData.canLay0 (.str (Str.ofString s)) = true := by
  show PyData.strOk (Str.ofString s) = true
  rw [Str.ofString_eq_toList]
  unfold PyData.strOk
  simp only [List.all_toArray, List.all_map, List.all_eq_true, Function.comp, decide_eq_true_eq]
  intro c _
  have := c.valid
  have e : c.toNat = c.val.toNat := rfl
  rcases this with h | ⟨_, h⟩
  · rw [e]; show c.val.toNat < _; have h' : c.val.toNat < 0xd800 := h; omega
  · rw [e]; exact h
@[simp] theorem flat_str (n : Nat) (s : String) : D.flat n (.str (Str.ofString s)) = true := by
  unfold D.flat
  exact strOk_ofString s
theorem o2_in_tup {d : D} {l : List D} {k : T → Prop} (h : D.flat 0 d = true) (h' : ∀ x ∈ l, D.flat 0 x = true) : op2K fIn d (.tup l) k = k (.imm (.bl (l.any fun z => PyData.eqv z.py d.py))) := by
  have e : dIn d (.tup l) = some (l.any fun z => PyData.eqv z.py d.py) := by
    have c : (D.flat 0 d && l.all (D.flat 0)) = true := by rw [h, Bool.true_and, List.all_eq_true]; exact h'
    cases d <;> first | (simp only [dIn, c, if_true]) | (exfalso; simp [D.flat] at h)
  simp [op2K, fIn, e]
@[simp] theorem eqv_str {a b : Str} : PyData.eqv (.str a) (.str b) = decide (a = b) := by
  rw [PyData.eqv]
  by_cases h : a = b <;> simp [h]
@[simp] theorem py_str {a : Str} : D.py (.str a) = .str a := rfl
@[simp] theorem py_int {a : Int} : D.py (.int a) = .int a := rfl
@[simp] theorem cut_tail {α : Type} {a : α} {l : List α} : cutL (a :: l) (some 1) none = l := by
  simp [cutL, cutAt]
end G
set_option Elab.async false
set_option linter.all false
namespace G
open PySem
def findK {α : Type} (fs : List (Str × α)) (f : Str) (k : α → Prop) : Prop := ∃ x, fFind fs f = some x ∧ k x
@[simp ↓] theorem findK_nil {α : Type} {f} {k : α → Prop} : findK [] f k = False := by simp [findK, fFind]
@[simp ↓] theorem findK_cons {α : Type} {g : Str} {x : α} {r f} {k : α → Prop} : findK ((g, x) :: r) f k = ifK (g = f) (k x) (findK r f k) := by
  unfold findK
  have e : fFind ((g, x) :: r) f = if g = f then some x else fFind r f := rfl
  rw [e]
  by_cases h : g = f <;> simp [h, ifK]
def dfindK {α : Type} (kvs : List (D × α)) (d : D) (k : α → Prop) : Prop := ∃ x, dFind kvs d = some x ∧ k x
@[simp] theorem fPut_nil {α : Type} {f : Str} {x : α} : fPut f x [] = [(f, x)] := rfl
@[simp] theorem fPut_cons {α : Type} {f g : Str} {x y : α} {r} : fPut f x ((g, y) :: r) = if g = f then (g, x) :: r else (g, y) :: fPut f x r := rfl
theorem ex_map {α β : Type} {o : Option α} {f : α → β} {k : β → Prop} : (∃ t, o.map f = some t ∧ k t) = ∃ d, o = some d ∧ k (f d) := by
  cases o <;> simp
@[simp ↓] theorem o1_fld {cs : List Nat} {f : Str} {c : Nat} {fs : List (Str × D)} {k : T → Prop} : op1K (fFld cs f) (.obj c fs) k = (c ∈ cs ∧ findK fs f fun d => k (.imm d)) := by
  unfold op1K fFld findK
  dsimp only
  by_cases h : c ∈ cs
  · simp only [if_pos h, h, true_and]
    exact ex_map
  · simp [h]
@[simp ↓] theorem o2_ix_dct {b : Bool} {kvs : List (D × D)} {d : D} {k : T → Prop} : op2K fIx (.dct b kvs) d k = (isKey b d = true ∧ dfindK kvs d fun x => k (.imm x)) := by
  have e : fIx (.dct b kvs) d = if isKey b d then (dFind kvs d).map T.imm else none := by cases d <;> rfl
  unfold op2K dfindK
  rw [e]
  by_cases h : isKey b d = true
  · simp only [h, if_true, true_and]
    exact ex_map
  · simp [h]
theorem dIn_dct {b : Bool} {kvs : List (D × D)} {d : D} : dIn d (.dct b kvs) = if isKey b d then some (dFind kvs d).isSome else none := by
  cases d <;> rfl
@[simp ↓] theorem o2_in_dct {b : Bool} {kvs : List (D × D)} {d : D} {k : T → Prop} : op2K fIn d (.dct b kvs) k = (isKey b d = true ∧ k (.imm (.bl (dFind kvs d).isSome))) := by
  unfold op2K fIn
  rw [dIn_dct]
  by_cases h : isKey b d = true <;> simp [h]
@[simp ↓] theorem o2_notIn_dct {b : Bool} {kvs : List (D × D)} {d : D} {k : T → Prop} : op2K fNotIn d (.dct b kvs) k = (isKey b d = true ∧ k (.imm (.bl (!(dFind kvs d).isSome)))) := by
  unfold op2K fNotIn
  rw [dIn_dct]
  by_cases h : isKey b d = true <;> simp [h]
@[simp] theorem isKey_int {i : Int} : isKey false (.int i) = true := rfl
@[simp] theorem isKey_str {i : Str} : isKey false (.str i) = true := rfl
@[simp] theorem isKey_tupT {l : List D} : isKey true (.tup l) = l.all isKey1 := Bool.true_and _
@[simp] theorem isKey1_int {i : Int} : isKey1 (.int i) = true := rfl
@[simp] theorem isKey1_str {i : Str} : isKey1 (.str i) = true := rfl
@[simp ↓] theorem b_list_dct {kvs : List (D × D)} {k : T → Prop} : bltK bList [.dct false kvs] k = k (.lst (ims (kvs.map (·.1)))) := by simp [bltK, bList]
@[simp ↓] theorem b_dict_dct {kvs : List (D × D)} {k : T → Prop} : bltK bDict [.dct false kvs] k = k (.dct false (imK kvs)) := by simp [bltK, bDict]
theorem toKs_map : ∀ l : List (D × T), T.toKs l = l.map fun p => (p.1, p.2.toD)
  | [] => rfl
  | (k, t) :: r => by show (k, t.toD) :: T.toKs r = _; rw [toKs_map r]; rfl
@[simp] theorem toKs_imK (kvs : List (D × D)) : T.toKs (imK kvs) = kvs := by
  rw [toKs_map, imK, List.map_map]
  exact List.map_id' kvs
@[simp ↓ high] theorem toK_imK {b : Bool} {kvs k} : toK (.dct b (imK kvs)) k = k (.dct b kvs) := by
  show k (.dct b (T.toKs (imK kvs))) = _; rw [toKs_imK]
@[simp ↓] theorem toK_dct {b : Bool} {kvs k} : toK (.dct b kvs) k = k (.dct b (T.toKs kvs)) := rfl
def toFsK (fs : List (Str × T)) (k : List (Str × D) → Prop) : Prop := k (T.toFs fs)
@[simp ↓] theorem toFsK_nil {k} : toFsK [] k = k [] := rfl
@[simp ↓] theorem toFsK_cons {f : Str} {t : T} {r k} : toFsK ((f, t) :: r) k = toK t fun d => toFsK r fun ds => k ((f, d) :: ds) := rfl
@[simp ↓] theorem toK_obj {c : Nat} {fs k} : toK (.obj c fs) k = toFsK fs fun ds => k (.obj c ds) := rfl
@[simp] theorem toFs_nil : T.toFs [] = [] := rfl
@[simp] theorem toFs_cons {k : Str} {t : T} {r} : T.toFs ((k, t) :: r) = (k, t.toD) :: T.toFs r := rfl
@[simp] theorem toKs_nil : T.toKs [] = [] := rfl
@[simp] theorem toD_dct {b : Bool} {l} : (T.dct b l).toD = .dct b (T.toKs l) := rfl
@[simp] theorem toD_obj {c : Nat} {l} : (T.obj c l).toD = .obj c (T.toFs l) := rfl
section
variable {st : St} {K : T → St → Prop} {E : X → St → Prop}
@[simp ↓ high] theorem varK_imK {b : Bool} {kvs st i K} : varK (some (.dct b (imK kvs))) st i K = putK st i (some (.imm (.dct b kvs))) (K (.imm (.dct b kvs))) := by
  show putK st i (some (.imm (T.dct b (imK kvs)).toD)) (K (.imm (T.dct b (imK kvs)).toD)) = _
  rw [toD_dct, toKs_imK]
@[simp ↓] theorem varK_dct {b : Bool} {kvs st i K} : varK (some (.dct b kvs)) st i K = putK st i (some (.imm (.dct b (T.toKs kvs)))) (K (.imm (.dct b (T.toKs kvs)))) := rfl
@[simp ↓] theorem varK_obj {c : Nat} {fs st i K} : varK (some (.obj c fs)) st i K = toFsK fs fun ds => putK st i (some (.imm (.obj c ds))) (K (.imm (.obj c ds))) := rfl
@[simp ↓] theorem run_dct {b : Bool} : Run (sDctK b) st K E = K (.dct b []) st := rfl
@[simp ↓] theorem isDct_dct {b : Bool} {kvs} : D.isDct (.dct b kvs) = true := rfl
@[simp ↓] theorem o1_get2 {b : Bool} {kvs : List (D × D)} {d x : D} {k : T → Prop} : op1K (fGet2 (.dct b kvs) d) x k = (isKey b d = true ∧ k (.imm ((dFind kvs d).getD x))) := by
  have e : fGet2 (.dct b kvs) d x = if isKey b d then some (.imm ((dFind kvs d).getD x)) else none := by cases d <;> rfl
  unfold op1K
  rw [e]
  exact ex_ite
end
def pathK (p : List Stp) (s : Stp) (k : List Stp → Prop) : Prop := k (p ++ [s])
@[simp ↓] theorem pathK_nil {s k} : pathK [] s k = k [s] := rfl
@[simp ↓] theorem pathK_cons {a p s k} : pathK (a :: p) s k = pathK p s fun q => k (a :: q) := rfl
abbrev KP := List Stp → St → Prop
def RunK (m : Sk) (st : St) (K : KP) (E : X → St → Prop) : Prop := Run m st K E
theorem run_noxm {α : Type} {m : Sm α} {st : St} {K : α → St → Prop} {E : X → St → Prop} : Run (nox m) st K E = Run m st K fun _ _ => False := by
  unfold Run nox
  cases m st <;> rfl
section
variable {st : St} {K : KP} {E : X → St → Prop}
@[simp ↓] theorem runK_nil : RunK kNil st K E = K [] st := rfl
@[simp ↓] theorem runK_fld {r cs f} : RunK (kFld r cs f) st K E = RunK r st (fun p s => pathK p (.fld cs f) fun q => K q s) E := by
  unfold RunK kFld; rw [run_b]; rfl
@[simp ↓] theorem runK_ix {r m} : RunK (kIx r m) st K E = RunK r st (fun p s => Run m s (fun t s => toK t fun d => pathK p (.ix d) fun q => K q s) fun _ _ => False) E := by
  unfold RunK kIx; rw [run_b]; simp only [run_b, run_noxm]; rfl
end
def ixK (n : Nat) (i : Int) (k : Nat → Prop) : Prop := ∃ j, ixI n i = some j ∧ k j
def stpK (t : T) (s : Stp) (k : T → Prop) : Prop := ∃ x, t.stp s = some x ∧ k x
@[simp ↓] theorem stpK_obj {c fs cs f k} : stpK (.obj c fs) (.fld cs f) k = (c ∈ cs ∧ findK fs f k) := by
  unfold stpK findK
  show (∃ x, (if c ∈ cs then fFind fs f else none) = some x ∧ k x) = _
  by_cases h : c ∈ cs <;> simp [h]
@[simp ↓] theorem stpK_dct {b kvs d k} : stpK (.dct b kvs) (.ix d) k = (isKey b d = true ∧ dfindK kvs d k) := by
  unfold stpK dfindK
  have e : T.stp (.dct b kvs) (.ix d) = if isKey b d then dFind kvs d else none := by cases d <;> rfl
  rw [e]
  by_cases h : isKey b d = true <;> simp [h]
@[simp ↓] theorem stpK_lst {l i k} : stpK (.lst l) (.ix (.int i)) k = ixK l.length i fun j => ∃ x, l[j]? = some x ∧ k x := by
  unfold stpK ixK
  show (∃ x, ((ixI l.length i).bind fun j => l[j]?) = some x ∧ k x) = _
  cases ixI l.length i <;> simp
@[simp ↓] theorem stpK_immF {d cs f k} : stpK (.imm d) (.fld cs f) k = op1K (fFld cs f) d k := rfl
@[simp ↓] theorem stpK_immI {d i k} : stpK (.imm d) (.ix i) k = op2K fIx d i k := rfl
def getPK (t : T) (p : List Stp) (k : T → Prop) : Prop := ∃ x, t.get p = some x ∧ k x
@[simp ↓] theorem getPK_nil {t k} : getPK t [] k = k t := by simp [getPK, T.get]
@[simp ↓] theorem getPK_cons {t s p k} : getPK t (s :: p) k = stpK t s fun t' => getPK t' p k := by
  unfold getPK stpK
  show (∃ x, (t.stp s).bind (fun t' => t'.get p) = some x ∧ k x) = _
  cases t.stp s <;> simp
def updK (t : T) (s : Stp) (x : T) (k : T → Prop) : Prop := ∃ u, t.upd1 s x = some u ∧ k u
@[simp ↓] theorem updK_obj {c fs cs f x k} : updK (.obj c fs) (.fld cs f) x k = (c ∈ cs ∧ k (.obj c (fPut f x fs))) := by
  unfold updK
  exact ex_ite
@[simp ↓] theorem updK_dct {b kvs d x k} : updK (.dct b kvs) (.ix d) x k = (isKey b d = true ∧ k (.dct b (dPut kvs d x))) := by
  have e : T.upd1 (.dct b kvs) (.ix d) x = if isKey b d then some (.dct b (dPut kvs d x)) else none := by cases d <;> rfl
  unfold updK
  rw [e]
  exact ex_ite
@[simp ↓] theorem updK_lst {l i x k} : updK (.lst l) (.ix (.int i)) x k = ixK l.length i fun j => k (.lst (l.set j x)) := by
  unfold updK ixK
  show (∃ u, (ixI l.length i).map (fun j => T.lst (l.set j x)) = some u ∧ k u) = _
  cases ixI l.length i <;> simp
def putPK (t : T) (p : List Stp) (x : T) (k : T → Prop) : Prop := ∃ u, t.put p x = some u ∧ k u
@[simp ↓] theorem putPK_nil {t x k} : putPK t [] x k = k x := by simp [putPK, T.put]
@[simp ↓] theorem putPK_cons {t s p x k} : putPK t (s :: p) x k = stpK t s fun t' => putPK t' p x fun u => updK t s u k := by
  unfold putPK stpK updK
  show (∃ u, (t.stp s).bind (fun t' => (t'.put p x).bind fun t'' => t.upd1 s t'') = some u ∧ k u) = _
  cases t.stp s with
  | none => simp
  | some t' =>
    simp only [Option.bind_some, Option.some.injEq, exists_eq_left']
    cases t'.put p x <;> simp
/-- what a place holds: plain, or as data from here on -/
def leafK (s t : T) (p : List Stp) (k : T → D → Prop) : Prop := match s with
  | .imm d => k t d
  | s => putPK t p (.imm s.toD) fun u => k u s.toD
@[simp ↓] theorem leafK_imm {d t p k} : leafK (.imm d) t p k = k t d := rfl
@[simp ↓] theorem leafK_lst {l t p k} : leafK (.lst l) t p k = putPK t p (.imm (.lst (T.toDs l))) fun u => k u (.lst (T.toDs l)) := rfl
@[simp ↓ high] theorem leafK_ims {l t p k} : leafK (.lst (ims l)) t p k = putPK t p (.imm (.lst l)) fun u => k u (.lst l) := by
  rw [leafK_lst, toDs_ims]
@[simp ↓] theorem leafK_dct {b l t p k} : leafK (.dct b l) t p k = putPK t p (.imm (.dct b (T.toKs l))) fun u => k u (.dct b (T.toKs l)) := rfl
@[simp ↓] theorem leafK_obj {c l t p k} : leafK (.obj c l) t p k = toFsK l fun ds => putPK t p (.imm (.obj c ds)) fun u => k u (.obj c ds) := rfl
section
variable {st : St} {K : T → St → Prop} {E : X → St → Prop}
@[simp ↓] theorem run_get {i r} : Run (sGet i r) st K E = getK st i fun o => lendK o fun t => putK st i none fun s => RunK r s (fun p s => getPK t p fun x => leafK x t p fun u d => putK s i (some u) (K (.imm d))) E := by
  rw [getK_eq]
  unfold Run sGet lendK
  cases e : st[i]? with
  | none => rfl
  | some o => cases o with
    | none => rfl
    | some t =>
      simp only [Option.getD_some, putK_eq]
      unfold RunK Run
      cases r (st.set i none) with
      | no => rfl
      | ex => rfl
      | ok p s =>
        simp only [bind_ok]
        unfold getPK getT
        cases e2 : t.get p with
        | none => simp
        | some x =>
          simp only [Option.some.injEq, exists_eq_left']
          cases x with
          | imm d => simp [leafK, putK_eq]
          | lst l => simp only [leafK, putPK, putK_eq]; cases t.put p (.imm (T.lst l).toD) <;> simp
          | dct b l => simp only [leafK, putPK, putK_eq]; cases t.put p (.imm (T.dct b l).toD) <;> simp
          | obj c l => simp only [leafK, putPK, putK_eq]; cases t.put p (.imm (T.obj c l).toD) <;> simp
          | tup l => simp only [leafK, putPK, putK_eq]; cases t.put p (.imm (T.tup l).toD) <;> simp
end
/-- what stands at a place changed -/
def modPK (t : T) (p : List Stp) (F : T → (T → T → Prop) → Prop) (k : T → T → Prop) (_ : Tg k) : Prop := getPK t p fun s => F s fun s' r => putPK t p s' fun u => k u r
theorem modPK_eq {t p f} {k : T → T → Prop} : (∃ q, modT t p f = some q ∧ k q.1 q.2) = modPK t p (fun s k => ∃ r, f s = some r ∧ k r.1 r.2) k ⟨⟩ := by
  unfold modPK getPK putPK modT
  cases t.get p with
  | none => simp
  | some s =>
    simp only [Option.bind_some, Option.some.injEq, exists_eq_left']
    cases f s with
    | none => simp
    | some r =>
      simp only [Option.bind_some, Option.some.injEq, exists_eq_left']
      cases t.put p r.1 <;> simp
def stIxK (s : T) (d : D) (v : T) (k : T → T → Prop) : Prop := ∃ r, stIx s [.imm d, v] = some r ∧ k r.1 r.2
@[simp ↓] theorem stIxK_dct {b l d v k} : stIxK (.dct b l) d v k = ((isKey b d = true ∧ l.length < line) ∧ k (.dct b (dPut l d v)) (.imm .non)) := by
  have e : stIx (.dct b l) [.imm d, v] = if isKey b d ∧ l.length < line then some (.dct b (dPut l d v), .imm .non) else none := by cases d <;> rfl
  unfold stIxK
  rw [e]
  by_cases h : isKey b d = true ∧ l.length < line
  · simp only [h, and_self, if_true, true_and, Option.some.injEq, exists_eq_left']
  · rw [if_neg h]
    simp only [h, false_and]
    simp
@[simp ↓] theorem stIxK_lst {l i v k} : stIxK (.lst l) (.int i) v k = ixK l.length i fun j => k (.lst (l.set j v)) (.imm .non) := by
  unfold stIxK ixK
  show (∃ r, (ixI l.length i).map (fun j => (T.lst (l.set j v), T.imm .non)) = some r ∧ k r.1 r.2) = _
  cases ixI l.length i <;> simp
def stFldK (cs : List Nat) (f : Str) (s v : T) (k : T → T → Prop) : Prop := ∃ r, stFld cs f s [v] = some r ∧ k r.1 r.2
@[simp ↓] theorem stFldK_obj {cs f c l v k} : stFldK cs f (.obj c l) v k = ((c ∈ cs ∧ l.length < 1000) ∧ k (.obj c (fPut f v l)) (.imm .non)) := by
  unfold stFldK
  show (∃ r, (if c ∈ cs ∧ l.length < 1000 then some (T.obj c (fPut f v l), T.imm .non) else none) = some r ∧ k r.1 r.2) = _
  by_cases h : c ∈ cs ∧ l.length < 1000 <;> simp [h]
section
variable {st : St} {K : Fl → St → Prop} {E : X → St → Prop}
@[simp ↓] theorem run_stI {i r m e} : Run (sStI i r m e) st K E = Run e st (fun v s => getK s i fun o => lendK o fun t => putK s i none fun s => RunK r s (fun p s => Run m s (fun kt s => toK kt fun d => modPK t p (fun x q => stIxK x d v q) (fun u _ => putK s i (some u) (K .nx)) ⟨⟩) fun _ _ => False) E) E := by
  unfold sStI
  rw [run_b]
  congr 1
  funext v s
  rw [getK_eq]
  unfold Run lendK
  dsimp only
  cases e : s[i]? with
  | none => rfl
  | some o => cases o with
    | none => rfl
    | some t =>
      simp only [Option.getD_some, putK_eq]
      unfold RunK Run nox
      cases r (s.set i none) with
      | no => rfl
      | ex => rfl
      | ok p s =>
        simp only [bind_ok]
        cases m s with
        | no => rfl
        | ex => rfl
        | ok kt s =>
          simp only [bind_ok]
          have := modPK_eq (t := t) (p := p) (f := fun s => stIx s [.imm kt.toD, v]) (k := fun u _ => putK s i (some u) (K .nx))
          refine Eq.trans ?_ this
          cases modT t p (fun s => stIx s [.imm kt.toD, v]) <;> simp [putK_eq]
@[simp ↓] theorem run_stF {i r cs f e} : Run (sStF i r cs f e) st K E = Run e st (fun v s => getK s i fun o => lendK o fun t => putK s i none fun s => RunK r s (fun p s => modPK t p (fun x q => stFldK cs f x v q) (fun u _ => putK s i (some u) (K .nx)) ⟨⟩) E) E := by
  unfold sStF
  rw [run_b]
  congr 1
  funext v s
  rw [getK_eq]
  unfold Run lendK
  dsimp only
  cases e : s[i]? with
  | none => rfl
  | some o => cases o with
    | none => rfl
    | some t =>
      simp only [Option.getD_some, putK_eq]
      unfold RunK Run
      cases r (s.set i none) with
      | no => rfl
      | ex => rfl
      | ok p s =>
        simp only [bind_ok]
        have := modPK_eq (t := t) (p := p) (f := fun s => stFld cs f s [v]) (k := fun u _ => putK s i (some u) (K .nx))
        refine Eq.trans ?_ this
        cases modT t p (fun s => stFld cs f s [v]) <;> simp [putK_eq]
end
@[simp ↓] theorem modPK_def {t p F} {k : T → T → Prop} {g} : modPK t p F k g = getPK t p fun s => F s fun s' r => putPK t p s' fun u => k u r := rfl
section
variable {st : St} {K : T → St → Prop} {E : X → St → Prop}
def methTK (f : T → List T → Option (T × T)) (s : T) (ts : List T) (k : T → T → Prop) : Prop := ∃ r, f s ts = some r ∧ k r.1 r.2
@[simp ↓] theorem methTK_lst {f l ts k} : methTK (lstM f) (.lst l) ts k = methK f l ts (fun l' r => k (.lst l') r) ⟨⟩ := by
  unfold methTK methK
  show (∃ r, (f l ts).map (fun r => (T.lst r.1, r.2)) = some r ∧ k r.1 r.2) = _
  cases f l ts <;> simp
@[simp ↓] theorem run_methP {i r f a} : Run (sMethP i r f a) st K E = getK st i fun o => lendK o fun t => putK st i none fun s => RunK r s (fun p s => RunA a s (fun ts _ s => modPK t p (fun x q => methTK f x ts q) (fun u v => putK s i (some u) (K v)) ⟨⟩) fun _ _ => False) E := by
  rw [getK_eq]
  unfold Run sMethP lendK
  cases e : st[i]? with
  | none => rfl
  | some o => cases o with
    | none => rfl
    | some t =>
      simp only [Option.getD_some, putK_eq]
      unfold RunK Run nox
      cases r (st.set i none) with
      | no => rfl
      | ex => rfl
      | ok p s =>
        simp only [bind_ok]
        unfold RunA Run
        cases a s with
        | no => rfl
        | ex => rfl
        | ok q s =>
          simp only [bind_ok]
          have := modPK_eq (t := t) (p := p) (f := fun s => f s q.1) (k := fun u v => putK s i (some u) (K v))
          refine Eq.trans ?_ this
          cases modT t p (fun s => f s q.1) <;> simp [putK_eq]
def isObjK (t : T) (c : Nat) (m : Str) (k : Prop) : Prop := t.isObj c m = true ∧ k
@[simp ↓] theorem isObjK_imm {c c' fs m k} : isObjK (.imm (.obj c fs)) c' m k = ((c = c' ∧ fFind fs m = none) ∧ k) := by
  unfold isObjK
  show ((decide (c = c') && (fFind fs m).isNone) = true ∧ k) = _
  simp
@[simp ↓] theorem isObjK_obj {c c' fs m k} : isObjK (.obj c fs) c' m k = ((c = c' ∧ fFind fs m = none) ∧ k) := by
  unfold isObjK
  show ((decide (c = c') && (fFind fs m).isNone) = true ∧ k) = _
  simp
@[simp] theorem fFind_nil {α : Type} {f : Str} : fFind ([] : List (Str × α)) f = none := rfl
@[simp] theorem fFind_cons {α : Type} {g f : Str} {x : α} {r} : fFind ((g, x) :: r) f = if g = f then some x else fFind r f := rfl
@[simp ↓] theorem run_methV {c m g e a} : Run (sMethV c m g e a) st K E = Run e st (fun t s => isObjK t c m (RunA a s (fun ts ls s => RunF g (t :: ts) (fun v ps => wbK (none :: ls) ps s (K v)) (fun x ps => wbK (none :: ls) ps s (E x)) ⟨⟩) E)) E := by
  unfold sMethV
  rw [run_b]
  congr 1
  funext t s
  unfold isObjK
  unfold RunA Run
  dsimp only
  by_cases h : t.isObj c m = true
  · rw [if_pos h]
    simp only [h, true_and]
    cases a s with
    | no => rfl
    | ex => rfl
    | ok q s =>
      simp only [bind_ok]
      unfold RunF wbK
      cases g (t :: q.1) <;> rfl
  · rw [if_neg h]
    simp [h]
@[simp ↓] theorem run_methL {c m g i a} : Run (sMethL c m g i a) st K E = getK st i fun o => lendK o fun t => isObjK t c m (putK st i none fun s => RunA a s (fun ts ls s => RunF g (t :: ts) (fun v ps => wbK (some i :: ls) ps s (K v)) (fun x ps => wbK (some i :: ls) ps s (E x)) ⟨⟩) E) := by
  rw [getK_eq]
  unfold Run sMethL lendK
  cases e : st[i]? with
  | none => rfl
  | some o => cases o with
    | none => rfl
    | some t =>
      simp only [Option.getD_some, putK_eq]
      unfold isObjK
      by_cases h : t.isObj c m = true
      · rw [if_pos h]
        simp only [h, true_and]
        unfold RunA Run
        cases a (st.set i none) with
        | no => rfl
        | ex => rfl
        | ok q s =>
          simp only [bind_ok]
          unfold RunF wbK
          cases g (t :: q.1) <;> rfl
      · rw [if_neg h]
        simp [h]
def makeK (t : T) (ps : List (Option T)) (k : T → List (Option T) → Prop) : Prop := match t, ps with
  | .imm .non, some u :: ps => k u ps
  | _, _ => False
@[simp ↓] theorem makeK_some {u ps k} : makeK (.imm .non) (some u :: ps) k = k u ps := rfl
def dropPK (ps : List (Option T)) (k : List (Option T) → Prop) : Prop := match ps with
  | _ :: ps => k ps
  | [] => False
@[simp ↓] theorem dropPK_cons {o ps k} : dropPK (o :: ps) k = k ps := rfl
@[simp ↓] theorem run_make {c g a} : Run (sMake c g a) st K E = RunA a st (fun ts ls s => RunF g (.obj c [] :: ts) (fun t ps => makeK t ps fun u ps => wbK ls ps s (K u)) (fun x ps => dropPK ps fun ps => wbK ls ps s (E x)) ⟨⟩) E := by
  unfold sMake RunA
  rw [run_b]
  congr 1
  funext p s
  unfold Run RunF
  dsimp only
  cases e : g (.obj c [] :: p.1) with
  | no => rfl
  | ret t ps =>
    unfold makeK wbK
    cases t with
    | imm d =>
      cases d with
      | non =>
        cases ps with
        | nil => rfl
        | cons o ps => cases o <;> rfl
      | _ => rfl
    | _ => rfl
  | ex x ps =>
    unfold dropPK wbK
    cases ps <;> rfl
end
section
variable {st : St} {K : List D → St → Prop} {E : X → St → Prop}
def revDK (d : D) (k : List D → Prop) : Prop := match d with
  | .lst l => k l.reverse
  | .rol l => k l.reverse
  | .tup l => k l.reverse
  | _ => False
@[simp ↓] theorem revDK_lst {l k} : revDK (.lst l) k = k l.reverse := rfl
@[simp ↓] theorem revDK_tup {l k} : revDK (.tup l) k = k l.reverse := rfl
@[simp ↓] theorem runI_rev {m} : RunI (iRev m) st K E = Run m st (fun t s => toK t fun d => revDK d fun l => K l s) E := by
  unfold RunI iRev; rw [run_b]
  congr 1
  funext t s
  unfold toK revDK Run
  cases t.toD <;> rfl
def enumDK (d : D) (k : List D → Prop) : Prop := match d with
  | .lst l => k (enumD 0 l)
  | .rol l => k (enumD 0 l)
  | _ => False
@[simp ↓] theorem enumDK_lst {l k} : enumDK (.lst l) k = k (enumD 0 l) := rfl
@[simp ↓] theorem runI_enum {m} : RunI (iEnum m) st K E = Run m st (fun t s => toK t fun d => enumDK d fun l => K l s) E := by
  unfold RunI iEnum; rw [run_b]
  congr 1
  funext t s
  unfold toK enumDK Run
  cases t.toD <;> rfl
def strDK (d : D) (k : List D → Prop) : Prop := match d with
  | .str s => k (s.cps.toList.map fun c => .str ⟨#[c]⟩)
  | _ => False
@[simp ↓] theorem strDK_str {s k} : strDK (.str s) k = k (s.cps.toList.map fun c => .str ⟨#[c]⟩) := rfl
@[simp ↓] theorem runI_str {m} : RunI (iStr m) st K E = Run m st (fun t s => toK t fun d => strDK d fun l => K l s) E := by
  unfold RunI iStr; rw [run_b]
  congr 1
  funext t s
  unfold toK strDK Run
  cases t.toD <;> rfl
def zipDK (a b : D) (k : List D → Prop) : Prop := match a, b with
  | .lst l, .lst m => k (zipD l m)
  | _, _ => False
@[simp ↓] theorem zipDK_lst {l m k} : zipDK (.lst l) (.lst m) k = k (zipD l m) := rfl
@[simp ↓] theorem runI_zip {a b} : RunI (iZip a b) st K E = Run a st (fun x s => toK x fun d => Run b s (fun y s => toK y fun d' => zipDK d d' fun l => K l s) E) E := by
  unfold RunI iZip; rw [run_b]
  simp only [run_b]
  congr 1
  funext x s
  unfold toK
  congr 1
  funext y s
  unfold zipDK Run
  cases x.toD <;> (try rfl)
  cases y.toD <;> rfl
def keysDK (d : D) (k : List D → Prop) : Prop := match d with
  | .dct false l => k (l.map (·.1))
  | _ => False
@[simp ↓] theorem keysDK_dct {l k} : keysDK (.dct false l) k = k (l.map (·.1)) := rfl
@[simp ↓] theorem runI_dct {i} : RunI (iDct i) st K E = Run (sVar i) st (fun t s => toK t fun d => keysDK d fun l => K l s) E := by
  unfold RunI iDct; rw [run_b]
  congr 1
  funext t s
  unfold toK keysDK Run
  cases t.toD with
  | dct b l => cases b <;> rfl
  | _ => rfl
end
theorem run_noxB {m : Ss} {st : St} {K : Fl → St → Prop} {E : X → St → Prop} : Run (noxS m) st K E = Run m st K fun _ _ => False := by
  unfold Run noxS
  cases m st <;> rfl
@[simp ↓] theorem run_noxS' {m : Ss} {st : St} {K : Fl → St → Prop} {E : X → St → Prop} : Run (noxS m) st K E = Run m st K fun _ _ => False := run_noxB
@[simp ↓] theorem run_forD {j : Nat} {g : Pat} {body : Ss} {st : St} {K : Fl → St → Prop} {E : X → St → Prop} : Run (sForD j g body) st K E = RunI (iDct j) st (fun ds s => RunL g (noxS body) ds s K E ⟨⟩) E := by
  unfold sForD; rw [run_for]
end G
set_option Elab.async false
set_option linter.all false
namespace G
open PySem
def Won : Fl → St → Prop := fun f _ => f = .rt (.imm (.bl true))
@[simp ↓] theorem won_rt {t : T} {s : St} : Won (.rt t) s = (t = .imm (.bl true)) := by simp [Won]
def NoX : X → St → Prop := fun _ _ => False
theorem won_law {n : Nat} {fx : List Nat} {body : Ss} {ns : List Int} (hn : 1 ≤ n) (h : Run body (some (.imm (script ns)) :: List.replicate (n - 1) none) Won NoX) : True' (sDef 1 n fx body) ns := by
  refine True'.mk ?_
  rw [sp_def (by rfl) hn, mkSt_eq _ _ _ (by simpa using hn)]
  refine Run.mono h (fun f s q => ?_) fun _ _ z => z
  unfold Won at q
  subst q
  rfl
def truK (t : T) (A B : Prop) : Prop := match truT t with
  | some true => A
  | some false => B
  | none => False
@[simp ↓] theorem truK_non {A B} : truK (.imm .non) A B = B := rfl
@[simp ↓] theorem truK_tup {a l A B} : truK (.imm (.tup (a :: l))) A B = A := rfl
@[simp ↓] theorem run_orD {a b : Sm T} {st : St} {K : T → St → Prop} {E : X → St → Prop} : Run (sOrD a b) st K E = Run a st (fun t s => truK t (K t s) (Run b s K E)) E := by
  unfold sOrD
  rw [run_b]
  congr 1
  funext t s
  unfold truK Run
  cases truT t with
  | none => rfl
  | some k => cases k <;> rfl
def parK (ds : List D) (s : St) (i j : Nat) (k : St → Prop) : Prop := match ds with
  | [d, e] => putK s i (some (.imm d)) fun s => putK s j (some (.imm e)) k
  | _ => False
@[simp ↓] theorem parK_two {d e s i j k} : parK [d, e] s i j k = putK s i (some (.imm d)) fun s => putK s j (some (.imm e)) k := rfl
@[simp ↓] theorem run_par {i j : Nat} {a : Sa} {st : St} {K : Fl → St → Prop} {E : X → St → Prop} : Run (sPar i j a) st K E = RunA a st (fun ts _ s => toDsK ts fun ds => parK ds s i j (K .nx)) E := by
  unfold sPar RunA
  rw [run_b]
  congr 1
  funext p s
  dsimp only
  rw [toDsK_eq]
  generalize T.toDs p.1 = ds
  unfold parK Run
  cases ds with
  | nil => rfl
  | cons d ds => cases ds with
    | nil => rfl
    | cons e ds => cases ds with
      | nil => simp only [putK_eq]
      | cons _ _ => rfl
end G
set_option Elab.async false
set_option linter.all false
namespace G
open PySem
section
variable {st : St} {K : Fl → St → Prop} {E : X → St → Prop}
@[simp ↓] theorem run_raise {c : Nat} : Run (sRaise c) st K E = E ⟨c, []⟩ st := rfl
@[simp ↓] theorem run_raiseF {c : Nat} {f : Str} {ok : D → Bool} {m : Sm T} : Run (sRaiseF c f ok m) st K E = Run m st (fun t s => toK t fun d => ok d = true ∧ E ⟨c, [(f, d)]⟩ s) E := by
  unfold sRaiseF
  rw [run_b]
  congr 1
  funext t s
  unfold Run toK
  dsimp only
  cases h : ok t.toD <;> simp
def tryK (l : List Nat) (h : Nat) (x : X) (A B : Prop) : Prop := x.cls ∈ l ∧ ifK (xsub x.cls h = true) A B
@[simp ↓] theorem run_tryK {l : List Nat} {h i j : Nat} {m : Ss} : Run (sTryK l h i j m) st K E = Run m st K (fun x s => tryK l h x (putK s j (some (.imm (.exn x.cls x.fs))) fun s => putK s i none (K .nx)) (E x s)) := by
  unfold sTryK Run tryK
  dsimp only
  cases e : m st with
  | no => rfl
  | ok f s => rfl
  | ex x s =>
    dsimp only
    simp only [putK_eq]
    by_cases hc : x.cls ∈ l
    · rw [if_pos hc]
      cases h : xsub x.cls h
      · rw [if_neg (by decide)]; simp [ifK, hc]
      · rw [if_pos rfl]; simp [ifK, hc]
    · rw [if_neg hc]; simp [hc]
end
section
variable {k : T → Prop} {l : List Nat} {c c' : Nat} {fs : List (Str × D)} {f : Str}
@[simp ↓] theorem o1_isx_non : op1K (fIsx l c') .non k = k (.imm (.bl false)) := by simp [op1K, fIsx, some1]
@[simp ↓] theorem o1_isx' : op1K (fIsx l c') (.exn c fs) k = (c ∈ l ∧ k (.imm (.bl (xsub c c')))) := by
  unfold op1K fIsx
  exact ex_ite
@[simp ↓] theorem o1_fldx : op1K (fFldX l f) (.exn c fs) k = (c ∈ l ∧ atK (fFind fs f) k) := by
  unfold op1K fFldX atK
  by_cases h : c ∈ l
  · simp only [h, if_true, true_and]
    cases fFind fs f <;> simp
  · simp [h]
end
end G
set_option Elab.async false
set_option linter.all false
namespace G
open PySem
/-- what a turn leaves -/
def ownK (f : Fl) (o : Option T) (A : T → Prop) (k : Fl → Prop) : Prop := match o with
  | some t => match f with
    | .nx => A t
    | .ct => A t
    | .rt (.imm (.bl b)) => k (.rt (.imm (.bl b)))
    | _ => False
  | none => False
@[simp ↓] theorem ownK_nx {t A k} : ownK .nx (some t) A k = A t := rfl
@[simp ↓] theorem ownK_ct {t A k} : ownK .ct (some t) A k = A t := rfl
@[simp ↓] theorem ownK_rt {b t A k} : ownK (.rt (.imm (.bl b))) (some t) A k = k (.rt (.imm (.bl b))) := rfl
def RunW (j i : Nat) (body : Ss) (done l : List T) (st : St) (K : Fl → St → Prop) (E : X → St → Prop) (_ : Tg (K, E)) : Prop := Run (loopO j i body done l) st K E
section
variable {j i : Nat} {body : Ss} {done : List T} {st : St} {K : Fl → St → Prop} {E : X → St → Prop} {t0 : Tg (K, E)}
def tlK (o : Option T) (k : List T → Prop) : Prop := match o with
  | some (.lst l) => k l
  | _ => False
@[simp ↓] theorem tlK_lst {l k} : tlK (some (.lst l)) k = k l := rfl
@[simp ↓] theorem run_forO : Run (sForO j i body) st K E = getK st j fun o => tlK o fun l => i < st.length ∧ putK st j none fun s => RunW j i body [] l s K E ⟨⟩ := by
  rw [getK_eq]
  unfold Run sForO
  cases e : st[j]? with
  | none => rfl
  | some o =>
    cases o with
    | none => rfl
    | some t =>
      cases t with
      | lst l =>
        dsimp only [Option.getD_some]
        unfold tlK
        dsimp only
        rw [putK_eq]
        by_cases h : i < st.length
        · rw [if_pos h]; simp only [h, true_and]; rfl
        · rw [if_neg h]; simp [h]
      | _ => rfl
end
end G
set_option Elab.async false
set_option linter.all false
namespace G
open PySem
end G
set_option Elab.async false
set_option linter.all false
namespace G
open PySem
section
variable {st : St} {K : T → St → Prop} {E : X → St → Prop}
def wideK (t : T) (k : Prop) : Prop := t.wide = true ∧ k
@[simp ↓] theorem run_viewW {m : Sm T} : Run (sViewW m) st K E = frzK st fun s => Run m s (fun t _ => wideK t (K t st)) fun _ _ => False := by
  unfold Run sViewW frzK wideK
  dsimp only
  cases m (frzSt st) with
  | no => rfl
  | ex => rfl
  | ok t s => cases h : t.wide <;> simp [h]
end
end G
set_option Elab.async false
set_option linter.all false
namespace G
open PySem
end G
set_option Elab.async false
set_option linter.all false
namespace G
open PySem
section
variable {st : St} {K : T → St → Prop} {E : X → St → Prop}
def bareK (x : X) (k : Prop) : Prop := x.fs = [] ∧ k
@[simp ↓] theorem bareK_nil {c : Nat} {k : Prop} : bareK ⟨c, []⟩ k = k := by simp [bareK]
@[simp ↓] theorem run_viewX {m : Sm T} : Run (sViewX m) st K E = frzK st fun s => Run m s (fun t _ => scalK t (K t st)) fun x _ => bareK x (E x st) := by
  unfold Run sViewX frzK scalK bareK
  dsimp only
  cases m (frzSt st) with
  | no => rfl
  | ex x s => cases h : x.fs <;> simp [h]
  | ok t s => cases h : t.scal <;> simp [h]
end
end G
set_option Elab.async false
set_option linter.all false
namespace G
open PySem
section
variable {st : St} {K : T → St → Prop} {E : X → St → Prop}
@[simp ↓] theorem run_tupO {a} : Run (sTupO a) st K E = RunA a st (fun ts _ s => ts.length ≤ 1000 ∧ K (.tup ts) s) E := by
  unfold sTupO RunA; rw [run_b]
  congr 1
  funext p s
  unfold Run
  by_cases h : p.1.length ≤ 1000 <;> simp [h]
end
end G
set_option Elab.async false
set_option linter.all false
namespace G
open PySem
@[simp ↓] theorem toK_tup {l : List T} {k : D → Prop} : toK (.tup l) k = k (.tup (T.toDs l)) := rfl
@[simp ↓] theorem varK_tup {l : List T} {st : St} {i : Nat} {K : T → St → Prop} : varK (some (.tup l)) st i K = putK st i (some (.imm (.tup (T.toDs l)))) (K (.imm (.tup (T.toDs l)))) := rfl
@[simp ↓] theorem stpK_tup {l : List T} {i : Int} {k : T → Prop} : stpK (.tup l) (.ix (.int i)) k = ixK l.length i fun j => ∃ x, l[j]? = some x ∧ k x := by
  unfold stpK ixK
  show (∃ x, ((ixI l.length i).bind fun j => l[j]?) = some x ∧ k x) = _
  cases ixI l.length i <;> simp
@[simp ↓] theorem updK_tup {l : List T} {i : Int} {x : T} {k : T → Prop} : updK (.tup l) (.ix (.int i)) x k = ixK l.length i fun j => k (.tup (l.set j x)) := by
  unfold updK ixK
  show (∃ u, (ixI l.length i).map (fun j => T.tup (l.set j x)) = some u ∧ k u) = _
  cases ixI l.length i <;> simp
@[simp ↓] theorem leafK_tup {l : List T} {t : T} {p : List Stp} {k : T → D → Prop} : leafK (.tup l) t p k = putPK t p (.imm (.tup (T.toDs l))) fun u => k u (.tup (T.toDs l)) := rfl
end G
set_option Elab.async false
set_option linter.all false
set_option maxRecDepth 100000
namespace G
open PySem
@[simp ↓] theorem o1_vals {l : List (D × D)} {k : T → Prop} : op1K fVals (.dct false l) k = k (.lst (ims (l.map (·.2)))) := by simp [op1K, fVals]
/-- the last one of a list -/
def lastK (t : T) (k : T → Prop) : Prop := match t with
  | .lst l => match l[l.length - 1]? with
    | some (.imm d) => k (.imm d)
    | _ => False
  | _ => False
@[simp ↓] theorem run_popV {m : Sm T} {st : St} {K : T → St → Prop} {E : X → St → Prop} : Run (sPopV m) st K E = Run m st (fun t s => lastK t fun t => K t s) E := by
  unfold sPopV
  rw [run_b]
  congr 1
  funext t s
  unfold Run popV1 lastK
  cases t with
  | lst l =>
    dsimp only
    cases l[l.length - 1]? with
    | none => rfl
    | some x => cases x <;> rfl
  | _ => rfl
end G
set_option Elab.async false
set_option linter.all false
namespace G
open PySem
def RunM (i : Nat) (body : Ss) (l : List T) (st : St) (K : Fl → St → Prop) (E : X → St → Prop) (_ : Tg (K, E)) : Prop := Run (loopM i body l) st K E
section
variable {i : Nat} {body : Ss} {st : St} {K : Fl → St → Prop} {E : X → St → Prop} {t0 : Tg (K, E)} {m : Sm T}
def ownLK (t : T) (k : List T → Prop) : Prop := match t with
  | .lst l => k l
  | _ => False
@[simp ↓] theorem ownLK_lst {l k} : ownLK (.lst l) k = k l := rfl
@[simp ↓] theorem run_forM : Run (sForM i m body) st K E = Run m st (fun t s => ownLK t fun l => i < s.length ∧ RunM i body l s K E ⟨⟩) E := by
  unfold sForM
  rw [run_b]
  congr 1
  funext t s
  cases t with
  | lst l =>
    dsimp only [ownLK]
    by_cases h : i < s.length
    · unfold RunM Run
      dsimp only
      rw [if_pos h]; simp only [h, true_and]
    · unfold Run
      dsimp only
      rw [if_neg h]; simp [h]
  | _ => rfl
end
end G
set_option Elab.async false
set_option linter.all false
namespace G
open PySem
def keysTK (o : Option T) (k : List D → D → Prop) : Prop := match o with
  | some t => toK t fun d => match d with
    | .dct true kvs => k (kvs.map (·.1)) d
    | _ => False
  | none => False
@[simp ↓] theorem keysTK_imm {kvs : List (D × D)} {k} : keysTK (some (.imm (.dct true kvs))) k = k (kvs.map (·.1)) (.dct true kvs) := rfl
@[simp ↓] theorem keysTK_dct {kvs : List (D × T)} {k} : keysTK (some (.dct true kvs)) k = k ((T.toKs kvs).map (·.1)) (.dct true (T.toKs kvs)) := rfl
@[simp ↓] theorem run_forT {j : Nat} {g : Pat} {body : Ss} {st : St} {K : Fl → St → Prop} {E : X → St → Prop} : Run (sForT j g body) st K E = getK st j fun o => keysTK o fun ds d => putK st j (some (.imm d)) fun s => RunL g (noxS body) ds s K E ⟨⟩ := by
  rw [getK_eq]
  unfold Run sForT keysTK
  cases e : st[j]? with
  | none => rfl
  | some o =>
    cases o with
    | none => rfl
    | some t =>
      dsimp only [Option.getD_some]
      unfold toK
      cases t.toD with
      | dct b kvs =>
        cases b with
        | false => rfl
        | true =>
          dsimp only
          rw [putK_eq]
          rfl
      | _ => rfl
end G
set_option Elab.async false
set_option linter.all false
set_option maxRecDepth 100000
namespace G
open PySem
@[simp] theorem bits_l0 : bits 0 = 0 := by decide +kernel
@[simp] theorem bits_l1 : bits 1 = 0 := by decide +kernel
@[simp] theorem bits_l2 : bits 2 = 1 := by decide +kernel
@[simp] theorem bits_l3 : bits 3 = 1 := by decide +kernel
@[simp] theorem bits_l4 : bits 4 = 2 := by decide +kernel
@[simp] theorem bits_l5 : bits 5 = 2 := by decide +kernel
@[simp] theorem bits_l6 : bits 6 = 2 := by decide +kernel
@[simp] theorem bits_l7 : bits 7 = 2 := by decide +kernel
@[simp] theorem bits_l8 : bits 8 = 3 := by decide +kernel
@[simp] theorem bits_l9 : bits 9 = 3 := by decide +kernel
@[simp] theorem bits_l10 : bits 10 = 3 := by decide +kernel
@[simp] theorem bits_l11 : bits 11 = 3 := by decide +kernel
@[simp] theorem bits_l12 : bits 12 = 3 := by decide +kernel
@[simp] theorem bits_l13 : bits 13 = 3 := by decide +kernel
@[simp] theorem bits_l18 : bits 18 = 4 := by decide +kernel
@[simp] theorem bits_l25 : bits 25 = 4 := by decide +kernel
@[simp] theorem bits_l26 : bits 26 = 4 := by decide +kernel
@[simp] theorem bits_l60 : bits 60 = 5 := by decide +kernel
@[simp] theorem bits_l63 : bits 63 = 5 := by decide +kernel
@[simp] theorem bits_l97 : bits 97 = 6 := by decide +kernel
@[simp] theorem bits_l100 : bits 100 = 6 := by decide +kernel
@[simp] theorem bits_l120 : bits 120 = 6 := by decide +kernel
@[simp] theorem bits_l144 : bits 144 = 7 := by decide +kernel
@[simp] theorem bits_l301 : bits 301 = 8 := by decide +kernel
@[simp] theorem bits_l700 : bits 700 = 9 := by decide +kernel
@[simp] theorem bits_l864 : bits 864 = 9 := by decide +kernel
@[simp] theorem bits_l900 : bits 900 = 9 := by decide +kernel
@[simp] theorem bits_l1000003 : bits 1000003 = 19 := by decide +kernel
@[simp] theorem bits_l982451653 : bits 982451653 = 29 := by decide +kernel
@[simp] theorem bits_l2147483587 : bits 2147483587 = 30 := by decide +kernel
@[simp] theorem bits_l2147483629 : bits 2147483629 = 30 := by decide +kernel
@[simp] theorem bits_l1000000000000000000 : bits 1000000000000000000 = 59 := by decide +kernel
@[simp] theorem bits_l1000000000000000009 : bits 1000000000000000009 = 59 := by decide +kernel
@[simp] theorem bits_l1152921504606846976 : bits 1152921504606846976 = 60 := by decide +kernel
@[simp] theorem bits_l999999999999999999999999999999999999999999999999999999999999 : bits 999999999999999999999999999999999999999999999999999999999999 = 199 := by decide +kernel
@[simp] theorem bits_l1000000000000000000000000000000000000000000000000000000000000 : bits 1000000000000000000000000000000000000000000000000000000000000 = 199 := by decide +kernel
@[simp] theorem bits_l1999999999999999999999999999999999999999999999999999999999999 : bits 1999999999999999999999999999999999999999999999999999999999999 = 200 := by decide +kernel
@[simp] theorem bits_l2000000000000000000000000000000000000000000000000000000000000 : bits 2000000000000000000000000000000000000000000000000000000000000 = 200 := by decide +kernel
def s_l_measureB : Ss :=
sSeq (sSetF 1 (sLst (aVal (sCst (.int 2)) (aVal (sCst (.int 7)) (aVal (sCst (.int 97)) (aVal (sOp2 fPow (sCst (.int 10)) (sCst (.int 60))) (aVal (sOp2 fSub (sOp2 fPow (sCst (.int 10)) (sCst (.int 60))) (sCst (.int 1))) (aVal (sOp2 fPow (sCst (.int 2)) (sCst (.int 60))) (aNil))))))))) (
sSeq (sIf (sTest (sOp2 fGt (sOp2 fMod (sVar 0) (sCst (.int 4))) (sCst (.int 1)))) (
sRet (sOp2 fIx (sVar 1) (sOp2 fMod (sOp2 fDiv (sVar 0) (sCst (.int 4))) (sCst (.int 6))))) (sPass)) (
sSeq (sIf (sTest (sOp2 fEq (sOp2 fMod (sVar 0) (sCst (.int 4))) (sCst (.int 1)))) (
sRet (sOp2 fAdd (sCst (.int 2)) (sOp2 fMod (sOp2 fDiv (sVar 0) (sCst (.int 4))) (sOp2 fSub (sOp2 fPow (sCst (.int 10)) (sCst (.int 60))) (sCst (.int 1)))))) (sPass)) (
sRet (sOp2 fAdd (sCst (.int 2)) (sOp2 fMod (sOp2 fMul (sOp2 fAdd (sOp2 fMul (sVar 0) (sVar 0)) (sVar 0)) (sCst (.int 982451653))) (sOp2 fSub (sOp2 fPow (sCst (.int 10)) (sCst (.int 60))) (sCst (.int 1))))))))
def s_l_measure : Fn := sDef 1 2 [] s_l_measureB
def s_l_wholeB : Ss :=
sRet (sAndV (sUn (fIsi .int) (sVar 0)) (sNotV (sUn (fIsi .bl) (sVar 0))))
def s_l_whole : Fn := sDef 1 1 [] s_l_wholeB
def s_l_drawn_atB : Ss :=
sSeq (sIf (sTest (sOp2 fLt (sVar 1) (sBlt bLen (aVal (sVar 0) (aNil))))) (
sRet (sOp2 fIx (sVar 0) (sVar 1))) (sPass)) (
sRet (sCst (.int 0)))
def s_l_drawn_at : Fn := sDef 2 2 [] s_l_drawn_atB
def s_l_namesB : Ss :=
sSeq (sSetF 2 (sCst (.str "abcdefghijklmnopqrstuvwxyz"))) (
sSeq (sSetF 3 (sOp2 fMul (sOp2 fAdd (sOp2 fAdd (sOp2 fMul (sVar 0) (sVar 0)) (sVar 0)) (sCst (.int 1))) (sCst (.int 982451653)))) (
sSeq (sSetF 4 (sOp2 fAdd (sCst (.int 1)) (sOp2 fMod (sVar 3) (sCst (.int 12))))) (
sSeq (sSetF 5 (sOp2 fMod (sOp2 fDiv (sVar 3) (sCst (.int 12))) (sVar 4))) (
sSeq (sSetF 6 (sLC [7] (iRange rng1 (aVal (sVar 4) (aNil))) (gName 7) (bYes) (sOp2 fIx (sVar 2) (sOp2 fMod (sOp2 fAdd (sOp2 fDiv (sVar 3) (sOp2 fAdd (sVar 7) (sCst (.int 5)))) (sOp2 fMul (sVar 7) (sVar 7))) (sCst (.int 26)))))) (
sSeq (sSetF 8 (sOp2 fIx (sLst (aVal (sCst (.int 1)) (aVal (sCst (.int 3)) (aVal (sCst (.int 5)) (aVal (sCst (.int 7)) (aVal (sCst (.int 9)) (aVal (sCst (.int 11)) (aNil)))))))) (sOp2 fMod (sOp2 fDiv (sVar 3) (sCst (.int 144))) (sCst (.int 6))))) (
sSeq (sSet 9 (sLst (aNil))) (
sSeq (sFor (iRange rng1 (aVal (sVar 1) (aNil))) (gName 7) (
sSeq (sSetF 10 (sOp2 fIx (sVar 2) (sOp2 fMod (sOp2 fAdd (sOp2 fDiv (sVar 3) (sCst (.int 864))) (sOp2 fMul (sVar 7) (sVar 8))) (sCst (.int 26))))) (
sIf (sTest (sOp2 fEq (sOp2 fMod (sOp2 fDiv (sVar 3) (sCst (.int 900))) (sCst (.int 3))) (sCst (.int 1)))) (
sExpr (sMeth 9 mAppend (aVal (sOp2 fMul (sOp2 fIx (sVar 6) (sCst (.int 0))) (sOp2 fAdd (sOp2 fMod (sOp2 fAdd (sVar 7) (sOp2 fDiv (sVar 3) (sCst (.int 7)))) (sCst (.int 12))) (sCst (.int 1)))) (aNil)))) (sExpr (sMeth 9 mAppend (aVal (sOp2 fAdd (sOp2 fAdd (sStr1 fJoin (sCst (.str "")) (sSlice (sVar 6) (oNone) (oSome (sVar 5)))) (sVar 10)) (sStr1 fJoin (sCst (.str "")) (sSlice (sVar 6) (oSome (sOp2 fAdd (sVar 5) (sCst (.int 1)))) (oNone)))) (aNil))))))) (
sRet (sMv 9)))))))))
def s_l_names : Fn := sDef 2 11 [] s_l_namesB
def s_l_numberB : Ss :=
sSeq (sIf (sTest (sOp2 fEq (sOp2 fMod (sVar 0) (sCst (.int 4))) (sCst (.int 0)))) (
sRet (sOp2 fMod (sOp2 fDiv (sVar 0) (sCst (.int 4))) (sCst (.int 13)))) (sPass)) (
sSeq (sIf (sTest (sOp2 fEq (sOp2 fMod (sVar 0) (sCst (.int 4))) (sCst (.int 1)))) (
sRet (sOp2 fMod (sOp2 fDiv (sVar 0) (sCst (.int 4))) (sOp2 fPow (sCst (.int 10)) (sCst (.int 60))))) (sPass)) (
sSeq (sSetF 1 (sOp2 fMod (sOp2 fMul (sOp2 fAdd (sOp2 fAdd (sOp2 fMul (sVar 0) (sVar 0)) (sVar 0)) (sCst (.int 1))) (sCst (.int 982451653))) (sOp2 fAdd (sOp2 fPow (sCst (.int 10)) (sCst (.int 18))) (sCst (.int 9))))) (
sRet (sOp2 fMod (sOp2 fMul (sOp2 fMul (sOp2 fMul (sVar 1) (sVar 1)) (sVar 1)) (sCst (.int 982451653))) (sOp2 fPow (sCst (.int 10)) (sCst (.int 60)))))))
def s_l_number : Fn := sDef 1 2 [] s_l_numberB
def s_l_leafB : Ss :=
sSeq (sSetF 3 (sOp2 fMod (sVar 1) (sCst (.int 8)))) (
sSeq (sIf (sViewB (bAnd (sTest (sOp2 fEq (sVar 3) (sCst (.int 0)))) (bAnd (sTest (sOp2 fEq (sOp2 fMod (sOp2 fDiv (sVar 1) (sCst (.int 8))) (sCst (.int 3))) (sCst (.int 1)))) (sTest (sOp2 fGt (sBlt bLen (aVal (sVar 2) (aNil))) (sCst (.int 60))))))) (
sSeq (sSetF 4 (sCst (.int 0))) (
sSeq (sFor (iRange rng1 (aVal (sCst (.int 10)) (aNil))) (gName 5) (
sSetF 4 (sOp2 fAdd (sOp2 fMul (sVar 4) (sCst (.int 1000003))) (sMeth 2 mPop aNil)))) (
sRet (sTup (aVal (sCst (.str "number")) (aVal (sOp2 fMod (sVar 4) (sOp2 fPow (sCst (.int 10)) (sCst (.int 60)))) (aNil))))))) (sPass)) (
sSeq (sIf (sTest (sOp2 fEq (sVar 3) (sCst (.int 0)))) (
sRet (sTup (aVal (sCst (.str "number")) (aVal (sCall s_l_number (aVal (sOp2 fDiv (sVar 1) (sCst (.int 8))) (aNil))) (aNil))))) (sPass)) (
sSeq (sIf (sTest (sOp2 fLt (sVar 3) (sCst (.int 3)))) (
sRet (sOp2 fIx (sLst (aVal (sTup (aVal (sCst (.str "x")) (aNil))) (aVal (sTup (aVal (sCst (.str "y")) (aNil))) (aNil)))) (sOp2 fSub (sVar 3) (sCst (.int 1))))) (sPass)) (
sSeq (sSetF 6 (sOp2 fIx (sVar 0) (sOp2 fSub (sUn fNeg (sCst (.int 1))) (sOp2 fMod (sOp2 fDiv (sVar 1) (sCst (.int 8))) (sBlt bLen (aVal (sVar 0) (aNil))))))) (
sSeq (sIf (sTest (sOp2 fLt (sVar 3) (sCst (.int 6)))) (
sSetF 6 (sOp2 fIx (sVar 0) (sOp2 fSub (sUn fNeg (sCst (.int 1))) (sOp2 fMod (sOp2 fDiv (sVar 1) (sCst (.int 8))) (sBlt bMin2 (aVal (sCst (.int 2)) (aVal (sBlt bLen (aVal (sVar 0) (aNil))) (aNil)))))))) (sPass)) (
sRet (sTup (aVal (sCst (.str "read")) (aVal (sVar 6) (aVal (sOp2 fSub (sOp2 fMod (sOp2 fDiv (sVar 1) (sCst (.int 100))) (sCst (.int 7))) (sCst (.int 3))) (aVal (sOp2 fSub (sOp2 fMod (sOp2 fDiv (sVar 1) (sCst (.int 700))) (sCst (.int 7))) (sCst (.int 3))) (aNil))))))))))))
def s_l_leaf : Fn := sDef 3 7 [2] s_l_leafB
def s_l_formulaB (rec : Fn) : Ss :=
sSeq (sSetF 3 (sMeth 1 mPop aNil)) (
sSeq (sIf (bOr (sTest (sOp2 fEq (sVar 2) (sCst (.int 0)))) (sTest (sOp2 fLt (sOp2 fMod (sVar 3) (sCst (.int 5))) (sCst (.int 2))))) (
sRet (sCall s_l_leaf (aVal (sVar 0) (aVal (sOp2 fDiv (sVar 3) (sCst (.int 5))) (aLend 1 (aNil)))))) (sPass)) (
sSeq (sSetF 4 (sOp2 fIx (sLst (aVal (sCst (.str "sum")) (aVal (sCst (.str "less")) (aVal (sCst (.str "times")) (aVal (sCst (.str "least")) (aVal (sCst (.str "most")) (aVal (sCst (.str "pick")) (aNil)))))))) (sOp2 fMod (sOp2 fDiv (sVar 3) (sCst (.int 5))) (sCst (.int 6))))) (
sSeq (sSet 5 (sLst (aNil))) (
sSeq (sFor (iRange rng1 (aVal (sOp2 fAdd (sCst (.int 2)) (sBlt bInt (aVal (sOp2 fEq (sVar 4) (sCst (.str "pick"))) (aNil)))) (aNil))) (gName 6) (
sExpr (sMeth 5 mAppend (aVal (sCall rec (aVal (sVar 0) (aLend 1 (aVal (sOp2 fSub (sVar 2) (sCst (.int 1))) (aNil))))) (aNil))))) (
sRet (sOp2 fAdd (sTup (aVal (sVar 4) (aNil))) (sBlt bTuple (aVal (sVar 5) (aNil)))))))))
def s_l_formula : Nat → Fn
  | 0 => fun _ => .no
  | n + 1 => sDef 3 7 [1] (s_l_formulaB (s_l_formula n))
def s_l_grownB : Ss :=
sSeq (sSetF 2 (sCall (s_l_formula 12) (aVal (sVar 0) (aLend 1 (aVal (sCst (.int 3)) (aNil)))))) (
sSeq (sFor (iRange rng1 (aVal (sOp2 fMod (sMeth 1 mPop aNil) (sCst (.int 5))) (aNil))) (gName 3) (
sSeq (sSetF 4 (sMeth 1 mPop aNil)) (
sSeq (sSetF 5 (sCall s_l_leaf (aVal (sVar 0) (aVal (sOp2 fDiv (sVar 4) (sCst (.int 10))) (aLend 1 (aNil)))))) (
sSeq (sSetF 6 (sOp2 fIx (sLst (aVal (sCst (.str "sum")) (aVal (sCst (.str "less")) (aVal (sCst (.str "times")) (aVal (sCst (.str "least")) (aVal (sCst (.str "most")) (aNil))))))) (sOp2 fMod (sVar 4) (sCst (.int 5))))) (
sSetF 2 (sOp2 fIx (sLst (aVal (sTup (aVal (sVar 6) (aVal (sVar 5) (aVal (sVar 2) (aNil))))) (aVal (sTup (aVal (sVar 6) (aVal (sVar 2) (aVal (sVar 5) (aNil))))) (aNil)))) (sOp2 fMod (sOp2 fDiv (sVar 4) (sCst (.int 5))) (sCst (.int 2))))))))) (
sRet (sVar 2)))
def s_l_grown : Fn := sDef 2 7 [1] s_l_grownB
def s_l_digits2B : Ss :=
sSeq (sSetF 3 (sBlt bSum (aVal (sLC [4] (iRange rng3 (aVal (sVar 1) (aVal (sBlt bMin2 (aVal (sBlt bLen (aVal (sVar 0) (aNil))) (aVal (sCst (.int 63)) (aNil)))) (aVal (sVar 2) (aNil))))) (gName 4) (bYes) (sOp2 fIx (sVar 0) (sVar 4))) (aNil)))) (
sSeq (sSet 5 (sLst (aNil))) (
sSeq (sSetF 6 (sOp2 fMod (sVar 3) (sCst (.int 2147483629)))) (
sSeq (sSetF 7 (sOp2 fDiv (sVar 3) (sCst (.int 2)))) (
sSeq (sFor (iRange rng1 (aVal (sCst (.int 120)) (aNil))) (gName 4) (
sSeq (sSetF 6 (sOp2 fMod (sOp2 fAdd (sOp2 fAdd (sOp2 fMul (sVar 6) (sVar 6)) (sVar 3)) (sVar 4)) (sCst (.int 2147483629)))) (
sSeq (sExpr (sMeth 5 mAppend (aVal (sOp2 fMod (sOp2 fIx (sLst (aVal (sVar 7) (aVal (sOp2 fMod (sOp2 fMul (sVar 6) (sVar 6)) (sCst (.int 2147483587))) (aNil)))) (sOp2 fMod (sVar 3) (sCst (.int 2)))) (sCst (.int 1000003))) (aNil)))) (
sSetF 7 (sOp2 fDiv (sVar 7) (sCst (.int 1000003))))))) (
sRet (sUn fRev (sVar 5)))))))
def s_l_digits2 : Fn := sDef 3 8 [] s_l_digits2B
end G
set_option Elab.async false
set_option linter.all false
set_option maxRecDepth 100000
namespace G
open PySem PySem.Builtin.Int
inductive W2 where
  | sum | less | times | least | most
def W2.s : W2 → Str
  | .sum => "sum"
  | .less => "less"
  | .times => "times"
  | .least => "least"
  | .most => "most"
@[simp] theorem s_number (w : W2) : (w.s = Str.ofString "number") = False := by cases w <;> simp [W2.s]
@[simp] theorem s_x (w : W2) : (w.s = Str.ofString "x") = False := by cases w <;> simp [W2.s]
@[simp] theorem s_y (w : W2) : (w.s = Str.ofString "y") = False := by cases w <;> simp [W2.s]
@[simp] theorem s_read (w : W2) : (w.s = Str.ofString "read") = False := by cases w <;> simp [W2.s]
@[simp] theorem s_pick (w : W2) : (w.s = Str.ofString "pick") = False := by cases w <;> simp [W2.s]
@[simp] theorem number_s (w : W2) : (Str.ofString "number" = w.s) = False := by cases w <;> simp [W2.s]
@[simp] theorem x_s (w : W2) : (Str.ofString "x" = w.s) = False := by cases w <;> simp [W2.s]
@[simp] theorem y_s (w : W2) : (Str.ofString "y" = w.s) = False := by cases w <;> simp [W2.s]
@[simp] theorem read_s (w : W2) : (Str.ofString "read" = w.s) = False := by cases w <;> simp [W2.s]
@[simp] theorem flat_ws (w : W2) (n : Nat) : D.flat n (.str w.s) = true := by cases w <;> exact flat_str _ _
/-- a formula -/
inductive Fm where
  | num (z : Int) | x | y | read (s : Str) (p q : Int) | bin (w : W2) (a b : Fm) | pick (a b c : Fm)
def dF : Fm → D
  | .num z => .tup [.str "number", .int z]
  | .x => .tup [.str "x"]
  | .y => .tup [.str "y"]
  | .read s p q => .tup [.str "read", .str s, .int p, .int q]
  | .bin w a b => .tup [.str w.s, dF a, dF b]
  | .pick a b c => .tup [.str "pick", dF a, dF b, dF c]
def Fm.word : Fm → Str
  | .num _ => "number"
  | .x => "x"
  | .y => "y"
  | .read _ _ _ => "read"
  | .bin w _ _ => w.s
  | .pick _ _ _ => "pick"
def Fm.rest : Fm → List D
  | .num z => [.int z]
  | .x => []
  | .y => []
  | .read s p q => [.str s, .int p, .int q]
  | .bin _ a b => [dF a, dF b]
  | .pick a b c => [dF a, dF b, dF c]
theorem dF_eq (f : Fm) : dF f = .tup (.str f.word :: f.rest) := by cases f <;> rfl
def Fm.ht : Fm → Nat
  | .bin _ a b => max a.ht b.ht + 1
  | .pick a b c => max a.ht (max b.ht c.ht) + 1
  | _ => 1
def reads : Fm → List (Str × Int × Int)
  | .read s p q => [(s, p, q)]
  | .bin _ a b => reads a ++ reads b
  | .pick a b c => reads a ++ (reads b ++ reads c)
  | _ => []
def dRd (r : Str × Int × Int) : D := .tup [.str r.1, .int r.2.1, .int r.2.2]
@[simp] theorem dRds_length (l : List (Str × Int × Int)) : (l.map dRd).length = l.length := by simp
theorem ix0_dF {f : Fm} {k : T → Prop} : op2K fIx (dF f) (.int 0) k = k (.imm (.str f.word)) := by
  rw [dF_eq, o2_ix_tup]; simp
theorem ht_pos (f : Fm) : 0 < f.ht := by cases f <;> simp [Fm.ht]
def W2.app (w : W2) (m a b : Int) : Int := match w with
  | .sum => (a + b) % m
  | .less => (a - b) % m
  | .times => a * b % m
  | .least => if b < a then b else a
  | .most => if b > a then b else a
def worthF (m x y : Int) : Fm → List Int → Int
  | .num z, _ => z % m
  | .x, _ => x % m
  | .y, _ => y % m
  | .read _ _ _, ns => ns.headD 0 % m
  | .bin w a b, ns => w.app m (worthF m x y a (ns.take (reads a).length)) (worthF m x y b (ns.drop (reads a).length))
  | .pick a b c, ns => if worthF m x y a (ns.take (reads a).length) = 0 then worthF m x y c ((ns.drop (reads a).length).drop (reads b).length) else worthF m x y b ((ns.drop (reads a).length).take (reads b).length)
end G
set_option Elab.async false
set_option linter.all false
set_option maxRecDepth 100000
set_option maxHeartbeats 4000000
namespace G
open PySem PySem.Builtin.Int
def mkS (l : List Nat) : Str := ⟨l.toArray⟩
theorem mkS_app (a b : List Nat) : mkS a ++ mkS b = mkS (a ++ b) := by
  show Str.append _ _ = _
  simp [Str.append, mkS]
theorem mkS_len (a : List Nat) : (mkS a).length = a.length := by simp [Str.length, mkS]
theorem mkS_inj {a b : List Nat} (h : mkS a = mkS b) : a = b := by
  injection h with h
  exact Array.mk.inj h
theorem foldl_app (a : Array Nat) : ∀ (n : Nat) (acc : Array Nat), ((List.replicate n a).foldl (· ++ ·) acc).toList = acc.toList ++ (List.replicate n a.toList).flatten
  | 0, acc => by simp
  | n + 1, acc => by
    rw [List.replicate_succ, List.foldl_cons, foldl_app a n, List.replicate_succ, List.flatten_cons]
    simp
theorem mul_one (c : Nat) (k : Int) (h : 1 ≤ k) : Txt.mul (mkS [c]) k = mkS (List.replicate k.toNat c) := by
  unfold Txt.mul
  rw [if_neg (by omega)]
  by_cases e : k = 1
  · subst e; simp [mkS]
  · have hn : ¬ ((k == 1 || (mkS [c]).length == 0) = true) := by simp [e, mkS_len]
    rw [if_neg hn]
    unfold mkS
    congr 1
    apply Array.toList_inj.mp
    rw [foldl_app]
    simp
theorem join_chs (l : List Nat) : Txt.join (Str.ofString "") (l.map fun c => mkS [c]) = mkS l := by
  show PySem.Builtin.Str.glued (Str.ofString "") _ = _
  rw [StrLaws.glued_eq_join]
  have e : Str.ofString "" = mkS [] := by decide +kernel
  rw [e]
  induction l with
  | nil => rfl
  | cons c r ih =>
    cases r with
    | nil => rfl
    | cons d r =>
      show mkS [c] ++ mkS [] ++ PySem.Str.join (mkS []) ((d :: r).map fun c => mkS [c]) = _
      rw [ih, mkS_app, mkS_app]
      rfl
theorem letters : (Str.ofString "abcdefghijklmnopqrstuvwxyz").cps.toList = (List.range 26).map (97 + ·) := by decide +kernel
theorem ix_letters {i : Int} {k : T → Prop} (h : 0 ≤ i) (h' : i < 26) : op2K fIx (.str (Str.ofString "abcdefghijklmnopqrstuvwxyz")) (.int i) k = k (.imm (.str (mkS [97 + i.toNat]))) := by
  have hl : (Str.ofString "abcdefghijklmnopqrstuvwxyz").length ≤ line := by
    unfold Str.length
    rw [← Array.length_toList, letters]; simp
  unfold op2K
  simp only [fIx, if_pos hl, letters]
  have : atI ((List.range 26).map (97 + ·)) i = some (97 + i.toNat) := by
    unfold atI
    rw [if_pos h]
    have : i.toNat < 26 := by omega
    simp [this]
  rw [this]
  simp [mkS]
theorem rng_range (n : Nat) : rng 0 1 n = (List.range n).map fun (k : Nat) => D.int k := by
  have h : ∀ (n j : Nat), rng (j : Int) 1 n = (List.range' j n).map fun (k : Nat) => D.int k := by
    intro n
    induction n with
    | zero => intro j; rfl
    | succ n ih =>
      intro j
      rw [show rng (j : Int) 1 (n + 1) = .int j :: rng ((j : Int) + 1) 1 n from rfl, List.range'_succ, List.map_cons]
      congr 1
      exact_mod_cast ih (j + 1)
  rw [List.range_eq_range']
  exact h n 0
theorem cut_take {α : Type} (l : List α) (i : Int) (h : 0 ≤ i) : cutL l none (some i) = l.take i.toNat := by
  have e : cutAt l.length l.length (some i) = min i.toNat l.length := by
    simp only [cutAt]
    rw [if_neg (by omega)]
  have e0 : cutAt l.length 0 none = 0 := rfl
  unfold cutL
  rw [e, e0, List.drop_zero, Nat.sub_zero]
  rw [List.take_eq_take_iff]
  omega
theorem cut_drop {α : Type} (l : List α) (i : Int) (h : 0 ≤ i) : cutL l (some i) none = l.drop i.toNat := by
  have e : cutAt l.length 0 (some i) = min i.toNat l.length := by
    simp only [cutAt]
    rw [if_neg (by omega)]
  have e0 : cutAt l.length l.length none = l.length := rfl
  unfold cutL
  rw [e, e0]
  by_cases q : i.toNat ≤ l.length
  · rw [Nat.min_eq_left q, List.take_of_length_le (by simp)]
  · rw [Nat.min_eq_right (by omega), List.drop_of_length_le (by omega : l.length ≤ i.toNat)]
    simp
theorem o2_add_str {x y : Str} {k : T → Prop} : op2K fAdd (.str x) (.str y) k = (x.length + y.length ≤ line ∧ k (.imm (.str (x ++ y)))) := ex_ite
theorem o2_mul_str {x : Str} {i : Int} {k : T → Prop} : op2K fMul (.str x) (.int i) k = ((i < 1000000 ∧ -1000000 < i ∧ x.length ≤ 10000 ∧ x.length * i.toNat ≤ line) ∧ k (.imm (.str (Txt.mul x i)))) := ex_ite
theorem allS_map : ∀ l : List Str, allS (l.map D.str) = some l
  | [] => rfl
  | x :: r => by
    show (allS (r.map D.str)).map (x :: ·) = _
    rw [allS_map r]; rfl
theorem op_join {a : Str} {l : List Str} {k : T → Prop} : opSK fJoin a (.lst (l.map D.str)) k = ((l.map (·.length)).sum + l.length * a.length ≤ line ∧ k (.imm (.str (Txt.join a l)))) := by
  unfold opSK fJoin
  simp only [allS_map]
  exact ex_ite
theorem op_join1 {l : List Nat} {k : T → Prop} (h : l.length ≤ 1000) : opSK fJoin (Str.ofString "") (.lst (l.map fun c => D.str (mkS [c]))) k = k (.imm (.str (mkS l))) := by
  have e : (l.map fun c => D.str (mkS [c])) = (l.map fun c => mkS [c]).map D.str := by simp
  rw [e, op_join, join_chs]
  have hs : ((l.map fun c => mkS [c]).map (·.length)).sum = l.length := by
    induction l with
    | nil => rfl
    | cons c r ih =>
      have := ih (by simp at h; omega) (by simp)
      simp only [List.map_cons, List.sum_cons, this, mkS_len, List.length_cons, List.length_nil]
      omega
  have hz : (Str.ofString "").length = 0 := by decide +kernel
  rw [hs, hz]
  simp
  omega
def Nms (nm : Nat → List Nat) (n : Nat) : Prop := (∀ k < n, 1 ≤ (nm k).length ∧ (nm k).length ≤ 12 ∧ ∀ c ∈ nm k, 97 ≤ c ∧ c ≤ 122) ∧ ∀ i j, i < j → j < n → nm i ≠ nm j
def dNs (nm : Nat → List Nat) (n : Nat) : List D := (List.range n).map fun k => D.str (mkS (nm k))
theorem names_run {d : Int} (hd : Bd 2000000 d) (n : Nat) (hn : n ≤ 12) : Sp s_l_names [.imm (.int d), .imm (.int n)] fun t ps => ps = [none, none] ∧ ∃ nm, Nms nm n ∧ t = .lst (ims (dNs nm n)) := by
  rw [s_l_names, sp_def (by rfl) (by decide), s_l_namesB]
  simp
  have h1 := Bd.mulOk hd hd (by decide)
  have h2 := bits_le (((hd.mul hd).add hd).add (j := 1) (n := 1) (Bd.lit (by decide +kernel)))
  rw [mulLine_eq] at h1
  refine ⟨h1, by omega, ?_⟩
  generalize (d * d + d + 1) * 982451653 = m
  have hlong : 0 ≤ m % 12 ∧ m % 12 < 12 := by omega
  obtain ⟨l, hl, hl0, hl1⟩ : ∃ l : Nat, (1 + m % 12) = (l : Int) ∧ 1 ≤ l ∧ l ≤ 12 := ⟨(1 + m % 12).toNat, by omega, by omega, by omega⟩
  rw [hl]
  have hat0 := Int.emod_nonneg (m / 12) (b := (l : Int)) (by omega)
  have hat1 := Int.emod_lt_of_pos (m / 12) (b := (l : Int)) (by omega)
  obtain ⟨at', hat, hat2⟩ : ∃ a : Nat, m / 12 % (l : Int) = (a : Int) ∧ a < l := ⟨(m / 12 % (l : Int)).toNat, by omega, by omega⟩
  rw [hat]
  refine ⟨by omega, ⟨by omega, by omega⟩, ?_⟩
  rw [Int.toNat_natCast, rng_range]
  refine RunLC.mapM (fun k : Nat => D.int k) (fun k : Nat => T.imm (.str (mkS [97 + ((m / ((k : Int) + 5) + k * k) % 26).toNat]))) (fun k hk => ?_) (by simp; omega) ?_
  · have hk := List.mem_range.mp hk
    have b1 : bits ((k : Int) + 5) < 9000 := by
      have := bits_le (Bd.range (m := 60) (i := (k : Int) + 5) (by omega) (by omega))
      omega
    have b2 : bits (k : Int) + bits (k : Int) < 134000000 := by
      have := bits_le (Bd.range (m := 60) (i := (k : Int)) (by omega) (by omega))
      omega
    have b3 : 0 < (k : Int) + 5 := by omega
    simp [b1, b2, b3]
    rw [ix_letters (by omega) (by omega)]
    simp [wipe]
  · have hB : T.toDs ((List.range l).map fun k : Nat => T.imm (.str (mkS [97 + ((m / ((k : Int) + 5) + k * k) % 26).toNat]))) = ((List.range l).map fun k : Nat => 97 + ((m / ((k : Int) + 5) + k * k) % 26).toNat).map fun c => D.str (mkS [c]) := by
      simp [toDs_map]
    simp only [hB]
    have hb1 : ((List.range l).map fun k : Nat => 97 + ((m / ((k : Int) + 5) + k * k) % 26).toNat).length = l := by simp
    have hb2 : ∀ c ∈ ((List.range l).map fun k : Nat => 97 + ((m / ((k : Int) + 5) + k * k) % 26).toNat), 97 ≤ c ∧ c ≤ 122 := by
      intro c hc
      obtain ⟨k, _, rfl⟩ := List.mem_map.mp hc
      omega
    generalize ((List.range l).map fun k : Nat => 97 + ((m / ((k : Int) + 5) + k * k) % 26).toNat) = bs at hb1 hb2 ⊢
    obtain ⟨st, hst, hst2⟩ : ∃ st : Int, atI [D.int 1, .int 3, .int 5, .int 7, .int 9, .int 11] (m / 144 % 6) = some (.int st) ∧ (st = 1 ∨ st = 3 ∨ st = 5 ∨ st = 7 ∨ st = 9 ∨ st = 11) := by
      have e : m / 144 % 6 = 0 ∨ m / 144 % 6 = 1 ∨ m / 144 % 6 = 2 ∨ m / 144 % 6 = 3 ∨ m / 144 % 6 = 4 ∨ m / 144 % 6 = 5 := by omega
      rcases e with e | e | e | e | e | e <;> rw [e] <;> simp
    obtain ⟨c0, r0, rfl⟩ : ∃ c r, bs = c :: r := by
      cases bs with
      | nil => simp at hb1; omega
      | cons c r => exact ⟨c, r, rfl⟩
    have c1 : cutL (D.str (mkS [c0]) :: r0.map fun c => D.str (mkS [c])) none (some (at' : Int)) = ((c0 :: r0).take at').map fun c => D.str (mkS [c]) := by
      rw [cut_take _ _ (by omega), List.map_take]; simp
    have c2 : cutL (D.str (mkS [c0]) :: r0.map fun c => D.str (mkS [c])) (some ((at' : Int) + 1)) none = ((c0 :: r0).drop (at' + 1)).map fun c => D.str (mkS [c]) := by
      rw [cut_drop _ _ (by omega), List.map_drop]
      have : ((at' : Int) + 1).toNat = at' + 1 := by omega
      rw [this]; simp
    have l1 : ((c0 :: r0).take at').length = at' := by rw [List.length_take]; omega
    have l2 : ((c0 :: r0).drop (at' + 1)).length = l - (at' + 1) := by rw [List.length_drop]; omega
    have m1 : ∀ c ∈ (c0 :: r0).take at', 97 ≤ c ∧ c ≤ 122 := fun c h => hb2 c (List.mem_of_mem_take h)
    have m2 : ∀ c ∈ (c0 :: r0).drop (at' + 1), 97 ≤ c ∧ c ≤ 122 := fun c h => hb2 c (List.mem_of_mem_drop h)
    have m0 := hb2 c0 (by simp)
    generalize (c0 :: r0).take at' = pre at c1 l1 m1
    generalize (c0 :: r0).drop (at' + 1) = post at c2 l2 m2
    obtain ⟨nm, hnm⟩ : ∃ nm : Nat → List Nat, nm = fun (k : Nat) => if m / 900 % 3 = 1 then List.replicate (((k : Int) + m / 7) % 12 + 1).toNat c0 else pre ++ ([97 + ((m / 864 + k * st) % 26).toNat] ++ post) := ⟨_, rfl⟩
    have good : Nms nm n := by
      refine ⟨fun k hk => ?_, fun i j hij hj => ?_⟩
      · rw [hnm]
        dsimp only
        split
        · refine ⟨by rw [List.length_replicate]; omega, by rw [List.length_replicate]; omega, fun c hc => ?_⟩
          rw [List.eq_of_mem_replicate hc]; exact m0
        · refine ⟨by simp; omega, by simp; omega, fun c hc => ?_⟩
          rcases List.mem_append.mp hc with h | h
          · exact m1 c h
          · rcases List.mem_append.mp h with h | h
            · simp at h; omega
            · exact m2 c h
      · rw [hnm]
        dsimp only
        split
        · intro e
          have := congrArg List.length e
          rw [List.length_replicate, List.length_replicate] at this
          omega
        · intro e
          have e := List.append_cancel_left e
          simp at e
          rcases hst2 with h | h | h | h | h | h <;> subst h <;> omega
    simp [hst]
    refine ⟨by omega, RunL.rng0 (fun j s => ∃ a7 a10 : Option T, s = [some (T.imm (D.int d)), some (T.imm (D.int n)), some (T.imm (D.str (Str.ofString "abcdefghijklmnopqrstuvwxyz"))), some (T.imm (D.int m)), some (T.imm (D.int l)), some (T.imm (D.int at')), some (T.imm (D.lst (D.str (mkS [c0]) :: List.map (fun c => D.str (mkS [c])) r0))), a7, some (T.imm (D.int st)), some (T.lst (ims (dNs nm j))), a10]) ?_ ?_ ⟨_, _, rfl⟩⟩
    · rintro j s hj ⟨a7, a10, rfl⟩
      have b1 : bits (j : Int) + bits st < 134000000 := by
        have := bits_le (Bd.range (m := 60) (i := (j : Int)) (by omega) (by omega))
        have := bits_le (Bd.range (m := 60) (i := st) (by omega) (by omega))
        omega
      simp [b1]
      rw [ix_letters (by omega) (by omega)]
      have step : ∀ z, z = nm j → dNs nm j ++ [D.str (mkS z)] = dNs nm (j + 1) := fun z hz => by
        rw [hz, dNs, dNs, List.range_succ, List.map_append]; rfl
      simp
      refine ⟨fun q => ?_, fun q => ?_⟩
      · rw [o2_mul_str, mkS_len, mul_one _ _ (by omega)]
        have e := step (List.replicate (((j : Int) + m / 7) % 12 + 1).toNat c0) (by rw [hnm]; exact (if_pos q).symm)
        refine ⟨⟨by omega, by omega, by simp, by simp; omega⟩, by simp [dNs]; omega, ?_⟩
        rw [← e, ims_append]; rfl
      · rw [c1, op_join1 (by omega)]
        simp
        rw [o2_add_str, mkS_app, mkS_len, mkS_len]
        refine ⟨by simp; omega, ?_⟩
        simp
        rw [c2, op_join1 (by omega)]
        simp
        rw [o2_add_str, mkS_app, mkS_len, mkS_len]
        have e := step (pre ++ ([97 + ((m / 864 + (j : Int) * st) % 26).toNat] ++ post)) (by rw [hnm]; exact (if_neg q).symm)
        refine ⟨by simp; omega, by simp [dNs]; omega, ?_⟩
        rw [← e, ims_append]; simp
    · rintro s ⟨a7, a10, rfl⟩
      simp
      exact ⟨nm, good, rfl⟩
end G
set_option Elab.async false
set_option linter.all false
set_option maxRecDepth 100000
set_option maxHeartbeats 4000000
namespace G
open PySem PySem.Builtin.Int
def Fm.size : Fm → Nat
  | .bin _ a b => a.size + b.size + 1
  | .pick a b c => a.size + b.size + c.size + 1
  | _ => 1
/-- numbers, steps as they may be; its names as P tells -/
def Fm.ok (P : Str → Prop) : Fm → Prop
  | .read s p q => P s ∧ (-3 ≤ p ∧ p ≤ 3) ∧ (-3 ≤ q ∧ q ≤ 3)
  | .bin _ a b => a.ok P ∧ b.ok P
  | .pick a b c => a.ok P ∧ b.ok P ∧ c.ok P
  | .num z => 0 ≤ z ∧ z < 10 ^ 60
  | _ => True
/-- its names are of nm's n -/
def Fm.of (nm : Nat → List Nat) (n : Nat) (f : Fm) : Prop := f.ok fun s => ∃ k < n, s = mkS (nm k)
theorem Fm.ok.mono {P Q : Str → Prop} (h : ∀ s, P s → Q s) : ∀ {f : Fm}, f.ok P → f.ok Q
  | .read _ _ _, q => ⟨h _ q.1, q.2⟩
  | .bin _ _ _, q => ⟨mono h q.1, mono h q.2⟩
  | .pick _ _ _, q => ⟨mono h q.1, mono h q.2.1, mono h q.2.2⟩
  | .num _, q => q
  | .x, q => q
  | .y, q => q
theorem ok_reads {P : Str → Prop} : ∀ {f : Fm}, f.ok P → ∀ r ∈ reads f, P r.1 ∧ (-3 ≤ r.2.1 ∧ r.2.1 ≤ 3) ∧ (-3 ≤ r.2.2 ∧ r.2.2 ≤ 3)
  | .num _, _, r, h => by simp [reads] at h
  | .x, _, r, h => by simp [reads] at h
  | .y, _, r, h => by simp [reads] at h
  | .read s p q, o, r, h => by simp [reads] at h; subst h; exact o
  | .bin w a b, o, r, h => by
    simp [reads] at h
    rcases h with h | h
    · exact ok_reads o.1 r h
    · exact ok_reads o.2 r h
  | .pick a b c, o, r, h => by
    simp [reads] at h
    rcases h with h | h | h
    · exact ok_reads o.1 r h
    · exact ok_reads o.2.1 r h
    · exact ok_reads o.2.2 r h
theorem number_run {d : Int} (hd : Bd 2000000 d) : Sp s_l_number [.imm (.int d)] fun t ps => ps = [none] ∧ ∃ v, (0 ≤ v ∧ v < 10 ^ 60) ∧ t = .imm (.int v) := by
  rw [s_l_number, sp_def (by rfl) (by decide), s_l_numberB]
  simp
  have h1 := Bd.mulOk hd hd (by decide)
  have h2 := bits_le (((hd.mul hd).add hd).add (j := 1) (n := 1) (Bd.lit (by decide +kernel)))
  rw [mulLine_eq] at h1
  refine ⟨fun _ => by omega, fun _ => ⟨fun _ => by omega, fun _ => ⟨h1, by omega, ?_⟩⟩⟩
  have hq : 0 ≤ (d * d + d + 1) * 982451653 % 1000000000000000009 ∧ (d * d + d + 1) * 982451653 % 1000000000000000009 < 1000000000000000009 := by omega
  generalize (d * d + d + 1) * 982451653 % 1000000000000000009 = q at hq ⊢
  have bq : Bd 60 q := Bd.range (by omega) (by omega)
  have b1 := Bd.mulOk bq bq (by decide)
  have b2 := Bd.mulOk (bq.mul bq) bq (by decide)
  have b3 := bits_le ((bq.mul bq).mul bq)
  rw [mulLine_eq] at b1 b2
  exact ⟨b1, b2, by omega, by omega, by omega⟩
theorem name_at {nm : Nat → List Nat} {n : Nat} {i : Int} (h : -(n : Int) ≤ i) (h' : i < n) : ∃ k < n, atI (dNs nm n) i = some (.str (mkS (nm k))) := by
  unfold dNs atI
  by_cases q : 0 ≤ i
  · rw [if_pos q]
    have : i.toNat < n := by omega
    exact ⟨i.toNat, this, by simp [this]⟩
  · rw [if_neg q, if_pos (by simp; omega)]
    have : (i + n).toNat < n := by omega
    exact ⟨(i + n).toNat, this, by simp [this]⟩
theorem leaf_run {nm : Nat → List Nat} {n : Nat} (hn : 1 ≤ n) (hn2 : n ≤ 1000) {L : List Int} {r : Nat} (hr : r ≤ 51) (hL : Rich r L) {z : Int} (h0 : 0 ≤ z) (h1 : z < 1000003) :
    Sp s_l_leaf [.imm (.lst (dNs nm n)), .imm (.int z), .lst (ims (L.map D.int))] fun t ps => ∃ f M, f.of nm n ∧ f.ht = 1 ∧ f.size = 1 ∧ Rich r M ∧ t = .imm (dF f) ∧ ps = [none, none, some (.lst (ims (M.map D.int)))] := by
  rw [s_l_leaf, sp_def (by rfl) (by decide), s_l_leafB]
  simp
  have hlen : ((dNs nm n).length : Int) = n := by simp [dNs]
  have num : ∀ (K : KF) (E : EF) g, (∀ v, (0 ≤ v ∧ v < 10 ^ 60) → K (.imm (.int v)) [none]) → RunF s_l_number [.imm (.int (z / 8))] K E g := fun K E g h => (number_run (Bd.range (by omega) (by omega))).k fun t ps ⟨e, v, hv, e2⟩ => by rw [e, e2]; exact h v hv
  refine ifK.mk (fun e0 => ifK.mk (fun e1 => ifK.mk (fun e2 => ?loop) fun _ => ?num) fun _ => ?num2) fun e0 => ?rest
  case num =>
    simp [e0]
    refine num _ _ _ fun v hv => ?_
    simp
    exact ⟨.num v, hv, rfl, rfl, L, hL, rfl, rfl⟩
  case num2 =>
    simp [e0]
    refine num _ _ _ fun v hv => ?_
    simp
    exact ⟨.num v, hv, rfl, rfl, L, hL, rfl, rfl⟩
  case loop =>
    refine RunL.rng0 (fun j s => ∃ (v : Int) (M : List Int) (a5 a6 : Option T), s = [some (.imm (.lst (dNs nm n))), some (.imm (.int z)), some (.lst (ims (M.map D.int))), some (.imm (.int (z % 8))), some (.imm (.int v)), a5, a6] ∧ 0 ≤ v ∧ Bd (30 * j + 1) v ∧ Rich (61 - j) M) ?_ ?_ ⟨0, L, _, _, rfl, by omega, Bd.lit (by decide), ⟨by omega, hL.2⟩⟩
    · rintro j s hj ⟨v, M, a5, a6, rfl, v0, vb, hM⟩
      have b1 := Bd.mulOk vb (j := 1000003) (n := 20) (Bd.lit (by decide +kernel)) (by omega)
      rw [mulLine_eq] at b1
      simp at b1
      simp [b1]
      refine popR (n := 60 - j) (by rw [show 60 - j + 1 = 61 - j by omega]; exact hM) fun M' y _ hM' y0 y1 => ?_
      simp
      refine ⟨_, _, ⟨rfl, rfl⟩, by omega, ?_, hM'⟩
      exact ((vb.mul (j := 1000003) (n := 20) (Bd.lit (by decide +kernel))).add (j := y) (n := 20) (Bd.range (by omega) (by omega))).mono (by omega)
    · rintro s ⟨v, M, a5, a6, rfl, v0, vb, hM⟩
      simp
      exact ⟨.num (v % 10 ^ 60), ⟨by omega, by omega⟩, rfl, rfl, M, ⟨by have := hM.1; omega, hM.2⟩, rfl, rfl⟩
  case rest =>
    simp [e0]
    refine ifK.mk (fun e1 => ?_) fun e1 => ⟨by simp [dNs]; omega, ?_⟩
    · have e : z % 8 - 1 = 0 ∨ z % 8 - 1 = 1 := by omega
      rcases e with e | e <;> rw [e] <;> simp
      · exact ⟨.x, trivial, rfl, rfl, L, hL, rfl, rfl⟩
      · exact ⟨.y, trivial, rfl, rfl, L, hL, rfl, rfl⟩
    · rw [hlen]
      have q0 := Int.emod_nonneg (z / 8) (b := (n : Int)) (by omega)
      have q1 := Int.emod_lt_of_pos (z / 8) (b := (n : Int)) (by omega)
      obtain ⟨k, hk, ek⟩ := name_at (nm := nm) (n := n) (i := -1 - z / 8 % (n : Int)) (by omega) (by omega)
      rw [ek]
      simp
      refine ifK.mk (fun e2 => ⟨by split <;> omega, ?_⟩) fun e2 => ?_
      · have hm : 0 < (if (n : Int) < 2 then (n : Int) else 2) ∧ (if (n : Int) < 2 then (n : Int) else 2) ≤ n := by split <;> omega
        generalize (if (n : Int) < 2 then (n : Int) else 2) = w at hm ⊢
        have q0 := Int.emod_nonneg (z / 8) (b := w) (by omega)
        have q1 := Int.emod_lt_of_pos (z / 8) (b := w) (by omega)
        obtain ⟨k, hk, ek⟩ := name_at (nm := nm) (n := n) (i := -1 - z / 8 % w) (by omega) (by omega)
        rw [ek]
        simp
        exact ⟨.read (mkS (nm k)) _ _, ⟨⟨k, hk, rfl⟩, by omega, by omega⟩, rfl, rfl, L, hL, rfl, rfl⟩
      · exact ⟨.read (mkS (nm k)) _ _, ⟨⟨k, hk, rfl⟩, by omega, by omega⟩, rfl, rfl, L, hL, rfl, rfl⟩
def nodes : Nat → Nat
  | 0 => 1
  | k + 1 => 3 * nodes k + 1
theorem formula_run {nm : Nat → List Nat} {n : Nat} (hn : 1 ≤ n) (hn2 : n ≤ 1000) : ∀ (k w : Nat) (_ : k < w) {L : List Int} {r : Nat} (_ : r + nodes k ≤ 51) (_ : Rich (r + nodes k) L) {t0 : T} (_ : t0 = .imm (.lst (dNs nm n)) ∨ t0 = .lst (ims (dNs nm n))),
    Sp (s_l_formula w) [t0, .lst (ims (L.map D.int)), .imm (.int k)] fun t ps => ∃ f M, f.of nm n ∧ f.ht ≤ k + 1 ∧ f.size ≤ nodes k ∧ Rich r M ∧ t = .imm (dF f) ∧ ps = [none, some (.lst (ims (M.map D.int))), none]
  | k, w + 1, hk, L, r, hr, hL, t0, ht0 => by
    rw [show s_l_formula (w + 1) = sDef 3 7 [1] (s_l_formulaB (s_l_formula w)) from rfl, sp_def (by rfl) (by decide), s_l_formulaB]
    rcases ht0 with rfl | rfl
    all_goals
      simp
      have hp : ∃ q, nodes k = q + 1 ∧ 1 ≤ nodes k := by cases k <;> exact ⟨_, rfl, by simp [nodes]⟩
      obtain ⟨q, hq, _⟩ := hp
      refine popR (n := r + q) (by rw [Nat.add_assoc, ← hq]; exact hL) fun M z _ hM z0 z1 => ?_
      simp
      have mono : ∀ {a b : Nat} {M : List Int}, a ≤ b → Rich b M → Rich a M := fun h q => ⟨Nat.le_trans h q.1, q.2⟩
      have leaf := leaf_run (nm := nm) hn hn2 (r := r + q) (by omega) hM (z := z / 5) (by omega) (by omega)
      refine ifK.mk (fun e => ?_) fun e => ifK.mk (fun e1 => ?_) fun e1 => ?_
      · refine leaf.k ?_
        rintro _ _ ⟨f, M', hf, h1, h2, hM', rfl, rfl⟩
        simp
        exact ⟨f, hf, by omega, by omega, M', mono (by omega) hM', rfl, rfl⟩
      · refine leaf.k ?_
        rintro _ _ ⟨f, M', hf, h1, h2, hM', rfl, rfl⟩
        simp
        exact ⟨f, hf, by omega, by omega, M', mono (by omega) hM', rfl, rfl⟩
      · obtain ⟨k', rfl⟩ : ∃ k', k = k' + 1 := ⟨k - 1, by omega⟩
        have hq' : q = 3 * nodes k' := by simp [nodes] at hq; omega
        subst hq'
        have hw : (∃ w2 : W2, atI [D.str (Str.ofString "sum"), .str (Str.ofString "less"), .str (Str.ofString "times"), .str (Str.ofString "least"), .str (Str.ofString "most"), .str (Str.ofString "pick")] (z / 5 % 6) = some (.str w2.s)) ∨ atI [D.str (Str.ofString "sum"), .str (Str.ofString "less"), .str (Str.ofString "times"), .str (Str.ofString "least"), .str (Str.ofString "most"), .str (Str.ofString "pick")] (z / 5 % 6) = some (.str (Str.ofString "pick")) := by
          have e : z / 5 % 6 = 0 ∨ z / 5 % 6 = 1 ∨ z / 5 % 6 = 2 ∨ z / 5 % 6 = 3 ∨ z / 5 % 6 = 4 ∨ z / 5 % 6 = 5 := by omega
          rcases e with e | e | e | e | e | e <;> rw [e]
          · exact .inl ⟨.sum, rfl⟩
          · exact .inl ⟨.less, rfl⟩
          · exact .inl ⟨.times, rfl⟩
          · exact .inl ⟨.least, rfl⟩
          · exact .inl ⟨.most, rfl⟩
          · exact .inr rfl
        rcases hw with ⟨w2, hw⟩ | hw
        · rw [hw]
          simp [rng, runL_cons, runL_nil]
          refine (formula_run hn hn2 k' w (by omega) (r := r + 1 * nodes k') (by omega) (mono (by omega) hM) (.inl rfl)).k ?_
          rintro _ _ ⟨f1, M1, o1, t1, s1, hM1, rfl, rfl⟩
          simp [rng, runL_cons, runL_nil]
          refine (formula_run hn hn2 k' w (by omega) (r := r + 0 * nodes k') (by omega) (mono (by omega) hM1) (.inl rfl)).k ?_
          rintro _ _ ⟨f2, M2, o2, t2, s2, hM2, rfl, rfl⟩
          simp [rng, runL_cons, runL_nil]
          refine ⟨.bin w2 f1 f2, ⟨o1, o2⟩, by simp [Fm.ht]; omega, by simp [Fm.size]; omega, M2, mono (by omega) hM2, rfl, rfl⟩
        · rw [hw]
          simp [rng, runL_cons, runL_nil]
          refine (formula_run hn hn2 k' w (by omega) (r := r + 2 * nodes k') (by omega) (mono (by omega) hM) (.inl rfl)).k ?_
          rintro _ _ ⟨f1, M1, o1, t1, s1, hM1, rfl, rfl⟩
          simp [rng, runL_cons, runL_nil]
          refine (formula_run hn hn2 k' w (by omega) (r := r + 1 * nodes k') (by omega) (mono (by omega) hM1) (.inl rfl)).k ?_
          rintro _ _ ⟨f2, M2, o2, t2, s2, hM2, rfl, rfl⟩
          simp [rng, runL_cons, runL_nil]
          refine (formula_run hn hn2 k' w (by omega) (r := r + 0 * nodes k') (by omega) (mono (by omega) hM2) (.inl rfl)).k ?_
          rintro _ _ ⟨f3, M3, o3, t3, s3, hM3, rfl, rfl⟩
          simp [rng, runL_cons, runL_nil]
          refine ⟨.pick f1 f2 f3, ⟨o1, o2, o3⟩, by simp [Fm.ht]; omega, by simp [Fm.size]; omega, M3, mono (by omega) hM3, rfl, rfl⟩
def Flt (P : Str → Prop) : Prop := ∀ s, P s → ∀ m, D.flat m (.str s) = true
theorem flat_dF {P : Str → Prop} (h : Flt P) : ∀ (f : Fm) (m : Nat), f.ok P → f.ht ≤ m → D.flat m (dF f) = true
  | .num z, m + 1, _, _ => by simp [dF, D.flat]
  | .x, m + 1, _, _ => by simp [dF, D.flat]
  | .y, m + 1, _, _ => by simp [dF, D.flat]
  | .read s p q, m + 1, o, _ => by have := h s o.1 m; simp [dF, D.flat] at this ⊢; exact this
  | .bin w a b, m + 1, ⟨oa, ob⟩, hm => by
    simp [Fm.ht] at hm
    have h1 := flat_dF h a m oa (by omega)
    have h2 := flat_dF h b m ob (by omega)
    simp [dF, D.flat, h1, h2]
  | .pick a b c, m + 1, ⟨oa, ob, oc⟩, hm => by
    simp [Fm.ht] at hm
    have h1 := flat_dF h a m oa (by omega)
    have h2 := flat_dF h b m ob (by omega)
    have h3 := flat_dF h c m oc (by omega)
    simp [dF, D.flat, h1, h2, h3]
  | f, 0, _, hm => by have := ht_pos f; omega
end G
set_option Elab.async false
set_option linter.all false
set_option maxRecDepth 100000
set_option maxHeartbeats 4000000
namespace G
open PySem PySem.Builtin.Int
theorem whole_int {i : Int} {K : KF} {E g} : RunF s_l_whole [.imm (.int i)] K E g = K (.imm (.bl true)) [none] := by
  rw [s_l_whole, run_def (by rfl) (by decide), s_l_wholeB]
  simp
theorem atI_any {α : Type} {l : List α} {i : Int} (h : -(l.length : Int) ≤ i) (h' : i < l.length) : ∃ d, atI l i = some d ∧ d ∈ l := by
  unfold atI
  by_cases q : 0 ≤ i
  · rw [if_pos q]
    have : i.toNat < l.length := by omega
    exact ⟨l[i.toNat], by simp [this], List.getElem_mem _⟩
  · rw [if_neg q, if_pos (by omega)]
    have : (i + l.length).toNat < l.length := by omega
    exact ⟨l[(i + l.length).toNat], by simp [this], List.getElem_mem _⟩
theorem script_at {ns : List Int} {i : Int} (h : -(ns.length : Int) ≤ i) (h' : i < ns.length) : ∃ z, atI (ns.map D.int) i = some (.int z) ∧ z ∈ ns := by
  obtain ⟨d, e, m⟩ := atI_any (l := ns.map D.int) (i := i) (by simpa using h) (by simpa using h')
  obtain ⟨z, hz, rfl⟩ := List.mem_map.mp m
  exact ⟨z, e, hz⟩
theorem drawn_at_run {ns : List Int} (hb : ∀ z ∈ ns, intBits z ≤ 1048576) (k : Int) (h0 : 0 ≤ k) : Sp s_l_drawn_at [.imm (script ns), .imm (.int k)] fun t ps => ps = [none, none] ∧ ∃ v, Bd 1048576 v ∧ t = .imm (.int v) := by
  rw [s_l_drawn_at, sp_def (by rfl) (by decide), s_l_drawn_atB, script]
  simp
  refine ⟨fun h => ?_, fun _ => Bd.lit (by decide)⟩
  obtain ⟨z, e, m⟩ := script_at (ns := ns) (i := k) (by omega) h
  rw [e]
  simp
  exact hb z m
theorem measure_run {d : Int} (hd : Bd 2000000 d) : Sp s_l_measure [.imm (.int d)] fun t ps => ps = [none] ∧ ∃ v, (2 ≤ v ∧ v ≤ 10 ^ 60) ∧ t = .imm (.int v) := by
  rw [s_l_measure, sp_def (by rfl) (by decide), s_l_measureB]
  simp
  have h1 := Bd.mulOk hd hd (by decide)
  have h2 := bits_le ((hd.mul hd).add hd)
  rw [mulLine_eq] at h1
  refine ⟨fun _ => ?_, fun _ => ⟨fun _ => by omega, fun _ => ⟨h1, by omega, by omega, by omega⟩⟩⟩
  have e : d / 4 % 6 = 0 ∨ d / 4 % 6 = 1 ∨ d / 4 % 6 = 2 ∨ d / 4 % 6 = 3 ∨ d / 4 % 6 = 4 ∨ d / 4 % 6 = 5 := by omega
  rcases e with e | e | e | e | e | e <;> rw [e] <;> simp
theorem digits2_run (ns : List Int) (a p : Int) (hl : ns.length ≤ 63) (h0 : 0 ≤ a) (h1 : a ≤ 1000) (h2 : 0 < p) (h3 : p ≤ 1000) : Sp s_l_digits2 [.imm (script ns), .imm (.int a), .imm (.int p)] (fun t ps => ps = [none, none, none] ∧ ∃ L : List Int, Purse 120 L ∧ t = .lst (ims (L.map D.int))) := by
  rw [s_l_digits2, sp_def (by rfl) (by decide), s_l_digits2B, script]
  simp
  have ea : (if 63 < (ns.length : Int) then 63 else (ns.length : Int)) = ns.length := if_neg (by omega)
  rw [ea]
  refine ⟨by omega, RunLC.draw rfl rfl (fun i hi => ⟨by have := Int.mul_nonneg (Int.le_of_lt h2) (Int.natCast_nonneg i); omega, rng3_lt h2 hi⟩) (by have := rng3_len (m := ns.length) h2 h0; unfold line; omega) fun L hL1 hL2 => ?_⟩
  simp
  generalize L.sum = dr
  refine RunL.rng0 (fun j s => ∃ (a6 a7 : Int) (a4 : Option T) (M : List Int), s = [some (.imm (.rol (ns.map D.int))), some (.imm (.int a)), some (.imm (.int p)), some (.imm (.int dr)), a4, some (.lst (ims (M.map D.int))), some (.imm (.int a6)), some (.imm (.int a7))] ∧ 0 ≤ a6 ∧ a6 < 2147483629 ∧ M.length = j ∧ ∀ z ∈ M, 0 ≤ z ∧ z < 1000003) ?_ ?_ ?_
  · rintro i s hi ⟨a6, a7, a4, M, rfl, h4, h5, h6, h7⟩
    simp
    have hm : 0 ≤ (a6 * a6 + dr + ↑i) % 2147483629 ∧ (a6 * a6 + dr + ↑i) % 2147483629 < 2147483629 := by omega
    generalize (a6 * a6 + dr + ↑i) % 2147483629 = b at hm ⊢
    refine ⟨Bd.mulOk (m := 32) (n := 32) (Bd.range (by omega) (by omega)) (Bd.range (by omega) (by omega)) (by decide), Bd.mulOk (m := 32) (n := 32) (Bd.range (by omega) (by omega)) (Bd.range (by omega) (by omega)) (by decide), ?_⟩
    have hd : dr % 2 = 0 ∨ dr % 2 = 1 := by omega
    have last : ∀ z : Int, M.length < 16777216 ∧ ∃ a6_1 a7_1 a4 M_1, (some (T.imm (D.int ↑i)) = a4 ∧ ims (List.map D.int M) ++ [T.imm (D.int (z % 1000003))] = ims (List.map D.int M_1) ∧ b = a6_1 ∧ a7 / 1000003 = a7_1) ∧ 0 ≤ a6_1 ∧ a6_1 < 2147483629 ∧ M_1.length = i + 1 ∧ ∀ (z : Int), z ∈ M_1 → 0 ≤ z ∧ z < 1000003 := by
      intro z
      refine ⟨by omega, b, _, _, M ++ [z % 1000003], ⟨rfl, by simp [ims], rfl, rfl⟩, hm.1, hm.2, by simp [h6], ?_⟩
      intro y hy
      rcases List.mem_append.mp hy with q | q
      · exact h7 y q
      · simp at q; subst q; omega
    rcases hd with e | e <;> rw [e] <;> simp <;> simpa using last _
  · rintro s ⟨a6, a7, a4, M, rfl, h4, h5, h6, h7⟩
    simp
    exact ⟨M.reverse, ⟨by simpa using h6, by simpa using h7⟩, by simp⟩
  · exact ⟨_, _, _, [], rfl, by omega, by omega, rfl, by simp⟩
end G
set_option Elab.async false
set_option linter.all false
set_option maxRecDepth 100000
namespace G
open PySem
@[simp] theorem bits_l16 : bits 16 = 4 := by decide +kernel
@[simp] theorem bits_l36 : bits 36 = 5 := by decide +kernel
@[simp] theorem bits_l40 : bits 40 = 5 := by decide +kernel
@[simp] theorem bits_l290 : bits 290 = 8 := by decide +kernel
@[simp] theorem bits_l300 : bits 300 = 8 := by decide +kernel
@[simp] theorem bits_l576 : bits 576 = 9 := by decide +kernel
@[simp] theorem bits_l3000 : bits 3000 = 11 := by decide +kernel
@[simp] theorem bits_l18000 : bits 18000 = 14 := by decide +kernel
@[simp] theorem bits_l19000 : bits 19000 = 14 := by decide +kernel
def s_f_Works_formulaB : Ss :=
sSeq (sIf (sTest (sOp2 fNotIn (sVar 1) (sUn (fFld [0] "kept_formulas") (sVar 0)))) (
sRaise 8) (sPass)) (
sRet (sOp2 fIx (sUn (fFld [0] "kept_formulas") (sVar 0)) (sVar 1)))
def s_f_Works_formula : Fn := sDef 2 2 [] s_f_Works_formulaB
def s_f_Works_row_ofB : Ss :=
sSeq (sFor (iList (sUn (fFld [0] "kept_pictures") (sVar 0))) (gName 2) (
sIf (sTest (sOp2 fEq (sOp2 fIx (sVar 2) (sCst (.int 0))) (sVar 1))) (
sRet (sVar 2)) (sPass))) (
sRaise 8)
def s_f_Works_row_of : Fn := sDef 2 3 [] s_f_Works_row_ofB
def s_f_Works_rimB : Ss :=
sRet (sOp2 fIx (sMethV 0 "row_of" s_f_Works_row_of (sVar 0) (aVal (sVar 1) (aNil))) (sCst (.int 3)))
def s_f_Works_rim : Fn := sDef 2 2 [] s_f_Works_rimB
def s_f_Works_sizeB : Ss :=
sSeq (sSetF 2 (sMethV 0 "row_of" s_f_Works_row_of (sVar 0) (aVal (sVar 1) (aNil)))) (
sRet (sTup (aVal (sOp2 fIx (sVar 2) (sCst (.int 1))) (aVal (sOp2 fIx (sVar 2) (sCst (.int 2))) (aNil)))))
def s_f_Works_size : Fn := sDef 2 3 [] s_f_Works_sizeB
def s_f_Works_picturesB : Ss :=
sRet (sLC [1] (iList (sUn (fFld [0] "kept_pictures") (sVar 0))) (gName 1) (bYes) (sOp2 fIx (sVar 1) (sCst (.int 0))))
def s_f_Works_pictures : Fn := sDef 1 2 [] s_f_Works_picturesB
def s_f_Works_stagesB : Ss :=
sRet (sBlt bList (aVal (sUn (fFld [0] "kept_formulas") (sVar 0)) (aNil)))
def s_f_Works_stages : Fn := sDef 1 1 [] s_f_Works_stagesB
def s_l_mixedB : Ss :=
sSeq (sSetF 3 (sBlt bSum (aVal (sLC [4] (iRange rng3 (aVal (sVar 1) (aVal (sBlt bMin2 (aVal (sBlt bLen (aVal (sVar 0) (aNil))) (aVal (sCst (.int 63)) (aNil)))) (aVal (sVar 2) (aNil))))) (gName 4) (bYes) (sOp2 fIx (sVar 0) (sVar 4))) (aNil)))) (
sSeq (sIf (sTest (sOp2 fEq (sOp2 fMod (sVar 3) (sCst (.int 2))) (sCst (.int 0)))) (
sRet (sOp2 fMod (sOp2 fDiv (sVar 3) (sCst (.int 2))) (sOp2 fPow (sCst (.int 10)) (sCst (.int 60))))) (sPass)) (
sSeq (sSetF 5 (sOp2 fMul (sOp2 fAdd (sOp2 fAdd (sOp2 fAdd (sOp2 fMul (sVar 3) (sVar 3)) (sVar 3)) (sVar 1)) (sCst (.int 1))) (sCst (.int 982451653)))) (
sRet (sOp2 fMul (sOp2 fMod (sOp2 fMul (sVar 5) (sVar 5)) (sOp2 fAdd (sOp2 fPow (sCst (.int 10)) (sCst (.int 18))) (sCst (.int 9)))) (sOp2 fAdd (sOp2 fMod (sVar 5) (sCst (.int 2147483629))) (sCst (.int 7)))))))
def s_l_mixed : Fn := sDef 3 6 [] s_l_mixedB
def s_f_look_at_readB : Ss :=
sSeq (sAsg (gTup [gName 2, gName 3, gName 4, gName 5]) (sVar 1)) (
sSeq (sIf (sTest (sOp2 fNotIn (sVar 3) (sVar 0))) (
sRaise 8) (sPass)) (
sIf (bOr (sTest (sOp2 fGt (sBlt bAbs (aVal (sVar 4) (aNil))) (sCst (.int 3)))) (sTest (sOp2 fGt (sBlt bAbs (aVal (sVar 5) (aNil))) (sCst (.int 3))))) (
sRaise 9) (sPass)))
def s_f_look_at_read : Fn := sDef 2 6 [] s_f_look_at_readB
def s_f_look_at_numberB : Ss :=
sIf (bOr (sTest (sOp2 fLt (sVar 0) (sCst (.int 0)))) (sTest (sOp2 fGe (sVar 0) (sCst (.int 1000000000000000000000000000000000000000000000000000000000000))))) (
sRaise 6) (sPass)
def s_f_look_at_number : Fn := sDef 1 1 [] s_f_look_at_numberB
def s_f_wanted_behindB : Ss :=
sSeq (sIf (sTest (sOp2 fIn (sVar 0) (sCst (.rol ((["sum", "less", "times", "least", "most"] : List Str).map D.str))))) (
sRet (sCst (.int 2))) (sPass)) (
sSeq (sIf (bOr (sTest (sOp2 fEq (sVar 0) (sCst (.str "pick")))) (sTest (sOp2 fEq (sVar 0) (sCst (.str "read"))))) (
sRet (sCst (.int 3))) (sPass)) (
sSeq (sIf (sTest (sOp2 fEq (sVar 0) (sCst (.str "number")))) (
sRet (sCst (.int 1))) (sPass)) (
sSeq (sIf (bOr (sTest (sOp2 fEq (sVar 0) (sCst (.str "x")))) (sTest (sOp2 fEq (sVar 0) (sCst (.str "y"))))) (
sRet (sCst (.int 0))) (sPass)) (
sRaise 7))))
def s_f_wanted_behind : Fn := sDef 1 1 [] s_f_wanted_behindB
def s_f_look_at_formulaB (rec : Fn) : Ss :=
sSeq (sSetF 2 (sOp2 fIx (sVar 1) (sCst (.int 0)))) (
sSeq (sIf (sTest (sOp2 fNe (sOp2 fSub (sBlt bLen (aVal (sVar 1) (aNil))) (sCst (.int 1))) (sCall s_f_wanted_behind (aVal (sVar 2) (aNil))))) (
sRaise 2) (sPass)) (
sIf (sTest (sOp2 fEq (sVar 2) (sCst (.str "number")))) (
sExpr (sCall s_f_look_at_number (aVal (sOp2 fIx (sVar 1) (sCst (.int 1))) (aNil)))) (sIf (sTest (sOp2 fEq (sVar 2) (sCst (.str "read")))) (
sExpr (sCall s_f_look_at_read (aVal (sVar 0) (aVal (sVar 1) (aNil))))) (sFor (iTup (sSlice (sVar 1) (oSome (sCst (.int 1))) (oNone))) (gName 3) (
sExpr (sCall rec (aVal (sVar 0) (aVal (sVar 3) (aNil)))))))))
def s_f_look_at_formula : Nat → Fn
  | 0 => fun _ => .no
  | n + 1 => sDef 2 4 [] (s_f_look_at_formulaB (s_f_look_at_formula n))
def s_f_all_lettersB : Ss :=
sSeq (sFor (iStr (sVar 0)) (gName 1) (
sIf (sTest (sOp2 fNotIn (sVar 1) (sCst (.str "abcdefghijklmnopqrstuvwxyz")))) (
sRet (sCst (.bl false))) (sPass))) (
sRet (sCst (.bl true)))
def s_f_all_letters : Fn := sDef 1 2 [] s_f_all_lettersB
def s_f_is_nameB : Ss :=
sRet (sAndV (sChain fLt fLe (sCst (.int 0)) (sBlt bLen (aVal (sVar 0) (aNil))) (sCst (.int 12))) (sCall s_f_all_letters (aVal (sVar 0) (aNil))))
def s_f_is_name : Fn := sDef 1 1 [] s_f_is_nameB
def s_f_look_at_nameB : Ss :=
sSeq (sIf (bNot (sTest (sCall s_f_is_name (aVal (sVar 1) (aNil))))) (
sRaise 3) (sPass)) (
sIf (sTest (sOp2 fIn (sVar 1) (sVar 0))) (
sRaise 4) (sPass))
def s_f_look_at_name : Fn := sDef 2 2 [] s_f_look_at_nameB
def s_f_look_at_stagesB : Ss :=
sSeq (sIf (bOr (sTest (sOp2 fLt (sBlt bLen (aVal (sVar 1) (aNil))) (sCst (.int 1)))) (sTest (sOp2 fGt (sBlt bLen (aVal (sVar 1) (aNil))) (sCst (.int 8))))) (
sRaise 2) (sPass)) (
sFor (iList (sVar 1)) (gTup [gName 2, gName 3]) (
sSeq (sExpr (sView (sCall s_f_look_at_name (aVal (sVar 0) (aVal (sVar 2) (aNil)))))) (
sSeq (sExpr (sView (sCall (s_f_look_at_formula 12) (aVal (sVar 0) (aVal (sVar 3) (aNil)))))) (
sExpr (sMeth 0 mAppend (aVal (sVar 2) (aNil)))))))
def s_f_look_at_stages : Fn := sDef 2 4 [0] s_f_look_at_stagesB
def s_f_look_at_picturesB : Ss :=
sSeq (sIf (bOr (sTest (sOp2 fLt (sBlt bLen (aVal (sVar 0) (aNil))) (sCst (.int 1)))) (sTest (sOp2 fGt (sBlt bLen (aVal (sVar 0) (aNil))) (sCst (.int 4))))) (
sRaise 2) (sPass)) (
sSeq (sSet 1 (sLst (aNil))) (
sSeq (sFor (iList (sVar 0)) (gTup [gName 2, gName 3, gName 4, gName 5]) (
sSeq (sExpr (sView (sCall s_f_look_at_name (aVal (sVar 1) (aVal (sVar 2) (aNil)))))) (
sSeq (sIf (bOr (sTest (sOp2 fLt (sVar 3) (sCst (.int 1)))) (bOr (sTest (sOp2 fGt (sVar 3) (sCst (.int 40)))) (bOr (sTest (sOp2 fLt (sVar 4) (sCst (.int 1)))) (sTest (sOp2 fGt (sVar 4) (sCst (.int 40))))))) (
sRaise 5) (sPass)) (
sSeq (sExpr (sCall s_f_look_at_number (aVal (sVar 5) (aNil)))) (
sExpr (sMeth 1 mAppend (aVal (sVar 2) (aNil)))))))) (
sRet (sMv 1))))
def s_f_look_at_pictures : Fn := sDef 1 6 [] s_f_look_at_picturesB
def s_f_Works__initB : Ss :=
sSeq (sIf (bOr (sTest (sOp2 fLt (sVar 1) (sCst (.int 2)))) (sTest (sOp2 fGt (sVar 1) (sCst (.int 1000000000000000000000000000000000000000000000000000000000000))))) (
sRaise 1) (sPass)) (
sSeq (sExpr (sCall s_f_look_at_stages (aVal (sCall s_f_look_at_pictures (aVal (sVar 2) (aNil))) (aVal (sVar 3) (aNil))))) (
sSeq (sStF 0 (kNil) [0] "measure" (sVar 1)) (
sSeq (sStF 0 (kNil) [0] "kept_pictures" (sLC [4, 5, 6, 7] (iList (sVar 2)) (gTup [gName 4, gName 5, gName 6, gName 7]) (bYes) (sTup (aVal (sVar 4) (aVal (sVar 5) (aVal (sVar 6) (aVal (sVar 7) (aNil)))))))) (
sSeq (sStF 0 (kNil) [0] "kept_formulas" (sDctK false)) (
sFor (iList (sVar 3)) (gTup [gName 4, gName 8]) (
sStI 0 (kFld (kNil) [0] "kept_formulas") (sVar 4) (sVar 8)))))))
def s_f_Works__init : Fn := sDef 4 9 [0] s_f_Works__initB
def s_l_picturesB : Ss :=
sSeq (sSet 3 (sLst (aNil))) (
sSeq (sFor (iRange rng1 (aVal (sVar 2) (aNil))) (gName 4) (
sSeq (sSetF 5 (sOp2 fDiv (sCall s_l_mixed (aVal (sVar 0) (aVal (sOp2 fAdd (sCst (.int 2)) (sVar 4)) (aVal (sCst (.int 9)) (aNil))))) (sCst (.int 3)))) (
sSeq (sSetF 6 (sOp2 fAdd (sCst (.int 1)) (sOp2 fMod (sVar 5) (sCst (.int 6))))) (
sSeq (sSetF 7 (sOp2 fAdd (sCst (.int 1)) (sOp2 fMod (sOp2 fDiv (sVar 5) (sCst (.int 6))) (sCst (.int 6))))) (
sSeq (sIf (sTest (sOp2 fEq (sOp2 fMod (sOp2 fDiv (sVar 5) (sCst (.int 36))) (sCst (.int 8))) (sCst (.int 3)))) (
sSeq (sSetF 6 (sCst (.int 40))) (
sSetF 7 (sCst (.int 1)))) (sPass)) (
sSeq (sIf (sTest (sOp2 fEq (sOp2 fMod (sOp2 fDiv (sVar 5) (sCst (.int 36))) (sCst (.int 8))) (sCst (.int 6)))) (
sSeq (sSetF 6 (sCst (.int 1))) (
sSetF 7 (sCst (.int 40)))) (sPass)) (
sExpr (sMeth 3 mAppend (aVal (sTup (aVal (sOp2 fIx (sVar 1) (sVar 4)) (aVal (sVar 6) (aVal (sVar 7) (aVal (sCall s_l_number (aVal (sOp2 fDiv (sVar 5) (sCst (.int 300))) (aNil))) (aNil)))))) (aNil)))))))))) (
sRet (sMv 3)))
def s_l_pictures : Fn := sDef 3 8 [] s_l_picturesB
end G
set_option Elab.async false
set_option linter.all false
set_option maxRecDepth 100000
set_option maxHeartbeats 4000000
namespace G
open PySem PySem.Builtin.Int
/-- a name as they may be -/
def Nm (s : Str) : Prop := ∃ l : List Nat, s = mkS l ∧ (1 ≤ l.length ∧ l.length ≤ 12) ∧ ∀ c ∈ l, 97 ≤ c ∧ c ≤ 122
def FlS (s : Str) : Prop := ∀ m, D.flat m (.str s) = true
theorem Nm.fl {s : Str} (h : Nm s) : FlS s := by
  obtain ⟨l, rfl, _, h⟩ := h
  intro m
  unfold D.flat
  show PyData.strOk (mkS l) = true
  unfold PyData.strOk mkS
  simp only [List.all_toArray, List.all_eq_true, decide_eq_true_eq]
  intro c hc
  have := h c hc
  omega
theorem flt_Nm : Flt Nm := fun s h m => h.fl m
def dSs (l : List Str) : List D := l.map D.str
@[simp] theorem dSs_length (l : List Str) : (dSs l).length = l.length := by simp [dSs]
@[simp] theorem dSs_nil : dSs [] = [] := rfl
@[simp] theorem dSs_cons (s : Str) (r : List Str) : dSs (s :: r) = .str s :: dSs r := rfl
theorem any_ss (s : Str) (l : List Str) : ((dSs l).any fun z => PyData.eqv z.py (D.str s).py) = decide (s ∈ l) := by
  induction l with
  | nil => rfl
  | cons z r ih =>
    simp only [dSs_cons, List.any_cons, ih, py_str, eqv_str]
    by_cases h : z = s
    · subst h; simp
    · have h' : ¬ s = z := fun e => h e.symm
      simp only [py_str] at ih
      simp [h, h', ih]
theorem dIn_ss {s : Str} {l : List Str} (hs : FlS s) (h : ∀ z ∈ l, FlS z) : dIn (.str s) (.lst (dSs l)) = some (decide (s ∈ l)) := by
  have e : dIn (.str s) (.lst (dSs l)) = if D.flat 40 (.str s) && (dSs l).all (D.flat 39) then some ((dSs l).any fun z => PyData.eqv z.py (D.str s).py) else none := rfl
  rw [e, if_pos, any_ss]
  rw [hs, Bool.true_and, List.all_eq_true]
  intro d hd
  obtain ⟨z, hz, rfl⟩ := List.mem_map.mp hd
  exact h z hz 39
theorem o2_in_ss {s : Str} {l : List Str} {k : T → Prop} (hs : FlS s) (h : ∀ z ∈ l, FlS z) : op2K fIn (.str s) (.lst (dSs l)) k = k (.imm (.bl (decide (s ∈ l)))) := by
  simp [op2K, fIn, dIn_ss hs h]
theorem o2_notIn_ss {s : Str} {l : List Str} {k : T → Prop} (hs : FlS s) (h : ∀ z ∈ l, FlS z) : op2K fNotIn (.str s) (.lst (dSs l)) k = k (.imm (.bl (!decide (s ∈ l)))) := by
  simp [op2K, fNotIn, dIn_ss hs h]
theorem o2_in_rol {d : D} {l : List D} {k : T → Prop} (h : D.flat 40 d = true) (h' : ∀ x ∈ l, D.flat 39 x = true) : op2K fIn d (.rol l) k = k (.imm (.bl (l.any fun z => PyData.eqv z.py d.py))) := by
  have e : dIn d (.rol l) = some (l.any fun z => PyData.eqv z.py d.py) := by
    have c : (D.flat 40 d && l.all (D.flat 39)) = true := by rw [h, Bool.true_and, List.all_eq_true]; exact h'
    cases d <;> (simp only [dIn, c, if_true])
  simp [op2K, fIn, e]
theorem b_len_str {s : Str} {k : T → Prop} (h : s.length ≤ line) : bltK bLen [.str s] k = k (.imm (.int s.length)) := by
  show (∃ t, (if s.length ≤ line then some (T.imm (.int s.length)) else none) = some t ∧ k t) = _
  rw [if_pos h]
  simp
theorem in_letters {c : Nat} {k : T → Prop} (h : 97 ≤ c ∧ c ≤ 122) : op2K fNotIn (.str ⟨#[c]⟩) (.str (Str.ofString "abcdefghijklmnopqrstuvwxyz")) k = k (.imm (.bl false)) := by
  have e : dIn (.str ⟨#[c]⟩) (.str (Str.ofString "abcdefghijklmnopqrstuvwxyz")) = some (decide (c ∈ (Str.ofString "abcdefghijklmnopqrstuvwxyz").cps.toList)) := rfl
  have m : c ∈ (Str.ofString "abcdefghijklmnopqrstuvwxyz").cps.toList := by
    rw [letters, List.mem_map]
    exact ⟨c - 97, by simp; omega, by omega⟩
  simp [op2K, fNotIn, e, m]
theorem all_letters_run {s : Str} (h : Nm s) {K : KF} {E g} : RunF s_f_all_letters [.imm (.str s)] K E g = K (.imm (.bl true)) [none] := by
  refine Sp.eqn ?_
  obtain ⟨l, rfl, _, h⟩ := h
  rw [s_f_all_letters, sp_def (by rfl) (by decide), s_f_all_lettersB]
  simp [mkS]
  refine RunL.inv (fun ds s => ∃ a1, s = [some (.imm (.str (mkS l))), a1] ∧ ∀ d ∈ ds, ∃ c, d = .str ⟨#[c]⟩ ∧ 97 ≤ c ∧ c ≤ 122) ?_ ?_ _ _ _ ⟨_, rfl, fun d hd => by
    obtain ⟨c, hc, rfl⟩ := List.mem_map.mp hd
    exact ⟨c, rfl, h c hc⟩⟩
  · rintro d r s ⟨a1, rfl, hd⟩
    obtain ⟨c, rfl, hc⟩ := hd d (by simp)
    simp [in_letters hc]
    exact fun d hd' => hd d (by simp [hd'])
  · rintro s ⟨a1, rfl, _⟩
    simp
theorem is_name_run {s : Str} (h : Nm s) {K : KF} {E g} : RunF s_f_is_name [.imm (.str s)] K E g = K (.imm (.bl true)) [none] := by
  refine Sp.eqn ?_
  have hl : 1 ≤ s.length ∧ s.length ≤ 12 := by
    obtain ⟨l, rfl, hl, _⟩ := h
    rw [mkS_len]; exact hl
  rw [s_f_is_name, sp_def (by rfl) (by decide), s_f_is_nameB]
  have e1 : (0 : Int) < s.length := by omega
  have e2 : (s.length : Int) ≤ 12 := by omega
  simp [b_len_str (s := s) (by rw [line_eq]; omega), all_letters_run h, e1, e2, ifK]
  omega
theorem look_at_name_run {ab : List Str} {s : Str} (hs : Nm s) (hab : ∀ a ∈ ab, Nm a) (h : s ∉ ab) {K : KF} {E g} : RunF s_f_look_at_name [.imm (.lst (dSs ab)), .imm (.str s)] K E g = K (.imm .non) [none, none] := by
  refine Sp.eqn ?_
  rw [s_f_look_at_name, sp_def (by rfl) (by decide), s_f_look_at_nameB]
  simp [is_name_run hs, o2_in_ss hs.fl (fun a m => (hab a m).fl), h, ifK]
theorem look_at_number_run {z : Int} (h : 0 ≤ z ∧ z < 10 ^ 60) {K : KF} {E g} : RunF s_f_look_at_number [.imm (.int z)] K E g = K (.imm .non) [none] := by
  refine Sp.eqn ?_
  rw [s_f_look_at_number, sp_def (by rfl) (by decide), s_f_look_at_numberB]
  have e1 : ¬ z < 0 := by omega
  have e2 : ¬ 1000000000000000000000000000000000000000000000000000000000000 ≤ z := by omega
  simp [e1, e2, ifK]
theorem wanted_behind_run (f : Fm) {K : KF} {E g} : RunF s_f_wanted_behind [.imm (.str f.word)] K E g = K (.imm (.int f.rest.length)) [none] := by
  refine Sp.eqn ?_
  rw [s_f_wanted_behind, sp_def (by rfl) (by decide), s_f_wanted_behindB]
  rcases f with z | _ | _ | ⟨s, p, q⟩ | ⟨w, a, b⟩ | ⟨a, b, c⟩
  · simp [Fm.word, o2_in_rol, Fm.rest, ifK]
  · simp [Fm.word, o2_in_rol, Fm.rest, ifK]
  · simp [Fm.word, o2_in_rol, Fm.rest, ifK]
  · simp [Fm.word, o2_in_rol, Fm.rest, ifK]
  · cases w <;> simp [Fm.word, W2.s, o2_in_rol, Fm.rest, ifK]
  · simp [Fm.word, o2_in_rol, Fm.rest, ifK]
theorem look_at_read_run {ab : List Str} {s : Str} {p q : Int} (hab : ∀ a ∈ ab, Nm a) (h : s ∈ ab) (hp : -3 ≤ p ∧ p ≤ 3) (hq : -3 ≤ q ∧ q ≤ 3) {K : KF} {E g} : RunF s_f_look_at_read [.imm (.lst (dSs ab)), .imm (dF (.read s p q))] K E g = K (.imm .non) [none, none] := by
  refine Sp.eqn ?_
  rw [s_f_look_at_read, sp_def (by rfl) (by decide), s_f_look_at_readB]
  have e1 : ¬ 3 < (if p < 0 then -p else p) := by split <;> omega
  have e2 : ¬ 3 < (if q < 0 then -q else q) := by split <;> omega
  simp [dF, o2_notIn_ss (hab s h).fl (fun a m => (hab a m).fl), h, ifK, e1, e2]
theorem look_at_formula_run {ab : List Str} (hab : ∀ a ∈ ab, Nm a) : ∀ (n : Nat) (f : Fm), f.ht ≤ n → f.ok (· ∈ ab) → ∀ {K : KF} {E g}, RunF (s_f_look_at_formula n) [.imm (.lst (dSs ab)), .imm (dF f)] K E g = K (.imm .non) [none, none]
  | 0, f, h, _, _, _, _ => by have := ht_pos f; omega
  | n + 1, f, h, o, K, E, g => by
    refine Sp.eqn ?_
    rw [show s_f_look_at_formula (n + 1) = sDef 2 4 [] (s_f_look_at_formulaB (s_f_look_at_formula n)) from rfl, sp_def (by rfl) (by decide), s_f_look_at_formulaB]
    have el : ∀ {k : T → Prop}, bltK bLen [dF f] k = k (.imm (.int (f.rest.length + 1))) := by
      intro k; rw [dF_eq, b_len_tup]; simp
    simp [ix0_dF, el, wanted_behind_run]
    rcases f with z | _ | _ | ⟨s, p, q⟩ | ⟨w, a, b⟩ | ⟨a, b, c⟩
    · simp [Fm.word, dF, look_at_number_run o]
    · simp [Fm.word, dF, runL_nil, cutAt]
    · simp [Fm.word, dF, runL_nil, cutAt]
    · simp [Fm.word, look_at_read_run hab o.1 o.2.1 o.2.2]
    · simp [Fm.ht] at h
      have ia := fun {K : KF} {E g} => @look_at_formula_run ab hab n a (by omega) o.1 K E g
      have ib := fun {K : KF} {E g} => @look_at_formula_run ab hab n b (by omega) o.2 K E g
      simp [Fm.word, dF, runL_nil, runL_cons, cutAt, ia, ib]
    · simp [Fm.ht] at h
      have ia := fun {K : KF} {E g} => @look_at_formula_run ab hab n a (by omega) o.1 K E g
      have ib := fun {K : KF} {E g} => @look_at_formula_run ab hab n b (by omega) o.2.1 K E g
      have ic := fun {K : KF} {E g} => @look_at_formula_run ab hab n c (by omega) o.2.2 K E g
      simp [Fm.word, dF, runL_nil, runL_cons, cutAt, ia, ib, ic]
structure Pic where
  s : Str
  w : Int
  h : Int
  r : Int
structure Stg where
  s : Str
  f : Fm
structure Wk where
  m : Int
  ps : List Pic
  gs : List Stg
def dPic (p : Pic) : D := .tup [.str p.s, .int p.w, .int p.h, .int p.r]
def dStg (g : Stg) : D := .tup [.str g.s, dF g.f]
def dKV (g : Stg) : D × D := (.str g.s, dF g.f)
def dW (W : Wk) : D := .obj 0 [("measure", .int W.m), ("kept_pictures", .lst (W.ps.map dPic)), ("kept_formulas", .dct false (W.gs.map dKV))]
def tW (W : Wk) : T := .obj 0 [("measure", .imm (.int W.m)), ("kept_pictures", .lst (ims (W.ps.map dPic))), ("kept_formulas", .dct false (imK (W.gs.map dKV)))]
def pNs (l : List Pic) : List Str := l.map (·.s)
def gNs (l : List Stg) : List Str := l.map (·.s)
def Wk.names (W : Wk) : List Str := pNs W.ps ++ gNs W.gs
def PicsOK : List Str → List Pic → Prop
  | _, [] => True
  | ab, p :: r => (Nm p.s ∧ p.s ∉ ab) ∧ ((1 ≤ p.w ∧ p.w ≤ 40) ∧ (1 ≤ p.h ∧ p.h ≤ 40) ∧ (0 ≤ p.r ∧ p.r < 10 ^ 60)) ∧ PicsOK (ab ++ [p.s]) r
def StgsOK : List Str → List Stg → Prop
  | _, [] => True
  | ab, g :: r => (Nm g.s ∧ g.s ∉ ab) ∧ (g.f.ok (· ∈ ab) ∧ g.f.ht ≤ 12 ∧ g.f.size ≤ 500) ∧ StgsOK (ab ++ [g.s]) r
structure Wk.OK (W : Wk) : Prop where
  m : 2 ≤ W.m ∧ W.m ≤ 10 ^ 60
  np : 1 ≤ W.ps.length ∧ W.ps.length ≤ 4
  ng : 1 ≤ W.gs.length ∧ W.gs.length ≤ 8
  ps : PicsOK [] W.ps
  gs : StgsOK (pNs W.ps) W.gs
theorem PicsOK.nm : ∀ {l : List Pic} {ab : List Str}, PicsOK ab l → ∀ p ∈ l, Nm p.s ∧ p.s ∉ ab ∧ (1 ≤ p.w ∧ p.w ≤ 40) ∧ (1 ≤ p.h ∧ p.h ≤ 40) ∧ (0 ≤ p.r ∧ p.r < 10 ^ 60)
  | q :: r, ab, h, p, hp => by
    rcases List.mem_cons.mp hp with rfl | hp
    · exact ⟨h.1.1, h.1.2, h.2.1⟩
    · have := PicsOK.nm h.2.2 p hp
      exact ⟨this.1, fun m => this.2.1 (by simp [m]), this.2.2⟩
theorem PicsOK.nodup : ∀ {l : List Pic} {ab : List Str}, PicsOK ab l → (pNs l).Nodup
  | [], _, _ => List.nodup_nil
  | q :: r, ab, h => List.nodup_cons.mpr ⟨fun m => by
      obtain ⟨p, hp, e⟩ := List.mem_map.mp m
      exact (PicsOK.nm h.2.2 p hp).2.1 (by simp [e]), PicsOK.nodup h.2.2⟩
theorem StgsOK.nm : ∀ {l : List Stg} {ab : List Str}, StgsOK ab l → ∀ p ∈ l, Nm p.s ∧ p.s ∉ ab ∧ p.f.ht ≤ 12 ∧ p.f.size ≤ 500
  | q :: r, ab, h, p, hp => by
    rcases List.mem_cons.mp hp with rfl | hp
    · exact ⟨h.1.1, h.1.2, h.2.1.2⟩
    · have := StgsOK.nm h.2.2 p hp
      exact ⟨this.1, fun m => this.2.1 (by simp [m]), this.2.2⟩
theorem StgsOK.nodup : ∀ {l : List Stg} {ab : List Str}, StgsOK ab l → (gNs l).Nodup
  | [], _, _ => List.nodup_nil
  | q :: r, ab, h => List.nodup_cons.mpr ⟨fun m => by
      obtain ⟨p, hp, e⟩ := List.mem_map.mp m
      exact (StgsOK.nm h.2.2 p hp).2.1 (by simp [e]), StgsOK.nodup h.2.2⟩
theorem StgsOK.fm : ∀ {pre post : List Stg} {g : Stg} {ab : List Str}, StgsOK ab (pre ++ g :: post) → g.f.ok (· ∈ ab ++ gNs pre)
  | [], post, g, ab, h => by simpa [gNs] using h.2.1.1
  | q :: r, post, g, ab, h => by
    have := StgsOK.fm (pre := r) h.2.2
    simpa [gNs] using this
theorem look_at_stages_run {ab : List Str} {gs : List Stg} (hab : ∀ a ∈ ab, Nm a) (hl : 1 ≤ gs.length ∧ gs.length ≤ 8) (hl2 : ab.length ≤ 4) (h : StgsOK ab gs) : Sp s_f_look_at_stages [.lst (ims (dSs ab)), .imm (.lst (gs.map dStg))] fun t ps => t = .imm .non ∧ ∃ o, ps = [o, none] := by
  rw [s_f_look_at_stages, sp_def (by rfl) (by decide), s_f_look_at_stagesB]
  have e1 : ¬ (gs.length : Int) < 1 := by omega
  have e2 : ¬ 8 < (gs.length : Int) := by omega
  simp [ifK, e1, e2]
  refine RunL.inv (fun ds s => ∃ (ab' : List Str) (gs' : List Stg) (a2 a3 : Option T), ds = gs'.map dStg ∧ s = [some (.lst (ims (dSs ab'))), some (.imm (.lst (gs.map dStg))), a2, a3] ∧ StgsOK ab' gs' ∧ (∀ a ∈ ab', Nm a) ∧ ab'.length + gs'.length ≤ 12) ?_ ?_ _ _ _ ⟨ab, gs, _, _, rfl, rfl, h, hab, by omega⟩
  · rintro d r s ⟨ab', gs', a2, a3, hd, rfl, ho, hn, hlen⟩
    cases gs' with
    | nil => cases hd
    | cons g gs' =>
      injection hd with hd1 hd2
      subst hd1
      simp at hlen
      simp [dStg, frz1K_any, look_at_name_run ho.1.1 hn ho.1.2, look_at_formula_run hn 12 g.f ho.2.1.2.1 ho.2.1.1]
      refine ⟨by omega, ab' ++ [g.s], gs', hd2, by simp [dSs, ims], ho.2.2, ?_, by simp; omega⟩
      intro a ha
      rcases List.mem_append.mp ha with ha | ha
      · exact hn a ha
      · simp at ha; subst ha; exact ho.1.1
  · rintro s ⟨ab', gs', a2, a3, hd, rfl, _⟩
    simp
theorem look_at_pictures_run {ps : List Pic} (hl : 1 ≤ ps.length ∧ ps.length ≤ 4) (h : PicsOK [] ps) : Sp s_f_look_at_pictures [.imm (.lst (ps.map dPic))] fun t qs => t = .lst (ims (dSs (pNs ps))) ∧ qs = [none] := by
  rw [s_f_look_at_pictures, sp_def (by rfl) (by decide), s_f_look_at_picturesB]
  have e1 : ¬ (ps.length : Int) < 1 := by omega
  have e2 : ¬ 4 < (ps.length : Int) := by omega
  simp [ifK, e1, e2]
  refine RunL.inv (fun ds s => ∃ (ab' : List Str) (ps' : List Pic) (a2 a3 a4 a5 : Option T), ds = ps'.map dPic ∧ s = [some (.imm (.lst (ps.map dPic))), some (.lst (ims (dSs ab'))), a2, a3, a4, a5] ∧ PicsOK ab' ps' ∧ (∀ a ∈ ab', Nm a) ∧ ab'.length + ps'.length ≤ 12 ∧ ab' ++ pNs ps' = pNs ps) ?_ ?_ _ _ _ ⟨[], ps, _, _, _, _, rfl, rfl, h, by simp, by simp; omega, rfl⟩
  · rintro d r s ⟨ab', ps', a2, a3, a4, a5, hd, rfl, ho, hn, hlen, hap⟩
    cases ps' with
    | nil => cases hd
    | cons p ps' =>
      injection hd with hd1 hd2
      subst hd1
      simp at hlen
      have h1 := ho.2.1.1
      have h2 := ho.2.1.2.1
      have e1 : ¬ p.w < 1 := by omega
      have e2 : ¬ 40 < p.w := by omega
      have e3 : ¬ p.h < 1 := by omega
      have e4 : ¬ 40 < p.h := by omega
      simp [dPic, frz1K_any, look_at_name_run ho.1.1 hn ho.1.2, look_at_number_run ho.2.1.2.2, ifK, e1, e2, e3, e4]
      refine ⟨by omega, ab' ++ [p.s], ps', hd2, by simp [dSs, ims], ho.2.2, ?_, by simp; omega, by simpa [pNs] using hap⟩
      intro a ha
      rcases List.mem_append.mp ha with ha | ha
      · exact hn a ha
      · simp at ha; subst ha; exact ho.1.1
  · rintro s ⟨ab', ps', a2, a3, a4, a5, hd, rfl, _, _, _, hap⟩
    cases ps' with
    | cons p ps' => cases hd
    | nil =>
      simp
      rw [← hap]; simp [pNs]
theorem dPut_new {α : Type} {k : D} {x : α} : ∀ {l : List (D × α)}, (∀ p ∈ l, kEq p.1 k = false) → dPut l k x = l ++ [(k, x)]
  | [], _ => rfl
  | (k', y) :: r, h => by
    have h1 := h _ (List.mem_cons_self ..)
    show (if kEq k' k then (k', x) :: r else (k', y) :: dPut r k x) = _
    rw [h1, dPut_new fun p hp => h p (List.mem_cons_of_mem _ hp)]
    rfl
@[simp] theorem kEq_str {a b : Str} : kEq (.str a) (.str b) = decide (a = b) := rfl
theorem imK_app (a b : List (D × D)) : imK (a ++ b) = imK a ++ imK b := List.map_append
@[simp] theorem imK_nil : imK [] = [] := rfl
@[simp] theorem imK_cons (p : D × D) (r : List (D × D)) : imK (p :: r) = (p.1, .imm p.2) :: imK r := rfl
@[simp] theorem imK_length (l : List (D × D)) : (imK l).length = l.length := List.length_map _
theorem dPut_imK {k v : D} {l : List (D × D)} (h : ∀ p ∈ l, kEq p.1 k = false) : dPut (imK l) k (.imm v) = imK (l ++ [(k, v)]) := by
  rw [dPut_new, imK_app]; rfl
  intro p hp
  obtain ⟨q, hq, rfl⟩ := List.mem_map.mp hp
  exact h q hq
theorem works_init_run {W : Wk} (h : W.OK) : Sp s_f_Works__init [.obj 0 [], .imm (.int W.m), .imm (.lst (W.ps.map dPic)), .imm (.lst (W.gs.map dStg))] fun t ps => t = .imm .non ∧ ps = [some (tW W), none, none, none] := by
  rw [s_f_Works__init, sp_def (by rfl) (by decide), s_f_Works__initB]
  have hm := h.m
  have e1 : ¬ W.m < 2 := by omega
  have e2 : ¬ 1000000000000000000000000000000000000000000000000000000000000 < W.m := by omega
  simp [ifK, e1, e2]
  refine (look_at_pictures_run h.np h.ps).k ?_
  rintro _ _ ⟨rfl, rfl⟩
  simp
  refine (look_at_stages_run (fun a ha => ?_) h.ng (by simpa [pNs] using h.np.2) h.gs).k ?_
  · obtain ⟨p, hp, rfl⟩ := List.mem_map.mp ha
    exact (h.ps.nm p hp).1
  rintro _ _ ⟨rfl, o, rfl⟩
  simp
  refine RunLC.mapM dPic (fun p => .imm (dPic p)) (fun p _ => ?_) (by have := h.np; rw [line_eq]; omega) ?_
  · simp [dPic, wipe]
  · have ei : (W.ps.map fun p => T.imm (dPic p)) = ims (W.ps.map dPic) := by simp [ims]
    rw [ei]
    simp
    refine RunL.inv (fun ds s => ∃ (pre gs' : List Stg) (a4 a8 : Option T), ds = gs'.map dStg ∧ s = [some (.obj 0 [("measure", .imm (.int W.m)), ("kept_pictures", .lst (ims (W.ps.map dPic))), ("kept_formulas", .dct false (imK (pre.map dKV)))]), some (.imm (.int W.m)), some (.imm (.lst (W.ps.map dPic))), some (.imm (.lst (W.gs.map dStg))), a4, none, none, none, a8] ∧ pre ++ gs' = W.gs) ?_ ?_ _ _ _ ⟨[], W.gs, _, _, rfl, rfl, rfl⟩
    · rintro d r s ⟨pre, gs', a4, a8, hd, rfl, hap⟩
      cases gs' with
      | nil => cases hd
      | cons g gs' =>
        injection hd with hd1 hd2
        subst hd1
        have hlen : pre.length + gs'.length + 1 ≤ 8 := by
          have := h.ng.2
          rw [← hap] at this
          simp at this
          omega
        have hnew : ∀ p ∈ pre.map dKV, kEq p.1 (.str g.s) = false := by
          intro p hp
          obtain ⟨q, hq, rfl⟩ := List.mem_map.mp hp
          have nd := h.gs.nodup
          rw [← hap] at nd
          simp only [gNs, List.map_append, List.map_cons] at nd
          have := (List.nodup_append.mp nd).2.2 q.s (List.mem_map_of_mem hq) g.s (by simp)
          simpa [dKV] using this
        simp [dStg, dPut_imK hnew]
        refine ⟨by omega, pre ++ [g], gs', hd2, by simp [dKV], by simpa using hap⟩
    · rintro s ⟨pre, gs', a4, a8, hd, rfl, hap⟩
      cases gs' with
      | cons g gs' => cases hd
      | nil =>
        simp at hap
        subst hap
        simp [tW]
@[simp] theorem tW_toD (W : Wk) : (tW W).toD = dW W := by simp [tW, dW]
end G
set_option Elab.async false
set_option linter.all false
set_option maxRecDepth 100000
set_option maxHeartbeats 4000000
namespace G
open PySem PySem.Builtin.Int
/-- a text of plain signs, not long -/
def Gd1 (n : Nat) (x : Str) : Prop := ∃ l : List Nat, x = mkS l ∧ (∀ c ∈ l, c < 128) ∧ l.length ≤ n
theorem Gd1.len {n : Nat} {x : Str} (h : Gd1 n x) : x.length ≤ n := by
  obtain ⟨l, rfl, _, hl⟩ := h
  rw [mkS_len]; exact hl
theorem fl_mkS {l : List Nat} (h : ∀ c ∈ l, c < 128) : FlS (mkS l) := by
  intro m
  unfold D.flat
  show PyData.strOk (mkS l) = true
  unfold PyData.strOk mkS
  simp only [List.all_toArray, List.all_eq_true, decide_eq_true_eq]
  intro c hc
  have := h c hc
  omega
theorem Gd1.fl {n : Nat} {x : Str} (h : Gd1 n x) : FlS x := by
  obtain ⟨l, rfl, hc, _⟩ := h
  exact fl_mkS hc
theorem Gd1.mono {m n : Nat} {x : Str} (h : Gd1 m x) (k : m ≤ n) : Gd1 n x := by
  obtain ⟨l, rfl, hc, hl⟩ := h
  exact ⟨l, rfl, hc, by omega⟩
theorem Gd1.app {m n : Nat} {x y : Str} (h : Gd1 m x) (k : Gd1 n y) : Gd1 (m + n) (x ++ y) := by
  obtain ⟨l, rfl, hc, hl⟩ := h
  obtain ⟨l', rfl, hc', hl'⟩ := k
  refine ⟨l ++ l', mkS_app _ _, fun c hm => ?_, by simp; omega⟩
  rcases List.mem_append.mp hm with hm | hm
  · exact hc c hm
  · exact hc' c hm
def wys : List Str := [Str.ofString "in", Str.ofString "whole", Str.ofString "strip"]
def isNm (s : Str) : Bool := decide (1 ≤ s.length ∧ s.length ≤ 12) && s.cps.toList.all fun c => decide (97 ≤ c ∧ c ≤ 122)
theorem isNm_iff {s : Str} : isNm s = true ↔ (1 ≤ s.length ∧ s.length ≤ 12) ∧ ∀ c ∈ s.cps.toList, 97 ≤ c ∧ c ≤ 122 := by
  simp only [isNm, Bool.and_eq_true, decide_eq_true_eq, List.all_eq_true]
theorem Nm.is {s : Str} (h : Nm s) : isNm s = true := by
  obtain ⟨l, rfl, hl, hc⟩ := h
  rw [isNm_iff, mkS_len]
  exact ⟨hl, hc⟩
theorem empty : Str.ofString "" = mkS [] := by decide +kernel
def okP (x : Str) : Option (Str × Str) := if isNm (Txt.partition x (Str.ofString " ")).1 = true ∧ (Txt.partition x (Str.ofString " ")).2.2 ∈ wys then some ((Txt.partition x (Str.ofString " ")).1, (Txt.partition x (Str.ofString " ")).2.2) else none
def mapO {α β : Type} (f : α → Option β) : List α → Option (List β)
  | [] => some []
  | a :: r => match f a with
    | none => none
    | some b => (mapO f r).map (b :: ·)
def rd (x : Str) : Option (List (Str × Str)) := if x = Str.ofString "" then some [] else mapO okP (Txt.split x (Str.ofString ", "))
end G
set_option Elab.async false
set_option linter.all false
set_option maxRecDepth 100000
set_option maxHeartbeats 4000000
namespace G
open PySem PySem.Builtin.Int
@[simp ↓] theorem isObjK_dW {W : Wk} {m : Str} {k : Prop} : isObjK (.imm (dW W)) 0 m k = ((¬ Str.ofString "measure" = m ∧ ¬ Str.ofString "kept_pictures" = m ∧ ¬ Str.ofString "kept_formulas" = m) ∧ k) := by
  rw [dW, isObjK_imm]
  by_cases h1 : Str.ofString "measure" = m <;> by_cases h2 : Str.ofString "kept_pictures" = m <;> by_cases h3 : Str.ofString "kept_formulas" = m <;> simp [h1, h2, h3]
@[simp ↓] theorem o1_dW_m {W : Wk} {k : T → Prop} : op1K (fFld [0] (Str.ofString "measure")) (dW W) k = k (.imm (.int W.m)) := by simp [dW]
@[simp ↓] theorem o1_dW_p {W : Wk} {k : T → Prop} : op1K (fFld [0] (Str.ofString "kept_pictures")) (dW W) k = k (.imm (.lst (W.ps.map dPic))) := by simp [dW]
@[simp ↓] theorem o1_dW_f {W : Wk} {k : T → Prop} : op1K (fFld [0] (Str.ofString "kept_formulas")) (dW W) k = k (.imm (.dct false (W.gs.map dKV))) := by simp [dW]
theorem pictures_run {W : Wk} (hl : W.ps.length ≤ 4) {K : KF} {E g} : RunF s_f_Works_pictures [.imm (dW W)] K E g = K (.lst (ims (dSs (pNs W.ps)))) [none] := by
  refine Sp.eqn ?_
  rw [s_f_Works_pictures, sp_def (by rfl) (by decide), s_f_Works_picturesB]
  simp
  refine RunLC.mapM dPic (fun p => .imm (.str p.s)) (fun p _ => ?_) (by rw [line_eq]; omega) ?_
  · simp [dPic, wipe]
  · simp [dSs, pNs, ims]
theorem stages_run {W : Wk} {K : KF} {E g} : RunF s_f_Works_stages [.imm (dW W)] K E g = K (.lst (ims (dSs (gNs W.gs)))) [none] := by
  refine Sp.eqn ?_
  rw [s_f_Works_stages, sp_def (by rfl) (by decide), s_f_Works_stagesB]
  simp [dSs, gNs, dKV]
  congr 1
theorem inj_of_nodup {α : Type} {f : α → Str} : ∀ {l : List α}, (l.map f).Nodup → ∀ a ∈ l, ∀ b ∈ l, f a = f b → a = b
  | [], _, a, ha, _, _, _ => by cases ha
  | c :: r, h, a, ha, b, hb, e => by
    have h := List.nodup_cons.mp h
    rcases List.mem_cons.mp ha with ea | ha' <;> rcases List.mem_cons.mp hb with eb | hb'
    · rw [ea, eb]
    · exact (h.1 (List.mem_map.mpr ⟨b, hb', by rw [← e, ea]⟩)).elim
    · exact (h.1 (List.mem_map.mpr ⟨a, ha', by rw [e, eb]⟩)).elim
    · exact inj_of_nodup h.2 a ha' b hb' e
theorem row_of_run {W : Wk} (h : W.OK) {p : Pic} (hp : p ∈ W.ps) {K : KF} {E g} : RunF s_f_Works_row_of [.imm (dW W), .imm (.str p.s)] K E g = K (.imm (dPic p)) [none, none] := by
  refine Sp.eqn ?_
  rw [s_f_Works_row_of, sp_def (by rfl) (by decide), s_f_Works_row_ofB]
  simp
  refine RunL.inv (fun ds s => ∃ (l : List Pic) (a2 : Option T), ds = l.map dPic ∧ (∃ a, s = [some (.imm a), some (.imm (.str p.s)), a2]) ∧ p ∈ l ∧ (∀ q ∈ l, q ∈ W.ps)) ?_ ?_ _ _ _ ⟨W.ps, _, rfl, ⟨_, rfl⟩, hp, fun q hq => hq⟩
  · rintro d r s ⟨l, a2, hd, ⟨a, rfl⟩, hm, hs⟩
    cases l with
    | nil => cases hd
    | cons q l =>
      injection hd with hd1 hd2
      subst hd1
      by_cases e : q.s = p.s
      · obtain rfl := inj_of_nodup (PicsOK.nodup h.ps) q (hs q (by simp)) p hp e
        simp [dPic, ifK]
      · have hm' : p ∈ l := by
          rcases List.mem_cons.mp hm with rfl | hm
          · exact absurd rfl e
          · exact hm
        simp [dPic, ifK, e]
        exact ⟨l, hd2, hm', fun q hq => hs q (by simp [hq])⟩
  · rintro s ⟨l, a2, hd, ⟨a, rfl⟩, hm, hs⟩
    cases l with
    | nil => cases hm
    | cons q l => cases hd
theorem size_run {W : Wk} (h : W.OK) {p : Pic} (hp : p ∈ W.ps) {K : KF} {E g} : RunF s_f_Works_size [.imm (dW W), .imm (.str p.s)] K E g = K (.imm (.tup [.int p.w, .int p.h])) [none, none] := by
  refine Sp.eqn ?_
  rw [s_f_Works_size, sp_def (by rfl) (by decide), s_f_Works_sizeB]
  have e1 := fun {K : KF} {E g} => @row_of_run W h p hp K E g
  simp [e1, dPic]
theorem rim_run {W : Wk} (h : W.OK) {p : Pic} (hp : p ∈ W.ps) {K : KF} {E g} : RunF s_f_Works_rim [.imm (dW W), .imm (.str p.s)] K E g = K (.imm (.int p.r)) [none, none] := by
  refine Sp.eqn ?_
  rw [s_f_Works_rim, sp_def (by rfl) (by decide), s_f_Works_rimB]
  have e1 := fun {K : KF} {E g} => @row_of_run W h p hp K E g
  simp [e1, dPic]
theorem dFind_gs {s : Str} : ∀ {l : List Stg}, dFind (l.map dKV) (.str s) = (l.find? fun g => decide (g.s = s)).map fun g => dF g.f
  | [] => rfl
  | g :: r => by
    show (if kEq (.str g.s) (.str s) then some (dF g.f) else dFind (r.map dKV) (.str s)) = _
    rw [kEq_str, List.find?_cons]
    by_cases e : g.s = s
    · simp [e]
    · simp [e, dFind_gs]
theorem find_nodup {α : Type} {f : α → Str} : ∀ {l : List α}, (l.map f).Nodup → ∀ a ∈ l, (l.find? fun b => decide (f b = f a)) = some a
  | c :: r, h, a, ha => by
    rw [List.find?_cons]
    by_cases e : f c = f a
    · obtain rfl := inj_of_nodup h c (by simp) a ha e
      simp
    · simp [e]
      refine find_nodup (List.nodup_cons.mp h).2 a ?_
      rcases List.mem_cons.mp ha with rfl | ha
      · exact absurd rfl e
      · exact ha
theorem formula_of_run {W : Wk} (h : W.OK) {p : Stg} (hp : p ∈ W.gs) {K : KF} {E g} : RunF s_f_Works_formula [.imm (dW W), .imm (.str p.s)] K E g = K (.imm (dF p.f)) [none, none] := by
  refine Sp.eqn ?_
  rw [s_f_Works_formula, sp_def (by rfl) (by decide), s_f_Works_formulaB]
  have e1 : dFind (W.gs.map dKV) (.str p.s) = some (dF p.f) := by
    rw [dFind_gs, find_nodup (StgsOK.nodup h.gs) p hp]; rfl
  simp [e1, ifK, dfindK]
abbrev Gd := List (Str × List (List Int))
def dRows (r : List (List Int)) : D := .lst (r.map fun l => .lst (l.map D.int))
def dGd (p : Str × List (List Int)) : D × D := (.str p.1, dRows p.2)
def dG (gd : Gd) : D := .dct false (gd.map dGd)
def gRows (gd : Gd) (s : Str) : List (List Int) := match gd.find? fun p => decide (p.1 = s) with
  | some p => p.2
  | none => []
def picV (m : Int) (gd : Gd) (p : Pic) (x y : Int) : Int :=
  if (0 ≤ x ∧ x < p.w) ∧ (0 ≤ y ∧ y < p.h) then (((gRows gd p.s)[y.toNat]?.getD [])[x.toNat]?.getD 0) % m else p.r % m
end G
set_option Elab.async false
set_option linter.all false
set_option maxRecDepth 100000
set_option maxHeartbeats 4000000
namespace G
open PySem PySem.Builtin.Int
def cellV (W : Wk) (gd : Gd) : Nat → Str → Int → Int → Int
  | 0, _, _, _ => 0
  | n + 1, s, x, y => match W.ps.find? fun p => decide (p.s = s) with
    | some p => picV W.m gd p x y
    | none => match W.gs.find? fun g => decide (g.s = s) with
      | some g => worthF W.m x y g.f ((reads g.f).map fun r => cellV W gd n r.1 (x + r.2.1) (y + r.2.2))
      | none => 0
def Wk.lev (W : Wk) (s : Str) : Nat := if s ∈ gNs W.gs then (gNs W.gs).idxOf s + 1 else 0
def cell (W : Wk) (gd : Gd) (s : Str) (x y : Int) : Int := cellV W gd 12 s x y
section
variable {W : Wk}
theorem stg_no_pic (h : W.OK) {g : Stg} (hg : g ∈ W.gs) : g.s ∉ pNs W.ps := (h.gs.nm g hg).2.1
theorem pic_no_stg (h : W.OK) {p : Pic} (hp : p ∈ W.ps) : p.s ∉ gNs W.gs := fun m => by
  obtain ⟨g, hg, e⟩ := List.mem_map.mp m
  exact stg_no_pic h hg (by rw [e]; exact List.mem_map_of_mem hp)
theorem lev_pic (h : W.OK) {p : Pic} (hp : p ∈ W.ps) : W.lev p.s = 0 := if_neg (pic_no_stg h hp)
theorem read_lev (h : W.OK) {g : Stg} (hg : g ∈ W.gs) {r : Str × Int × Int} (hr : r ∈ reads g.f) : r.1 ∈ W.names ∧ W.lev r.1 < W.lev g.s ∧ (-3 ≤ r.2.1 ∧ r.2.1 ≤ 3) ∧ (-3 ≤ r.2.2 ∧ r.2.2 ≤ 3) := by
  obtain ⟨pre, post, e⟩ := List.append_of_mem hg
  have hok := h.gs
  rw [e] at hok
  have o := ok_reads (StgsOK.fm hok) r hr
  have nd := h.gs.nodup
  have eg : gNs W.gs = gNs pre ++ g.s :: gNs post := by rw [e]; simp [gNs]
  have hgl : W.lev g.s = (gNs pre).length + 1 := by
    unfold Wk.lev
    rw [if_pos (show g.s ∈ gNs W.gs from List.mem_map_of_mem hg), eg, List.idxOf_append]
    have hn : g.s ∉ gNs pre := by
      rw [eg] at nd
      intro m
      exact (List.nodup_append.mp nd).2.2 _ m _ (by simp) rfl
    rw [if_neg hn]
    simp
  refine ⟨?_, ?_, o.2⟩
  · rcases List.mem_append.mp o.1 with m | m
    · exact List.mem_append.mpr (.inl m)
    · exact List.mem_append.mpr (.inr (by rw [eg]; simp [m]))
  · rw [hgl]
    rcases List.mem_append.mp o.1 with m | m
    · obtain ⟨p, hp, e2⟩ := List.mem_map.mp m
      rw [← e2, lev_pic h hp]; omega
    · unfold Wk.lev
      rw [if_pos (by rw [eg]; simp [m]), eg, List.idxOf_append, if_pos m]
      have := List.idxOf_lt_length_of_mem m
      omega
end
abbrev Spot := Str × Int × Int
def dKey (c : Spot) : D := .tup [.str c.1, .int c.2.1, .int c.2.2]
def ml (v : Str → Int → Int → Int) (L : List Spot) : List (D × D) := L.map fun c => (dKey c, .int (v c.1 c.2.1 c.2.2))
@[simp] theorem ml_length {v L} : (ml v L).length = L.length := by simp [ml]
theorem nodup_lt : ∀ (N : Nat) (l : List Nat), l.Nodup → (∀ x ∈ l, x < N) → l.length ≤ N
  | 0, l, _, h => by
    cases l with
    | nil => simp
    | cons a r => have := h a (by simp); omega
  | N + 1, l, nd, h => by
    have := nodup_lt N (l.erase N) (nd.erase N) fun x hx => by
      have h1 := h x (List.mem_of_mem_erase hx)
      have h2 : x ≠ N := fun e => by
        subst e
        exact nd.not_mem_erase hx
      omega
    have := List.length_erase_le (a := N) (l := l)
    by_cases m : N ∈ l
    · have e := List.length_erase_of_mem m
      have : 0 < l.length := List.length_pos_of_mem m
      omega
    · rw [List.erase_of_not_mem m] at *
      omega
/-- spots of stages, within 300 of one spot -/
structure Mem (W : Wk) (ox oy : Int) (L : List Spot) : Prop where
  nd : L.Nodup
  inn : ∀ c ∈ L, c.1 ∈ gNs W.gs ∧ (ox - 300 ≤ c.2.1 ∧ c.2.1 ≤ ox + 300) ∧ (oy - 300 ≤ c.2.2 ∧ c.2.2 ≤ oy + 300)
theorem Mem.nil {W ox oy} : Mem W ox oy [] := ⟨List.nodup_nil, by simp⟩
theorem Mem.add {W ox oy L} {c : Spot} (h : Mem W ox oy L) (hc : c ∉ L) (hi : c.1 ∈ gNs W.gs ∧ (ox - 300 ≤ c.2.1 ∧ c.2.1 ≤ ox + 300) ∧ (oy - 300 ≤ c.2.2 ∧ c.2.2 ≤ oy + 300)) : Mem W ox oy (L ++ [c]) := by
  refine ⟨List.nodup_append.mpr ⟨h.nd, by simp, ?_⟩, ?_⟩
  · intro a ha b hb e
    simp at hb
    subst hb; subst e
    exact hc ha
  · intro a ha
    rcases List.mem_append.mp ha with ha | ha
    · exact h.inn a ha
    · simp at ha; subst ha; exact hi
theorem Mem.len {W : Wk} (hW : W.OK) {ox oy L} (h : Mem W ox oy L) : L.length ≤ 2889608 := by
  have := nodup_lt 2889608 (L.map fun c => (gNs W.gs).idxOf c.1 * 361201 + ((c.2.1 - ox + 300).toNat * 601 + (c.2.2 - oy + 300).toNat)) ?_ ?_
  · simpa using this
  · refine List.pairwise_map.mpr (h.nd.imp_of_mem fun {a b} ha hb hne e => hne ?_)
    have ia := h.inn a ha
    have ib := h.inn b hb
    have e1 : (gNs W.gs).idxOf a.1 = (gNs W.gs).idxOf b.1 := by omega
    have e2 : a.2.1 = b.2.1 := by omega
    have e3 : a.2.2 = b.2.2 := by omega
    have e4 : a.1 = b.1 := by
      have h1 := List.getElem_idxOf (List.idxOf_lt_length_of_mem ia.1)
      have h2 := List.getElem_idxOf (List.idxOf_lt_length_of_mem ib.1)
      rw [← h1, ← h2]
      simp only [e1]
    obtain ⟨s, x, y⟩ := a
    obtain ⟨s', x', y'⟩ := b
    simp at e2 e3 e4
    subst e2; subst e3; subst e4
    rfl
  · intro x hx
    obtain ⟨c, hc, rfl⟩ := List.mem_map.mp hx
    have ic := h.inn c hc
    have h1 := List.idxOf_lt_length_of_mem ic.1
    have e : (gNs W.gs).length = W.gs.length := by simp [gNs]
    have := hW.ng
    omega
end G
set_option Elab.async false
set_option linter.all false
set_option maxRecDepth 100000
set_option maxHeartbeats 4000000
namespace G
open PySem PySem.Builtin.Int
end G
set_option Elab.async false
set_option linter.all false
set_option maxRecDepth 100000
set_option maxHeartbeats 4000000
namespace G
open PySem PySem.Builtin.Int
def tC (W : Wk) (gd : Gd) (L : List Spot) : T := .obj 1 [("works", .imm (dW W)), ("given", .imm (dG gd)), ("known", .dct true (imK (ml (cell W gd) L)))]
def Near (W : Wk) (ox oy : Int) (s : Str) (x y : Int) : Prop := (ox - 300 + 3 * (W.lev s : Int) ≤ x ∧ x ≤ ox + 300 - 3 * (W.lev s : Int)) ∧ (oy - 300 + 3 * (W.lev s : Int) ≤ y ∧ y ≤ oy + 300 - 3 * (W.lev s : Int))
theorem Near.read {W : Wk} (h : W.OK) {ox oy : Int} {g : Stg} (hg : g ∈ W.gs) {x y : Int} (hn : Near W ox oy g.s x y) {r : Spot} (hr : r ∈ reads g.f) : Near W ox oy r.1 (x + r.2.1) (y + r.2.2) := by
  have := read_lev h hg hr
  unfold Near at *
  omega
end G
set_option Elab.async false
set_option linter.all false
set_option maxRecDepth 100000
set_option maxHeartbeats 4000000
namespace G
open PySem PySem.Builtin.Int
def dParts (W : Wk) : D := .tup [.int W.m, .lst (W.ps.map dPic), .lst (W.gs.map dStg)]
/-- one row, of n from l -/
def rowV (v : Int → Int → Int) (l y : Int) (n : Nat) : List Int := (List.range n).map fun i : Nat => v (l + i) y
/-- n rows from t, of m each -/
def gridV (v : Int → Int → Int) (l t : Int) (m n : Nat) : List (List Int) := (List.range n).map fun j : Nat => rowV v l (t + j) m
@[simp] theorem rowV_length {v l y n} : (rowV v l y n).length = n := by simp [rowV]
@[simp] theorem gridV_length {v l t m n} : (gridV v l t m n).length = n := by simp [gridV]
end G
set_option Elab.async false
set_option linter.all false
set_option maxRecDepth 100000
set_option maxHeartbeats 4000000
namespace G
open PySem PySem.Builtin.Int
theorem mixed_run (ns : List Int) (hb : ∀ z ∈ ns, intBits z ≤ 1048576) (a p : Int) (hl : ns.length ≤ 63) (h0 : 0 ≤ a) (h1 : a ≤ 1000) (h2 : 0 < p) (h3 : p ≤ 1000) : Sp s_l_mixed [.imm (script ns), .imm (.int a), .imm (.int p)] (fun t ps => ps = [none, none, none] ∧ ∃ v : Int, (0 ≤ v ∧ v < 10 ^ 60) ∧ t = .imm (.int v)) := by
  rw [s_l_mixed, sp_def (by rfl) (by decide), s_l_mixedB, script]
  simp
  have ea : (if 63 < (ns.length : Int) then 63 else (ns.length : Int)) = ns.length := if_neg (by omega)
  rw [ea]
  refine ⟨by omega, RunLC.draw rfl rfl (fun i hi => ⟨by have := Int.mul_nonneg (Int.le_of_lt h2) (Int.natCast_nonneg i); omega, rng3_lt h2 hi⟩) (by have := rng3_len (m := ns.length) h2 h0; unfold line; omega) fun L hL1 hL2 => ?_⟩
  have hlen : L.length ≤ 63 := by
    have := rng3_len (m := ns.length) h2 h0
    omega
  have hd : Bd 1050000 L.sum := (Bd.sum (m := 1048576) L fun z hz => hb z (hL2 z hz)).mono (by omega)
  simp
  generalize L.sum = d at hd
  have m1 := Bd.mulOk hd hd (by decide)
  have hx := ((((hd.mul hd).add hd).add (j := a) (n := 60) (Bd.range (by omega) (by omega))).add (j := 1) (n := 1) (Bd.lit (by decide +kernel)))
  have m2 := Bd.mulOk hx (j := 982451653) (n := 30) (Bd.lit (by decide +kernel)) (by decide)
  have hy := hx.mul (j := 982451653) (n := 30) (Bd.lit (by decide +kernel))
  have m3 := Bd.mulOk hy hy (by decide)
  rw [mulLine_eq] at m1 m2 m3
  simp at m2
  refine ⟨fun _ => by omega, fun _ => ⟨m1, m2, m3, ?_⟩⟩
  generalize (d * d + d + a + 1) * 982451653 = f
  have q1 : 0 ≤ f * f % 1000000000000000009 ∧ f * f % 1000000000000000009 < 1000000000000000009 := by omega
  have q2 : 0 ≤ f % 2147483629 + 7 ∧ f % 2147483629 + 7 < 2147483640 := by omega
  generalize f * f % 1000000000000000009 = u at q1 ⊢
  generalize f % 2147483629 + 7 = w at q2 ⊢
  have b1 := Bd.mulOk (i := u) (j := w) (m := 60) (n := 40) (Bd.range (by omega) (by omega)) (Bd.range (by omega) (by omega)) (by decide)
  rw [mulLine_eq] at b1
  refine ⟨b1, Int.mul_nonneg q1.1 q2.1, ?_⟩
  have := Int.mul_le_mul (Int.le_of_lt q1.2) (Int.le_of_lt q2.2) q2.1 (by omega)
  omega
def nL (nm : Nat → List Nat) (a n : Nat) : List Str := (List.range n).map fun i => mkS (nm (a + i))
theorem nL_succ {nm a n} : nL nm a (n + 1) = nL nm a n ++ [mkS (nm (a + n))] := by simp [nL, List.range_succ]
theorem nL_app {nm : Nat → List Nat} {a n m : Nat} : nL nm a n ++ nL nm (a + n) m = nL nm a (n + m) := by
  unfold nL
  rw [List.range_add, List.map_append, List.map_map]
  congr 1
  refine List.map_congr_left fun i _ => ?_
  simp [Nat.add_assoc]
theorem mem_nL {nm : Nat → List Nat} {a n : Nat} {s : Str} : s ∈ nL nm a n ↔ ∃ i < n, s = mkS (nm (a + i)) := by
  simp [nL]
  constructor
  · rintro ⟨i, hi, e⟩; exact ⟨i, hi, e.symm⟩
  · rintro ⟨i, hi, e⟩; exact ⟨i, hi, e.symm⟩
theorem Nms.nm {nm : Nat → List Nat} {n : Nat} (h : Nms nm n) {k : Nat} (hk : k < n) : Nm (mkS (nm k)) := ⟨nm k, rfl, ⟨(h.1 k hk).1, (h.1 k hk).2.1⟩, (h.1 k hk).2.2⟩
theorem Nms.ne {nm : Nat → List Nat} {n : Nat} (h : Nms nm n) {i j : Nat} (hi : i < n) (hj : j < n) (e : mkS (nm i) = mkS (nm j)) : i = j := by
  have e := mkS_inj e
  rcases Nat.lt_trichotomy i j with q | q | q
  · exact absurd e (h.2 i j q hj)
  · exact q
  · exact absurd e.symm (h.2 j i q hi)
theorem Nms.new {nm : Nat → List Nat} {N : Nat} (h : Nms nm N) {n : Nat} (hn : n < N) : mkS (nm n) ∉ nL nm 0 n := fun m => by
  obtain ⟨i, hi, e⟩ := mem_nL.mp m
  have := h.ne hn (by omega : 0 + i < N) e
  omega
theorem PicsOK.snoc : ∀ {ab : List Str} {l : List Pic} {p : Pic}, PicsOK ab l → (Nm p.s ∧ p.s ∉ ab ++ pNs l) → ((1 ≤ p.w ∧ p.w ≤ 40) ∧ (1 ≤ p.h ∧ p.h ≤ 40) ∧ (0 ≤ p.r ∧ p.r < 10 ^ 60)) → PicsOK ab (l ++ [p])
  | ab, [], p, _, h1, h2 => ⟨by simpa [pNs] using h1, h2, trivial⟩
  | ab, q :: l, p, h, h1, h2 => ⟨h.1, h.2.1, PicsOK.snoc h.2.2 (by simpa [pNs] using h1) h2⟩
theorem StgsOK.snoc : ∀ {ab : List Str} {l : List Stg} {p : Stg}, StgsOK ab l → (Nm p.s ∧ p.s ∉ ab ++ gNs l) → (p.f.ok (· ∈ ab ++ gNs l) ∧ p.f.ht ≤ 12 ∧ p.f.size ≤ 500) → StgsOK ab (l ++ [p])
  | ab, [], p, _, h1, h2 => ⟨by simpa [gNs] using h1, by simpa [gNs] using h2, trivial⟩
  | ab, q :: l, p, h, h1, h2 => ⟨h.1, h.2.1, StgsOK.snoc h.2.2 (by simpa [gNs] using h1) (by simpa [gNs] using h2)⟩
theorem name_get {nm : Nat → List Nat} {n k : Nat} (h : k < n) : (dNs nm n)[k]? = some (.str (mkS (nm k))) := by simp [dNs, h]
theorem atI_name {nm : Nat → List Nat} {n k : Nat} (h : k < n) : atI (dNs nm n) (k : Int) = some (.str (mkS (nm k))) := by rw [atI_nat, name_get h]
theorem pictures_drawn {ns : List Int} (hb : ∀ z ∈ ns, intBits z ≤ 1048576) (hl : ns.length ≤ 63) {nm : Nat → List Nat} {N : Nat} (hN : Nms nm N) {c : Nat} (hc : c ≤ N) (hc2 : c ≤ 4) : Sp s_l_pictures [.imm (script ns), .imm (.lst (dNs nm N)), .imm (.int c)] fun t qs => qs = [none, none, none] ∧ ∃ P : List Pic, t = .lst (ims (P.map dPic)) ∧ PicsOK [] P ∧ pNs P = nL nm 0 c := by
  rw [s_l_pictures, sp_def (by rfl) (by decide), s_l_picturesB]
  simp
  refine ⟨by omega, RunL.rng0 (fun k s => ∃ (P : List Pic) (a4 a5 a6 a7 : Option T), s = [some (.imm (script ns)), some (.imm (.lst (dNs nm N))), some (.imm (.int c)), some (.lst (ims (P.map dPic))), a4, a5, a6, a7] ∧ PicsOK [] P ∧ pNs P = nL nm 0 k) ?_ ?_ ⟨[], _, _, _, _, rfl, trivial, rfl⟩⟩
  · rintro k s hk ⟨P, a4, a5, a6, a7, rfl, hP, hPn⟩
    simp
    refine (mixed_run ns hb _ 9 hl (by omega) (by omega) (by omega) (by omega)).k ?_
    rintro _ _ ⟨rfl, v, hv, rfl⟩
    have hx : 0 ≤ v / 3 ∧ v / 3 < 10 ^ 60 := by omega
    simp [atI_name (show k < N by omega)]
    generalize v / 3 = x at hx
    have hPl : P.length = k := by
      have := congrArg List.length hPn
      simpa [pNs, nL] using this
    have num : ∀ (K : KF) (E : EF) g, (∀ v, (0 ≤ v ∧ v < 10 ^ 60) → K (.imm (.int v)) [none]) → RunF s_l_number [.imm (.int (x / 300))] K E g := fun K E g h => (number_run (Bd.range (by omega) (by omega))).k fun t ps ⟨e, v, hv, e2⟩ => by rw [e, e2]; exact h v hv
    have fin : ∀ (w h r : Int), (1 ≤ w ∧ w ≤ 40) → (1 ≤ h ∧ h ≤ 40) → (0 ≤ r ∧ r < 10 ^ 60) → P.length < 16777216 ∧ ∃ P' : List Pic, ims (P.map dPic) ++ [.imm (.tup [.str (mkS (nm k)), .int w, .int h, .int r])] = ims (P'.map dPic) ∧ PicsOK [] P' ∧ pNs P' = nL nm 0 (k + 1) := by
      intro w h r hw hh hr
      refine ⟨by omega, P ++ [⟨mkS (nm k), w, h, r⟩], by simp [ims, dPic], hP.snoc ⟨hN.nm (by omega), ?_⟩ ⟨hw, hh, hr⟩, ?_⟩
      · rw [hPn]; simpa using hN.new (by omega)
      · rw [nL_succ, ← hPn]; simp [pNs]
    refine ifK.mk (fun _ => ifK.mk (fun _ => ?_) fun _ => ?_) fun _ => ifK.mk (fun _ => ?_) fun _ => ?_
    all_goals refine num _ _ _ fun r hr => ?_
    all_goals simp
    all_goals exact fin _ _ _ (by omega) (by omega) hr
  · rintro s ⟨P, a4, a5, a6, a7, rfl, hP, hPn⟩
    simp
    exact ⟨P, rfl, hP, hPn⟩
theorem cut_names {nm : Nat → List Nat} {N n : Nat} (h : n ≤ N) : cutL (dNs nm N) none (some (n : Int)) = dNs nm n := by
  rw [cut_take _ _ (by omega), Int.toNat_natCast]
  unfold dNs
  rw [← List.map_take, List.take_range, Nat.min_eq_left h]
theorem of_names {nm : Nat → List Nat} {n : Nat} {f : Fm} (h : f.of nm n) : f.ok (· ∈ nL nm 0 n) := h.mono fun s ⟨k, hk, e⟩ => mem_nL.mpr ⟨k, hk, by simpa using e⟩
end G
set_option Elab.async false
set_option linter.all false
set_option maxRecDepth 100000
namespace G
open PySem
@[simp] theorem bits_l14 : bits 14 = 3 := by decide +kernel
@[simp] theorem bits_l17 : bits 17 = 4 := by decide +kernel
@[simp] theorem bits_l20 : bits 20 = 4 := by decide +kernel
@[simp] theorem bits_l24 : bits 24 = 4 := by decide +kernel
@[simp] theorem bits_l30 : bits 30 = 4 := by decide +kernel
@[simp] theorem bits_l33 : bits 33 = 5 := by decide +kernel
@[simp] theorem bits_l50 : bits 50 = 5 := by decide +kernel
@[simp] theorem bits_l55 : bits 55 = 5 := by decide +kernel
@[simp] theorem bits_l59 : bits 59 = 5 := by decide +kernel
@[simp] theorem bits_l121 : bits 121 = 6 := by decide +kernel
@[simp] theorem bits_l225 : bits 225 = 7 := by decide +kernel
@[simp] theorem bits_l500 : bits 500 = 8 := by decide +kernel
@[simp] theorem bits_l7919 : bits 7919 = 12 := by decide +kernel
@[simp] theorem bits_l40503 : bits 40503 = 15 := by decide +kernel
@[simp] theorem bits_l1000000 : bits 1000000 = 19 := by decide +kernel
@[simp] theorem bits_l1000000000 : bits 1000000000 = 29 := by decide +kernel
@[simp] theorem bits_l3932614460934721 : bits 3932614460934721 = 51 := by decide +kernel
@[simp] theorem bits_l1812433253982451697 : bits 1812433253982451697 = 60 := by decide +kernel
@[simp] theorem bits_l100000000000000000000 : bits 100000000000000000000 = 66 := by decide +kernel
@[simp] theorem bits_l739108512309184756019283746561 : bits 739108512309184756019283746561 = 99 := by decide +kernel
@[simp] theorem bits_l1000000000000000000000000000000 : bits 1000000000000000000000000000000 = 99 := by decide +kernel
@[simp] theorem bits_l10000000000000000000000000000000000000000 : bits 10000000000000000000000000000000000000000 = 132 := by decide +kernel
@[simp] theorem bits_l10000000000000000000000000000000000000121 : bits 10000000000000000000000000000000000000121 = 132 := by decide +kernel
@[simp] theorem bits_l100000000000000000000000000000000000000000000000000000000000 : bits 100000000000000000000000000000000000000000000000000000000000 = 195 := by decide +kernel
end G
set_option Elab.async false
set_option linter.all false
set_option maxRecDepth 100000
namespace G
open PySem
@[simp] theorem bits_l19 : bits 19 = 4 := by decide +kernel
end G
set_option Elab.async false
set_option linter.all false
set_option maxRecDepth 100000
namespace G
open PySem
@[simp] theorem bits_l200 : bits 200 = 7 := by decide +kernel
end G
set_option Elab.async false
set_option linter.all false
set_option maxRecDepth 100000
namespace G
open PySem
end G
set_option Elab.async false
set_option linter.all false
set_option maxRecDepth 100000
namespace G
open PySem
end G
set_option Elab.async false
set_option linter.all false
set_option maxRecDepth 100000
namespace G
open PySem
def s_f_formula_shownB (rec : Fn) : Ss :=
sSeq (sSet 1 (sLst (aVal (sOp2 fIx (sVar 0) (sCst (.int 0))) (aNil)))) (
sSeq (sFor (iTup (sSlice (sVar 0) (oSome (sCst (.int 1))) (oNone))) (gName 2) (
sIf (sTest (sUn (fIsi .tup) (sVar 2))) (
sExpr (sMeth 1 mAppend (aVal (sCall rec (aVal (sVar 2) (aNil))) (aNil)))) (sExpr (sMeth 1 mAppend (aVal (sBlt bStrA (aVal (sVar 2) (aNil))) (aNil)))))) (
sRet (sOp2 fAdd (sOp2 fAdd (sCst (.str "(")) (sStr1 fJoin (sCst (.str " ")) (sVar 1))) (sCst (.str ")")))))
def s_f_formula_shown : Nat → Fn
  | 0 => fun _ => .no
  | n + 1 => sDef 1 3 [] (s_f_formula_shownB (s_f_formula_shown n))
def s_f_works_shownB : Ss :=
sSeq (sSet 1 (sLst (aVal (sOp2 fAdd (sCst (.str "measure ")) (sBlt bStr (aVal (sUn (fFld [0] "measure") (sVar 0)) (aNil)))) (aNil)))) (
sSeq (sFor (iList (sMethV 0 "pictures" s_f_Works_pictures (sVar 0) (aNil))) (gName 2) (
sSeq (sAsg (gTup [gName 3, gName 4]) (sMethV 0 "size" s_f_Works_size (sVar 0) (aVal (sVar 2) (aNil)))) (
sExpr (sMeth 1 mAppend (aVal (sOp2 fAdd (sOp2 fAdd (sOp2 fAdd (sOp2 fAdd (sOp2 fAdd (sOp2 fAdd (sOp2 fAdd (sCst (.str "picture ")) (sVar 2)) (sCst (.str " "))) (sBlt bStr (aVal (sVar 3) (aNil)))) (sCst (.str " "))) (sBlt bStr (aVal (sVar 4) (aNil)))) (sCst (.str " "))) (sBlt bStr (aVal (sMethV 0 "rim" s_f_Works_rim (sVar 0) (aVal (sVar 2) (aNil))) (aNil)))) (aNil)))))) (
sSeq (sFor (iList (sMethV 0 "stages" s_f_Works_stages (sVar 0) (aNil))) (gName 2) (
sExpr (sMeth 1 mAppend (aVal (sOp2 fAdd (sOp2 fAdd (sOp2 fAdd (sCst (.str "stage ")) (sVar 2)) (sCst (.str " = "))) (sCall (s_f_formula_shown 12) (aVal (sMethV 0 "formula" s_f_Works_formula (sVar 0) (aVal (sVar 2) (aNil))) (aNil)))) (aNil))))) (
sRet (sStr1 fJoin (sCst (.str "\n")) (sVar 1)))))
def s_f_works_shown : Fn := sDef 1 5 [] s_f_works_shownB
def s_l_shapeB (rec : Fn) : Ss :=
sSeq (sIf (bOr (bNot (sTest (sUn (fIsi .tup) (sVar 0)))) (bNot (sTest (sUn (fIsi .str) (sOp2 fIx (sVar 0) (sCst (.int 0))))))) (
sRet (sCst (.bl false))) (sPass)) (
sSeq (sIf (sTest (sOp2 fIn (sOp2 fIx (sVar 0) (sCst (.int 0))) (sTup (aVal (sCst (.str "number")) (aVal (sCst (.str "read")) (aNil)))))) (
sRet (sOp2 fEq (sLC [1] (iTup (sSlice (sVar 0) (oSome (sCst (.int 1))) (oNone))) (gName 1) (bAnd (bNot (sTest (sUn (fIsi .str) (sVar 1)))) (bNot (sTest (sCall s_l_whole (aVal (sVar 1) (aNil)))))) (sVar 1)) (sLst (aNil)))) (sPass)) (
sRet (sOp2 fEq (sLC [1] (iTup (sSlice (sVar 0) (oSome (sCst (.int 1))) (oNone))) (gName 1) (bNot (sTest (sCall rec (aVal (sVar 1) (aNil))))) (sVar 1)) (sLst (aNil)))))
def s_l_shape : Nat → Fn
  | 0 => fun _ => .no
  | n + 1 => sDef 1 2 [] (s_l_shapeB (s_l_shape n))
def s_f_word_ofB : Ss :=
sSeq (sIf (bOr (sTest (sOp2 fEq (sVar 0) (sCst (.str "")))) (bNot (sTest (sCall s_f_all_letters (aVal (sVar 0) (aNil)))))) (
sRaiseF 12 "row" fitI (sVar 1)) (sPass)) (
sRet (sVar 0))
def s_f_word_of : Fn := sDef 2 2 [] s_f_word_ofB
def s_f_behind_signB : Ss :=
sSeq (sIf (sTest (sOp2 fNe (sSlice (sVar 0) (oSome (sVar 1)) (oSome (sOp2 fAdd (sVar 1) (sCst (.int 1))))) (sVar 2))) (
sRaiseF 12 "row" fitI (sVar 3)) (sPass)) (
sRet (sOp2 fAdd (sVar 1) (sCst (.int 1))))
def s_f_behind_sign : Fn := sDef 4 4 [] s_f_behind_signB
def s_f_is_figuresB : Ss :=
sSeq (sFor (iStr (sVar 0)) (gName 2) (
sIf (sTest (sOp2 fNotIn (sVar 2) (sCst (.str "0123456789")))) (
sRet (sCst (.bl false))) (sPass))) (
sRet (sAndV (sChain fLt fLe (sCst (.int 0)) (sBlt bLen (aVal (sVar 0) (aNil))) (sVar 1)) (sOrV (sOp2 fEq (sVar 0) (sCst (.str "0"))) (sOp2 fNe (sOp2 fIx (sVar 0) (sCst (.int 0))) (sCst (.str "0"))))))
def s_f_is_figures : Fn := sDef 2 3 [] s_f_is_figuresB
def s_f_step_ofB : Ss :=
sSeq (sIf (bAnd (sTest (sStr1 fStarts (sVar 0) (sCst (.str "-")))) (bAnd (sTest (sOp2 fNe (sVar 0) (sCst (.str "-0")))) (sTest (sCall s_f_is_figures (aVal (sSlice (sVar 0) (oSome (sCst (.int 1))) (oNone)) (aVal (sCst (.int 3)) (aNil))))))) (
sRet (sOp2 fSub (sCst (.int 0)) (sBlt bIntS (aVal (sSlice (sVar 0) (oSome (sCst (.int 1))) (oNone)) (aNil))))) (sPass)) (
sSeq (sIf (bNot (sTest (sCall s_f_is_figures (aVal (sVar 0) (aVal (sCst (.int 3)) (aNil)))))) (
sRaiseF 12 "row" fitI (sVar 1)) (sPass)) (
sRet (sBlt bIntS (aVal (sVar 0) (aNil)))))
def s_f_step_of : Fn := sDef 2 2 [] s_f_step_ofB
def s_f_number_ofB : Ss :=
sSeq (sIf (bNot (sTest (sCall s_f_is_figures (aVal (sVar 0) (aVal (sCst (.int 61)) (aNil)))))) (
sRaiseF 12 "row" fitI (sVar 1)) (sPass)) (
sRet (sBlt bIntS (aVal (sVar 0) (aNil))))
def s_f_number_of : Fn := sDef 2 2 [] s_f_number_ofB
def s_f_plain_valueB : Ss :=
sSeq (sIf (sTest (sOp2 fEq (sVar 0) (sCst (.str "number")))) (
sRet (sCall s_f_number_of (aVal (sVar 2) (aVal (sVar 3) (aNil))))) (sPass)) (
sSeq (sIf (sTest (sOp2 fEq (sVar 1) (sCst (.int 0)))) (
sRet (sCall s_f_word_of (aVal (sVar 2) (aVal (sVar 3) (aNil))))) (sPass)) (
sRet (sCall s_f_step_of (aVal (sVar 2) (aVal (sVar 3) (aNil))))))
def s_f_plain_value : Fn := sDef 4 4 [] s_f_plain_valueB
def s_f_part_atB : Ss :=
sSeq (sSetF 2 (sVar 1)) (
sSeq (loopW (bAnd (sTest (sOp2 fLt (sVar 2) (sBlt bLen (aVal (sVar 0) (aNil))))) (sTest (sOp2 fNotIn (sOp2 fIx (sVar 0) (sVar 2)) (sCst (.str " )"))))) (
sAug 2 fAddI (sCst (.int 1))) 100000) (
sRet (sTup (aVal (sSlice (sVar 0) (oSome (sVar 1)) (oSome (sVar 2))) (aVal (sVar 2) (aNil))))))
def s_f_part_at : Fn := sDef 2 3 [] s_f_part_atB
def s_f_formula_atB (rec : Fn) : Ss :=
sSeq (sAsg (gTup [gName 3, gName 1]) (sCall s_f_part_at (aVal (sVar 0) (aVal (sCall s_f_behind_sign (aVal (sVar 0) (aVal (sVar 1) (aVal (sCst (.str "(")) (aVal (sVar 2) (aNil)))))) (aNil))))) (
sSeq (sIf (sTest (sOp2 fNotIn (sVar 3) (sCst (.rol ((["number", "x", "y", "read", "sum", "less", "times", "least", "most", "pick"] : List Str).map D.str))))) (
sRaiseF 12 "row" fitI (sVar 2)) (sPass)) (
sSeq (sSet 4 (sLst (aVal (sVar 3) (aNil)))) (
sSeq (sFor (iRange rng1 (aVal (sCall s_f_wanted_behind (aVal (sVar 3) (aNil))) (aNil))) (gName 5) (
sSeq (sSetF 1 (sCall s_f_behind_sign (aVal (sVar 0) (aVal (sVar 1) (aVal (sCst (.str " ")) (aVal (sVar 2) (aNil))))))) (
sSeq (sIf (bOr (sTest (sOp2 fIn (sVar 3) (sCst (.rol ((["sum", "less", "times", "least", "most"] : List Str).map D.str))))) (sTest (sOp2 fEq (sVar 3) (sCst (.str "pick"))))) (
sAsg (gTup [gName 6, gName 1]) (sCall rec (aVal (sVar 0) (aVal (sVar 1) (aVal (sVar 2) (aNil)))))) (sSeq (sAsg (gTup [gName 6, gName 1]) (sCall s_f_part_at (aVal (sVar 0) (aVal (sVar 1) (aNil))))) (
sSetF 6 (sCall s_f_plain_value (aVal (sVar 3) (aVal (sVar 5) (aVal (sVar 6) (aVal (sVar 2) (aNil))))))))) (
sExpr (sMeth 4 mAppend (aVal (sVar 6) (aNil))))))) (
sRet (sTup (aVal (sBlt bTuple (aVal (sVar 4) (aNil))) (aVal (sCall s_f_behind_sign (aVal (sVar 0) (aVal (sVar 1) (aVal (sCst (.str ")")) (aVal (sVar 2) (aNil)))))) (aNil))))))))
def s_f_formula_at : Nat → Fn
  | 0 => fun _ => .no
  | n + 1 => sDef 3 7 [] (s_f_formula_atB (s_f_formula_at n))
def s_f_stage_ofB : Ss :=
sSeq (sAsg (gTup [gName 2, gName 3, gName 4]) (sStr1 fPart (sVar 0) (sCst (.str " = ")))) (
sSeq (sSetF 5 (sStr1 fSplit (sVar 2) (sCst (.str " ")))) (
sSeq (sIf (bOr (sTest (sOp2 fEq (sVar 3) (sCst (.str "")))) (bOr (sTest (sOp2 fNe (sBlt bLen (aVal (sVar 5) (aNil))) (sCst (.int 2)))) (sTest (sOp2 fNe (sOp2 fIx (sVar 5) (sCst (.int 0))) (sCst (.str "stage")))))) (
sRaiseF 12 "row" fitI (sVar 1)) (sPass)) (
sSeq (sAsg (gTup [gName 6, gName 7]) (sCall (s_f_formula_at 12) (aVal (sVar 4) (aVal (sCst (.int 0)) (aVal (sVar 1) (aNil)))))) (
sSeq (sIf (sTest (sOp2 fNe (sVar 7) (sBlt bLen (aVal (sVar 4) (aNil))))) (
sRaiseF 12 "row" fitI (sVar 1)) (sPass)) (
sRet (sTup (aVal (sCall s_f_word_of (aVal (sOp2 fIx (sVar 5) (sCst (.int 1))) (aVal (sVar 1) (aNil)))) (aVal (sVar 6) (aNil)))))))))
def s_f_stage_of : Fn := sDef 2 8 [] s_f_stage_ofB
def s_f_picture_ofB : Ss :=
sSeq (sSetF 2 (sStr1 fSplit (sVar 0) (sCst (.str " ")))) (
sSeq (sIf (bOr (sTest (sOp2 fNe (sBlt bLen (aVal (sVar 2) (aNil))) (sCst (.int 5)))) (sTest (sOp2 fNe (sOp2 fIx (sVar 2) (sCst (.int 0))) (sCst (.str "picture"))))) (
sRaiseF 12 "row" fitI (sVar 1)) (sPass)) (
sSeq (sSetF 3 (sLC [4] (iList (sSlice (sVar 2) (oSome (sCst (.int 2))) (oNone))) (gName 4) (bYes) (sCall s_f_number_of (aVal (sVar 4) (aVal (sVar 1) (aNil)))))) (
sRet (sTup (aVal (sCall s_f_word_of (aVal (sOp2 fIx (sVar 2) (sCst (.int 1))) (aVal (sVar 1) (aNil)))) (aVal (sOp2 fIx (sVar 3) (sCst (.int 0))) (aVal (sOp2 fIx (sVar 3) (sCst (.int 1))) (aVal (sOp2 fIx (sVar 3) (sCst (.int 2))) (aNil)))))))))
def s_f_picture_of : Fn := sDef 2 5 [] s_f_picture_ofB
def s_f_works_readB : Ss :=
sSeq (sSetF 1 (sStr1 fSplit (sVar 0) (sCst (.str "\n")))) (
sSeq (sSetF 2 (sStr1 fSplit (sOp2 fIx (sVar 1) (sCst (.int 0))) (sCst (.str " ")))) (
sSeq (sIf (bOr (sTest (sOp2 fNe (sBlt bLen (aVal (sVar 2) (aNil))) (sCst (.int 2)))) (sTest (sOp2 fNe (sOp2 fIx (sVar 2) (sCst (.int 0))) (sCst (.str "measure"))))) (
sRaiseF 12 "row" fitI (sCst (.int 0))) (sPass)) (
sSeq (sSetF 3 (sCall s_f_number_of (aVal (sOp2 fIx (sVar 2) (sCst (.int 1))) (aVal (sCst (.int 0)) (aNil))))) (
sSeq (sSet 4 (sLst (aNil))) (
sSeq (sSet 5 (sLst (aNil))) (
sSeq (sFor (iEnum (sVar 1)) (gTup [gName 6, gName 7]) (
sIf (sViewB (bAnd (sTest (sOp2 fGt (sVar 6) (sCst (.int 0)))) (bAnd (sTest (sOp2 fEq (sVar 5) (sLst (aNil)))) (sTest (sStr1 fStarts (sVar 7) (sCst (.str "picture "))))))) (
sExpr (sMeth 4 mAppend (aVal (sCall s_f_picture_of (aVal (sVar 7) (aVal (sVar 6) (aNil)))) (aNil)))) (sIf (sTest (sOp2 fGt (sVar 6) (sCst (.int 0)))) (
sExpr (sMeth 5 mAppend (aVal (sCall s_f_stage_of (aVal (sVar 7) (aVal (sVar 6) (aNil)))) (aNil)))) (sPass)))) (
sRet (sMake 0 s_f_Works__init (aVal (sVar 3) (aVal (sVar 4) (aVal (sVar 5) (aNil))))))))))))
def s_f_works_read : Fn := sDef 1 8 [] s_f_works_readB
def s_l_formula_textB (rec : Fn) : Ss :=
sSeq (sIf (sTest (sOp2 fIn (sOp2 fIx (sVar 0) (sCst (.int 0))) (sTup (aVal (sCst (.str "x")) (aVal (sCst (.str "y")) (aNil)))))) (
sRet (sOp2 fAdd (sOp2 fAdd (sCst (.str "(")) (sOp2 fIx (sVar 0) (sCst (.int 0)))) (sCst (.str ")")))) (sPass)) (
sSeq (sIf (sTest (sOp2 fEq (sOp2 fIx (sVar 0) (sCst (.int 0))) (sCst (.str "number")))) (
sRet (sOp2 fAdd (sOp2 fAdd (sCst (.str "(number ")) (sBlt bStr (aVal (sOp2 fIx (sVar 0) (sCst (.int 1))) (aNil)))) (sCst (.str ")")))) (sPass)) (
sSeq (sIf (sTest (sOp2 fEq (sOp2 fIx (sVar 0) (sCst (.int 0))) (sCst (.str "read")))) (
sRet (sOp2 fAdd (sOp2 fAdd (sOp2 fAdd (sOp2 fAdd (sOp2 fAdd (sOp2 fAdd (sCst (.str "(read ")) (sOp2 fIx (sVar 0) (sCst (.int 1)))) (sCst (.str " "))) (sBlt bStr (aVal (sOp2 fIx (sVar 0) (sCst (.int 2))) (aNil)))) (sCst (.str " "))) (sBlt bStr (aVal (sOp2 fIx (sVar 0) (sCst (.int 3))) (aNil)))) (sCst (.str ")")))) (sPass)) (
sRet (sOp2 fAdd (sOp2 fAdd (sOp2 fAdd (sOp2 fAdd (sCst (.str "(")) (sOp2 fIx (sVar 0) (sCst (.int 0)))) (sCst (.str " "))) (sStr1 fJoin (sCst (.str " ")) (sLC [1] (iTup (sSlice (sVar 0) (oSome (sCst (.int 1))) (oNone))) (gName 1) (bYes) (sCall rec (aVal (sVar 1) (aNil)))))) (sCst (.str ")"))))))
def s_l_formula_text : Nat → Fn
  | 0 => fun _ => .no
  | n + 1 => sDef 1 2 [] (s_l_formula_textB (s_l_formula_text n))
def s_l_text2B : Ss :=
sSeq (sSet 1 (sLst (aVal (sOp2 fAdd (sCst (.str "measure ")) (sBlt bStr (aVal (sOp2 fIx (sVar 0) (sCst (.int 0))) (aNil)))) (aNil)))) (
sSeq (sFor (iList (sOp2 fIx (sVar 0) (sCst (.int 1)))) (gTup [gName 2, gName 3, gName 4, gName 5]) (
sExpr (sMeth 1 mAppend (aVal (sOp2 fAdd (sOp2 fAdd (sOp2 fAdd (sOp2 fAdd (sOp2 fAdd (sOp2 fAdd (sOp2 fAdd (sCst (.str "picture ")) (sVar 2)) (sCst (.str " "))) (sBlt bStr (aVal (sVar 3) (aNil)))) (sCst (.str " "))) (sBlt bStr (aVal (sVar 4) (aNil)))) (sCst (.str " "))) (sBlt bStr (aVal (sVar 5) (aNil)))) (aNil))))) (
sSeq (sFor (iList (sOp2 fIx (sVar 0) (sCst (.int 2)))) (gTup [gName 2, gName 6]) (
sExpr (sMeth 1 mAppend (aVal (sOp2 fAdd (sOp2 fAdd (sOp2 fAdd (sCst (.str "stage ")) (sVar 2)) (sCst (.str " = "))) (sCall (s_l_formula_text 12) (aVal (sVar 6) (aNil)))) (aNil))))) (
sRet (sStr1 fJoin (sCst (.str "\n")) (sVar 1)))))
def s_l_text2 : Fn := sDef 1 7 [] s_l_text2B
def s_l_parts5B : Ss :=
sSeq (sSetF 1 (sOp2 fIx (sLst (aVal (sCst (.int 1)) (aVal (sCst (.int 2)) (aVal (sCst (.int 1)) (aVal (sCst (.int 3)) (aVal (sCst (.int 2)) (aVal (sCst (.int 4)) (aNil)))))))) (sOp2 fMod (sOp2 fDiv (sCall s_l_drawn_at (aVal (sVar 0) (aVal (sCst (.int 0)) (aNil)))) (sCst (.int 2))) (sCst (.int 6))))) (
sSeq (sSetF 2 (sCall s_l_names (aVal (sCall s_l_drawn_at (aVal (sVar 0) (aVal (sCst (.int 0)) (aNil)))) (aVal (sOp2 fAdd (sVar 1) (sCst (.int 5))) (aNil))))) (
sSeq (sSetF 3 (sCall s_l_pictures (aVal (sVar 0) (aVal (sVar 2) (aVal (sVar 1) (aNil)))))) (
sSeq (sSet 4 (sLst (aNil))) (
sSeq (sFor (iRange rng1 (aVal (sOp2 fAdd (sCst (.int 1)) (sOp2 fMod (sOp2 fDiv (sCall s_l_drawn_at (aVal (sVar 0) (aVal (sCst (.int 1)) (aNil)))) (sCst (.int 2))) (sCst (.int 5)))) (aNil))) (gName 5) (
sSeq (sSet 6 (sCall s_l_digits2 (aVal (sVar 0) (aVal (sOp2 fAdd (sCst (.int 3)) (sVar 5)) (aVal (sCst (.int 8)) (aNil)))))) (
sSeq (sSetF 7 (sCall s_l_leaf (aVal (sSlice (sVar 2) (oNone) (oSome (sOp2 fAdd (sVar 1) (sVar 5)))) (aVal (sMeth 6 mPop aNil) (aLend 6 (aNil)))))) (
sSeq (sIf (sTest (sOp2 fLt (sVar 5) (sCst (.int 2)))) (
sSetF 7 (sCall s_l_grown (aVal (sSlice (sVar 2) (oNone) (oSome (sOp2 fAdd (sVar 1) (sVar 5)))) (aLend 6 (aNil))))) (sPass)) (
sExpr (sMeth 4 mAppend (aVal (sTup (aVal (sOp2 fIx (sVar 2) (sOp2 fAdd (sVar 1) (sVar 5))) (aVal (sVar 7) (aNil)))) (aNil)))))))) (
sRet (sTup (aVal (sCall s_l_measure (aVal (sCall s_l_drawn_at (aVal (sVar 0) (aVal (sCst (.int 1)) (aNil)))) (aNil))) (aVal (sVar 3) (aVal (sVar 4) (aNil))))))))))
def s_l_parts5 : Fn := sDef 1 8 [] s_l_parts5B
def s_l_law28B : Ss :=
sSeq (sSetF 1 (sCall s_l_parts5 (aVal (sVar 0) (aNil)))) (
sSeq (sSetF 2 (sCall s_l_text2 (aVal (sVar 1) (aNil)))) (
sSeq (sSetF 3 (sCall s_f_works_shown (aVal (sMake 0 s_f_Works__init (aVal (sOp2 fIx (sVar 1) (sCst (.int 0))) (aVal (sOp2 fIx (sVar 1) (sCst (.int 1))) (aVal (sOp2 fIx (sVar 1) (sCst (.int 2))) (aNil))))) (aNil)))) (
sSeq (sIf (bOr (bNot (sTest (sUn (fIsi .str) (sVar 3)))) (sTest (sOp2 fNe (sVar 3) (sVar 2)))) (
sRet (sCst (.bl false))) (sPass)) (
sSeq (sSetF 4 (sCall s_f_works_read (aVal (sVar 2) (aNil)))) (
sSeq (sIf (bOr (bNot (sTest (sUn (fIsC 0) (sVar 4)))) (bOr (bNot (sTest (sCall s_l_whole (aVal (sUn (fFld [0] "measure") (sVar 4)) (aNil))))) (sTest (sOp2 fNe (sUn (fFld [0] "measure") (sVar 4)) (sOp2 fIx (sVar 1) (sCst (.int 0))))))) (
sRet (sCst (.bl false))) (sPass)) (
sSeq (sIf (bOr (sTest (sOp2 fNe (sMethV 0 "pictures" s_f_Works_pictures (sVar 4) (aNil)) (sLC [5] (iList (sOp2 fIx (sVar 1) (sCst (.int 1)))) (gName 5) (bYes) (sOp2 fIx (sVar 5) (sCst (.int 0)))))) (sTest (sOp2 fNe (sMethV 0 "stages" s_f_Works_stages (sVar 4) (aNil)) (sLC [5] (iList (sOp2 fIx (sVar 1) (sCst (.int 2)))) (gName 5) (bYes) (sOp2 fIx (sVar 5) (sCst (.int 0))))))) (
sRet (sCst (.bl false))) (sPass)) (
sSeq (sFor (iList (sOp2 fIx (sVar 1) (sCst (.int 1)))) (gTup [gName 6, gName 7, gName 8, gName 9]) (
sIf (bOr (sTest (sOp2 fNe (sMethV 0 "size" s_f_Works_size (sVar 4) (aVal (sVar 6) (aNil))) (sTup (aVal (sVar 7) (aVal (sVar 8) (aNil)))))) (bOr (bNot (sTest (sCall s_l_whole (aVal (sMethV 0 "rim" s_f_Works_rim (sVar 4) (aVal (sVar 6) (aNil))) (aNil))))) (sTest (sOp2 fNe (sMethV 0 "rim" s_f_Works_rim (sVar 4) (aVal (sVar 6) (aNil))) (sVar 9))))) (
sRet (sCst (.bl false))) (sPass))) (
sSeq (sFor (iList (sOp2 fIx (sVar 1) (sCst (.int 2)))) (gTup [gName 6, gName 10]) (
sIf (bOr (bNot (sTest (sCall (s_l_shape 12) (aVal (sMethV 0 "formula" s_f_Works_formula (sVar 4) (aVal (sVar 6) (aNil))) (aNil))))) (sTest (sOp2 fNe (sMethV 0 "formula" s_f_Works_formula (sVar 4) (aVal (sVar 6) (aNil))) (sVar 10)))) (
sRet (sCst (.bl false))) (sPass))) (
sRet (sOp2 fEq (sCall s_f_works_shown (aVal (sVar 4) (aNil))) (sVar 2)))))))))))
def s_l_law28 : Fn := sDef 1 11 [] s_l_law28B
end G
set_option Elab.async false
set_option linter.all false
set_option maxRecDepth 100000
namespace G
open PySem
def s_l_law28_t9 : Ss :=
sRet (sOp2 fEq (sCall s_f_works_shown (aVal (sVar 4) (aNil))) (sVar 2))
def s_l_law28_t8 : Ss :=
sSeq (sFor (iList (sOp2 fIx (sVar 1) (sCst (.int 2)))) (gTup [gName 6, gName 10]) (
sIf (bOr (bNot (sTest (sCall (s_l_shape 12) (aVal (sMethV 0 "formula" s_f_Works_formula (sVar 4) (aVal (sVar 6) (aNil))) (aNil))))) (sTest (sOp2 fNe (sMethV 0 "formula" s_f_Works_formula (sVar 4) (aVal (sVar 6) (aNil))) (sVar 10)))) (
sRet (sCst (.bl false))) (sPass))) s_l_law28_t9
def s_l_law28_t7 : Ss :=
sSeq (sFor (iList (sOp2 fIx (sVar 1) (sCst (.int 1)))) (gTup [gName 6, gName 7, gName 8, gName 9]) (
sIf (bOr (sTest (sOp2 fNe (sMethV 0 "size" s_f_Works_size (sVar 4) (aVal (sVar 6) (aNil))) (sTup (aVal (sVar 7) (aVal (sVar 8) (aNil)))))) (bOr (bNot (sTest (sCall s_l_whole (aVal (sMethV 0 "rim" s_f_Works_rim (sVar 4) (aVal (sVar 6) (aNil))) (aNil))))) (sTest (sOp2 fNe (sMethV 0 "rim" s_f_Works_rim (sVar 4) (aVal (sVar 6) (aNil))) (sVar 9))))) (
sRet (sCst (.bl false))) (sPass))) s_l_law28_t8
def s_l_law28_t6 : Ss :=
sSeq (sIf (bOr (sTest (sOp2 fNe (sMethV 0 "pictures" s_f_Works_pictures (sVar 4) (aNil)) (sLC [5] (iList (sOp2 fIx (sVar 1) (sCst (.int 1)))) (gName 5) (bYes) (sOp2 fIx (sVar 5) (sCst (.int 0)))))) (sTest (sOp2 fNe (sMethV 0 "stages" s_f_Works_stages (sVar 4) (aNil)) (sLC [5] (iList (sOp2 fIx (sVar 1) (sCst (.int 2)))) (gName 5) (bYes) (sOp2 fIx (sVar 5) (sCst (.int 0))))))) (
sRet (sCst (.bl false))) (sPass)) s_l_law28_t7
def s_l_law28_t5 : Ss :=
sSeq (sIf (bOr (bNot (sTest (sUn (fIsC 0) (sVar 4)))) (bOr (bNot (sTest (sCall s_l_whole (aVal (sUn (fFld [0] "measure") (sVar 4)) (aNil))))) (sTest (sOp2 fNe (sUn (fFld [0] "measure") (sVar 4)) (sOp2 fIx (sVar 1) (sCst (.int 0))))))) (
sRet (sCst (.bl false))) (sPass)) s_l_law28_t6
def s_l_law28_t4 : Ss :=
sSeq (sSetF 4 (sCall s_f_works_read (aVal (sVar 2) (aNil)))) s_l_law28_t5
def s_l_law28_t3 : Ss :=
sSeq (sIf (bOr (bNot (sTest (sUn (fIsi .str) (sVar 3)))) (sTest (sOp2 fNe (sVar 3) (sVar 2)))) (
sRet (sCst (.bl false))) (sPass)) s_l_law28_t4
def s_l_law28_t2 : Ss :=
sSeq (sSetF 3 (sCall s_f_works_shown (aVal (sMake 0 s_f_Works__init (aVal (sOp2 fIx (sVar 1) (sCst (.int 0))) (aVal (sOp2 fIx (sVar 1) (sCst (.int 1))) (aVal (sOp2 fIx (sVar 1) (sCst (.int 2))) (aNil))))) (aNil)))) s_l_law28_t3
def s_l_law28_t1 : Ss :=
sSeq (sSetF 2 (sCall s_l_text2 (aVal (sVar 1) (aNil)))) s_l_law28_t2
theorem s_l_law28_u0 : s_l_law28B = sSeq (sSetF 1 (sCall s_l_parts5 (aVal (sVar 0) (aNil)))) s_l_law28_t1 := rfl
theorem s_l_law28_u1 : s_l_law28_t1 = sSeq (sSetF 2 (sCall s_l_text2 (aVal (sVar 1) (aNil)))) s_l_law28_t2 := rfl
theorem s_l_law28_u2 : s_l_law28_t2 = sSeq (sSetF 3 (sCall s_f_works_shown (aVal (sMake 0 s_f_Works__init (aVal (sOp2 fIx (sVar 1) (sCst (.int 0))) (aVal (sOp2 fIx (sVar 1) (sCst (.int 1))) (aVal (sOp2 fIx (sVar 1) (sCst (.int 2))) (aNil))))) (aNil)))) s_l_law28_t3 := rfl
theorem s_l_law28_u3 : s_l_law28_t3 = sSeq (sIf (bOr (bNot (sTest (sUn (fIsi .str) (sVar 3)))) (sTest (sOp2 fNe (sVar 3) (sVar 2)))) (
sRet (sCst (.bl false))) (sPass)) s_l_law28_t4 := rfl
theorem s_l_law28_u4 : s_l_law28_t4 = sSeq (sSetF 4 (sCall s_f_works_read (aVal (sVar 2) (aNil)))) s_l_law28_t5 := rfl
theorem s_l_law28_u5 : s_l_law28_t5 = sSeq (sIf (bOr (bNot (sTest (sUn (fIsC 0) (sVar 4)))) (bOr (bNot (sTest (sCall s_l_whole (aVal (sUn (fFld [0] "measure") (sVar 4)) (aNil))))) (sTest (sOp2 fNe (sUn (fFld [0] "measure") (sVar 4)) (sOp2 fIx (sVar 1) (sCst (.int 0))))))) (
sRet (sCst (.bl false))) (sPass)) s_l_law28_t6 := rfl
theorem s_l_law28_u6 : s_l_law28_t6 = sSeq (sIf (bOr (sTest (sOp2 fNe (sMethV 0 "pictures" s_f_Works_pictures (sVar 4) (aNil)) (sLC [5] (iList (sOp2 fIx (sVar 1) (sCst (.int 1)))) (gName 5) (bYes) (sOp2 fIx (sVar 5) (sCst (.int 0)))))) (sTest (sOp2 fNe (sMethV 0 "stages" s_f_Works_stages (sVar 4) (aNil)) (sLC [5] (iList (sOp2 fIx (sVar 1) (sCst (.int 2)))) (gName 5) (bYes) (sOp2 fIx (sVar 5) (sCst (.int 0))))))) (
sRet (sCst (.bl false))) (sPass)) s_l_law28_t7 := rfl
theorem s_l_law28_u7 : s_l_law28_t7 = sSeq (sFor (iList (sOp2 fIx (sVar 1) (sCst (.int 1)))) (gTup [gName 6, gName 7, gName 8, gName 9]) (
sIf (bOr (sTest (sOp2 fNe (sMethV 0 "size" s_f_Works_size (sVar 4) (aVal (sVar 6) (aNil))) (sTup (aVal (sVar 7) (aVal (sVar 8) (aNil)))))) (bOr (bNot (sTest (sCall s_l_whole (aVal (sMethV 0 "rim" s_f_Works_rim (sVar 4) (aVal (sVar 6) (aNil))) (aNil))))) (sTest (sOp2 fNe (sMethV 0 "rim" s_f_Works_rim (sVar 4) (aVal (sVar 6) (aNil))) (sVar 9))))) (
sRet (sCst (.bl false))) (sPass))) s_l_law28_t8 := rfl
theorem s_l_law28_u8 : s_l_law28_t8 = sSeq (sFor (iList (sOp2 fIx (sVar 1) (sCst (.int 2)))) (gTup [gName 6, gName 10]) (
sIf (bOr (bNot (sTest (sCall (s_l_shape 12) (aVal (sMethV 0 "formula" s_f_Works_formula (sVar 4) (aVal (sVar 6) (aNil))) (aNil))))) (sTest (sOp2 fNe (sMethV 0 "formula" s_f_Works_formula (sVar 4) (aVal (sVar 6) (aNil))) (sVar 10)))) (
sRet (sCst (.bl false))) (sPass))) s_l_law28_t9 := rfl
def s_f_works_shown_t3 : Ss :=
sRet (sStr1 fJoin (sCst (.str "\n")) (sVar 1))
def s_f_works_shown_t2 : Ss :=
sSeq (sFor (iList (sMethV 0 "stages" s_f_Works_stages (sVar 0) (aNil))) (gName 2) (
sExpr (sMeth 1 mAppend (aVal (sOp2 fAdd (sOp2 fAdd (sOp2 fAdd (sCst (.str "stage ")) (sVar 2)) (sCst (.str " = "))) (sCall (s_f_formula_shown 12) (aVal (sMethV 0 "formula" s_f_Works_formula (sVar 0) (aVal (sVar 2) (aNil))) (aNil)))) (aNil))))) s_f_works_shown_t3
def s_f_works_shown_t1 : Ss :=
sSeq (sFor (iList (sMethV 0 "pictures" s_f_Works_pictures (sVar 0) (aNil))) (gName 2) (
sSeq (sAsg (gTup [gName 3, gName 4]) (sMethV 0 "size" s_f_Works_size (sVar 0) (aVal (sVar 2) (aNil)))) (
sExpr (sMeth 1 mAppend (aVal (sOp2 fAdd (sOp2 fAdd (sOp2 fAdd (sOp2 fAdd (sOp2 fAdd (sOp2 fAdd (sOp2 fAdd (sCst (.str "picture ")) (sVar 2)) (sCst (.str " "))) (sBlt bStr (aVal (sVar 3) (aNil)))) (sCst (.str " "))) (sBlt bStr (aVal (sVar 4) (aNil)))) (sCst (.str " "))) (sBlt bStr (aVal (sMethV 0 "rim" s_f_Works_rim (sVar 0) (aVal (sVar 2) (aNil))) (aNil)))) (aNil)))))) s_f_works_shown_t2
theorem s_f_works_shown_u0 : s_f_works_shownB = sSeq (sSet 1 (sLst (aVal (sOp2 fAdd (sCst (.str "measure ")) (sBlt bStr (aVal (sUn (fFld [0] "measure") (sVar 0)) (aNil)))) (aNil)))) s_f_works_shown_t1 := rfl
theorem s_f_works_shown_u1 : s_f_works_shown_t1 = sSeq (sFor (iList (sMethV 0 "pictures" s_f_Works_pictures (sVar 0) (aNil))) (gName 2) (
sSeq (sAsg (gTup [gName 3, gName 4]) (sMethV 0 "size" s_f_Works_size (sVar 0) (aVal (sVar 2) (aNil)))) (
sExpr (sMeth 1 mAppend (aVal (sOp2 fAdd (sOp2 fAdd (sOp2 fAdd (sOp2 fAdd (sOp2 fAdd (sOp2 fAdd (sOp2 fAdd (sCst (.str "picture ")) (sVar 2)) (sCst (.str " "))) (sBlt bStr (aVal (sVar 3) (aNil)))) (sCst (.str " "))) (sBlt bStr (aVal (sVar 4) (aNil)))) (sCst (.str " "))) (sBlt bStr (aVal (sMethV 0 "rim" s_f_Works_rim (sVar 0) (aVal (sVar 2) (aNil))) (aNil)))) (aNil)))))) s_f_works_shown_t2 := rfl
theorem s_f_works_shown_u2 : s_f_works_shown_t2 = sSeq (sFor (iList (sMethV 0 "stages" s_f_Works_stages (sVar 0) (aNil))) (gName 2) (
sExpr (sMeth 1 mAppend (aVal (sOp2 fAdd (sOp2 fAdd (sOp2 fAdd (sCst (.str "stage ")) (sVar 2)) (sCst (.str " = "))) (sCall (s_f_formula_shown 12) (aVal (sMethV 0 "formula" s_f_Works_formula (sVar 0) (aVal (sVar 2) (aNil))) (aNil)))) (aNil))))) s_f_works_shown_t3 := rfl
def s_f_works_read_t7 : Ss :=
sRet (sMake 0 s_f_Works__init (aVal (sVar 3) (aVal (sVar 4) (aVal (sVar 5) (aNil)))))
def s_f_works_read_t6 : Ss :=
sSeq (sFor (iEnum (sVar 1)) (gTup [gName 6, gName 7]) (
sIf (sViewB (bAnd (sTest (sOp2 fGt (sVar 6) (sCst (.int 0)))) (bAnd (sTest (sOp2 fEq (sVar 5) (sLst (aNil)))) (sTest (sStr1 fStarts (sVar 7) (sCst (.str "picture "))))))) (
sExpr (sMeth 4 mAppend (aVal (sCall s_f_picture_of (aVal (sVar 7) (aVal (sVar 6) (aNil)))) (aNil)))) (sIf (sTest (sOp2 fGt (sVar 6) (sCst (.int 0)))) (
sExpr (sMeth 5 mAppend (aVal (sCall s_f_stage_of (aVal (sVar 7) (aVal (sVar 6) (aNil)))) (aNil)))) (sPass)))) s_f_works_read_t7
def s_f_works_read_t5 : Ss :=
sSeq (sSet 5 (sLst (aNil))) s_f_works_read_t6
def s_f_works_read_t4 : Ss :=
sSeq (sSet 4 (sLst (aNil))) s_f_works_read_t5
def s_f_works_read_t3 : Ss :=
sSeq (sSetF 3 (sCall s_f_number_of (aVal (sOp2 fIx (sVar 2) (sCst (.int 1))) (aVal (sCst (.int 0)) (aNil))))) s_f_works_read_t4
def s_f_works_read_t2 : Ss :=
sSeq (sIf (bOr (sTest (sOp2 fNe (sBlt bLen (aVal (sVar 2) (aNil))) (sCst (.int 2)))) (sTest (sOp2 fNe (sOp2 fIx (sVar 2) (sCst (.int 0))) (sCst (.str "measure"))))) (
sRaiseF 12 "row" fitI (sCst (.int 0))) (sPass)) s_f_works_read_t3
def s_f_works_read_t1 : Ss :=
sSeq (sSetF 2 (sStr1 fSplit (sOp2 fIx (sVar 1) (sCst (.int 0))) (sCst (.str " ")))) s_f_works_read_t2
theorem s_f_works_read_u0 : s_f_works_readB = sSeq (sSetF 1 (sStr1 fSplit (sVar 0) (sCst (.str "\n")))) s_f_works_read_t1 := rfl
theorem s_f_works_read_u1 : s_f_works_read_t1 = sSeq (sSetF 2 (sStr1 fSplit (sOp2 fIx (sVar 1) (sCst (.int 0))) (sCst (.str " ")))) s_f_works_read_t2 := rfl
theorem s_f_works_read_u2 : s_f_works_read_t2 = sSeq (sIf (bOr (sTest (sOp2 fNe (sBlt bLen (aVal (sVar 2) (aNil))) (sCst (.int 2)))) (sTest (sOp2 fNe (sOp2 fIx (sVar 2) (sCst (.int 0))) (sCst (.str "measure"))))) (
sRaiseF 12 "row" fitI (sCst (.int 0))) (sPass)) s_f_works_read_t3 := rfl
theorem s_f_works_read_u3 : s_f_works_read_t3 = sSeq (sSetF 3 (sCall s_f_number_of (aVal (sOp2 fIx (sVar 2) (sCst (.int 1))) (aVal (sCst (.int 0)) (aNil))))) s_f_works_read_t4 := rfl
theorem s_f_works_read_u4 : s_f_works_read_t4 = sSeq (sSet 4 (sLst (aNil))) s_f_works_read_t5 := rfl
theorem s_f_works_read_u5 : s_f_works_read_t5 = sSeq (sSet 5 (sLst (aNil))) s_f_works_read_t6 := rfl
theorem s_f_works_read_u6 : s_f_works_read_t6 = sSeq (sFor (iEnum (sVar 1)) (gTup [gName 6, gName 7]) (
sIf (sViewB (bAnd (sTest (sOp2 fGt (sVar 6) (sCst (.int 0)))) (bAnd (sTest (sOp2 fEq (sVar 5) (sLst (aNil)))) (sTest (sStr1 fStarts (sVar 7) (sCst (.str "picture "))))))) (
sExpr (sMeth 4 mAppend (aVal (sCall s_f_picture_of (aVal (sVar 7) (aVal (sVar 6) (aNil)))) (aNil)))) (sIf (sTest (sOp2 fGt (sVar 6) (sCst (.int 0)))) (
sExpr (sMeth 5 mAppend (aVal (sCall s_f_stage_of (aVal (sVar 7) (aVal (sVar 6) (aNil)))) (aNil)))) (sPass)))) s_f_works_read_t7 := rfl
def s_f_stage_of_t5 : Ss :=
sRet (sTup (aVal (sCall s_f_word_of (aVal (sOp2 fIx (sVar 5) (sCst (.int 1))) (aVal (sVar 1) (aNil)))) (aVal (sVar 6) (aNil))))
def s_f_stage_of_t4 : Ss :=
sSeq (sIf (sTest (sOp2 fNe (sVar 7) (sBlt bLen (aVal (sVar 4) (aNil))))) (
sRaiseF 12 "row" fitI (sVar 1)) (sPass)) s_f_stage_of_t5
def s_f_stage_of_t3 : Ss :=
sSeq (sAsg (gTup [gName 6, gName 7]) (sCall (s_f_formula_at 12) (aVal (sVar 4) (aVal (sCst (.int 0)) (aVal (sVar 1) (aNil)))))) s_f_stage_of_t4
def s_f_stage_of_t2 : Ss :=
sSeq (sIf (bOr (sTest (sOp2 fEq (sVar 3) (sCst (.str "")))) (bOr (sTest (sOp2 fNe (sBlt bLen (aVal (sVar 5) (aNil))) (sCst (.int 2)))) (sTest (sOp2 fNe (sOp2 fIx (sVar 5) (sCst (.int 0))) (sCst (.str "stage")))))) (
sRaiseF 12 "row" fitI (sVar 1)) (sPass)) s_f_stage_of_t3
def s_f_stage_of_t1 : Ss :=
sSeq (sSetF 5 (sStr1 fSplit (sVar 2) (sCst (.str " ")))) s_f_stage_of_t2
theorem s_f_stage_of_u0 : s_f_stage_ofB = sSeq (sAsg (gTup [gName 2, gName 3, gName 4]) (sStr1 fPart (sVar 0) (sCst (.str " = ")))) s_f_stage_of_t1 := rfl
theorem s_f_stage_of_u1 : s_f_stage_of_t1 = sSeq (sSetF 5 (sStr1 fSplit (sVar 2) (sCst (.str " ")))) s_f_stage_of_t2 := rfl
theorem s_f_stage_of_u2 : s_f_stage_of_t2 = sSeq (sIf (bOr (sTest (sOp2 fEq (sVar 3) (sCst (.str "")))) (bOr (sTest (sOp2 fNe (sBlt bLen (aVal (sVar 5) (aNil))) (sCst (.int 2)))) (sTest (sOp2 fNe (sOp2 fIx (sVar 5) (sCst (.int 0))) (sCst (.str "stage")))))) (
sRaiseF 12 "row" fitI (sVar 1)) (sPass)) s_f_stage_of_t3 := rfl
theorem s_f_stage_of_u3 : s_f_stage_of_t3 = sSeq (sAsg (gTup [gName 6, gName 7]) (sCall (s_f_formula_at 12) (aVal (sVar 4) (aVal (sCst (.int 0)) (aVal (sVar 1) (aNil)))))) s_f_stage_of_t4 := rfl
theorem s_f_stage_of_u4 : s_f_stage_of_t4 = sSeq (sIf (sTest (sOp2 fNe (sVar 7) (sBlt bLen (aVal (sVar 4) (aNil))))) (
sRaiseF 12 "row" fitI (sVar 1)) (sPass)) s_f_stage_of_t5 := rfl
def s_f_picture_of_t3 : Ss :=
sRet (sTup (aVal (sCall s_f_word_of (aVal (sOp2 fIx (sVar 2) (sCst (.int 1))) (aVal (sVar 1) (aNil)))) (aVal (sOp2 fIx (sVar 3) (sCst (.int 0))) (aVal (sOp2 fIx (sVar 3) (sCst (.int 1))) (aVal (sOp2 fIx (sVar 3) (sCst (.int 2))) (aNil))))))
def s_f_picture_of_t2 : Ss :=
sSeq (sSetF 3 (sLC [4] (iList (sSlice (sVar 2) (oSome (sCst (.int 2))) (oNone))) (gName 4) (bYes) (sCall s_f_number_of (aVal (sVar 4) (aVal (sVar 1) (aNil)))))) s_f_picture_of_t3
def s_f_picture_of_t1 : Ss :=
sSeq (sIf (bOr (sTest (sOp2 fNe (sBlt bLen (aVal (sVar 2) (aNil))) (sCst (.int 5)))) (sTest (sOp2 fNe (sOp2 fIx (sVar 2) (sCst (.int 0))) (sCst (.str "picture"))))) (
sRaiseF 12 "row" fitI (sVar 1)) (sPass)) s_f_picture_of_t2
theorem s_f_picture_of_u0 : s_f_picture_ofB = sSeq (sSetF 2 (sStr1 fSplit (sVar 0) (sCst (.str " ")))) s_f_picture_of_t1 := rfl
theorem s_f_picture_of_u1 : s_f_picture_of_t1 = sSeq (sIf (bOr (sTest (sOp2 fNe (sBlt bLen (aVal (sVar 2) (aNil))) (sCst (.int 5)))) (sTest (sOp2 fNe (sOp2 fIx (sVar 2) (sCst (.int 0))) (sCst (.str "picture"))))) (
sRaiseF 12 "row" fitI (sVar 1)) (sPass)) s_f_picture_of_t2 := rfl
theorem s_f_picture_of_u2 : s_f_picture_of_t2 = sSeq (sSetF 3 (sLC [4] (iList (sSlice (sVar 2) (oSome (sCst (.int 2))) (oNone))) (gName 4) (bYes) (sCall s_f_number_of (aVal (sVar 4) (aVal (sVar 1) (aNil)))))) s_f_picture_of_t3 := rfl
def s_l_text2_t3 : Ss :=
sRet (sStr1 fJoin (sCst (.str "\n")) (sVar 1))
def s_l_text2_t2 : Ss :=
sSeq (sFor (iList (sOp2 fIx (sVar 0) (sCst (.int 2)))) (gTup [gName 2, gName 6]) (
sExpr (sMeth 1 mAppend (aVal (sOp2 fAdd (sOp2 fAdd (sOp2 fAdd (sCst (.str "stage ")) (sVar 2)) (sCst (.str " = "))) (sCall (s_l_formula_text 12) (aVal (sVar 6) (aNil)))) (aNil))))) s_l_text2_t3
def s_l_text2_t1 : Ss :=
sSeq (sFor (iList (sOp2 fIx (sVar 0) (sCst (.int 1)))) (gTup [gName 2, gName 3, gName 4, gName 5]) (
sExpr (sMeth 1 mAppend (aVal (sOp2 fAdd (sOp2 fAdd (sOp2 fAdd (sOp2 fAdd (sOp2 fAdd (sOp2 fAdd (sOp2 fAdd (sCst (.str "picture ")) (sVar 2)) (sCst (.str " "))) (sBlt bStr (aVal (sVar 3) (aNil)))) (sCst (.str " "))) (sBlt bStr (aVal (sVar 4) (aNil)))) (sCst (.str " "))) (sBlt bStr (aVal (sVar 5) (aNil)))) (aNil))))) s_l_text2_t2
theorem s_l_text2_u0 : s_l_text2B = sSeq (sSet 1 (sLst (aVal (sOp2 fAdd (sCst (.str "measure ")) (sBlt bStr (aVal (sOp2 fIx (sVar 0) (sCst (.int 0))) (aNil)))) (aNil)))) s_l_text2_t1 := rfl
theorem s_l_text2_u1 : s_l_text2_t1 = sSeq (sFor (iList (sOp2 fIx (sVar 0) (sCst (.int 1)))) (gTup [gName 2, gName 3, gName 4, gName 5]) (
sExpr (sMeth 1 mAppend (aVal (sOp2 fAdd (sOp2 fAdd (sOp2 fAdd (sOp2 fAdd (sOp2 fAdd (sOp2 fAdd (sOp2 fAdd (sCst (.str "picture ")) (sVar 2)) (sCst (.str " "))) (sBlt bStr (aVal (sVar 3) (aNil)))) (sCst (.str " "))) (sBlt bStr (aVal (sVar 4) (aNil)))) (sCst (.str " "))) (sBlt bStr (aVal (sVar 5) (aNil)))) (aNil))))) s_l_text2_t2 := rfl
theorem s_l_text2_u2 : s_l_text2_t2 = sSeq (sFor (iList (sOp2 fIx (sVar 0) (sCst (.int 2)))) (gTup [gName 2, gName 6]) (
sExpr (sMeth 1 mAppend (aVal (sOp2 fAdd (sOp2 fAdd (sOp2 fAdd (sCst (.str "stage ")) (sVar 2)) (sCst (.str " = "))) (sCall (s_l_formula_text 12) (aVal (sVar 6) (aNil)))) (aNil))))) s_l_text2_t3 := rfl
def s_l_parts5_b4_t3 : Ss :=
sExpr (sMeth 4 mAppend (aVal (sTup (aVal (sOp2 fIx (sVar 2) (sOp2 fAdd (sVar 1) (sVar 5))) (aVal (sVar 7) (aNil)))) (aNil)))
def s_l_parts5_b4_t2 : Ss :=
sSeq (sIf (sTest (sOp2 fLt (sVar 5) (sCst (.int 2)))) (
sSetF 7 (sCall s_l_grown (aVal (sSlice (sVar 2) (oNone) (oSome (sOp2 fAdd (sVar 1) (sVar 5)))) (aLend 6 (aNil))))) (sPass)) s_l_parts5_b4_t3
def s_l_parts5_b4_t1 : Ss :=
sSeq (sSetF 7 (sCall s_l_leaf (aVal (sSlice (sVar 2) (oNone) (oSome (sOp2 fAdd (sVar 1) (sVar 5)))) (aVal (sMeth 6 mPop aNil) (aLend 6 (aNil)))))) s_l_parts5_b4_t2
def s_l_parts5_b4_t0 : Ss :=
sSeq (sSet 6 (sCall s_l_digits2 (aVal (sVar 0) (aVal (sOp2 fAdd (sCst (.int 3)) (sVar 5)) (aVal (sCst (.int 8)) (aNil)))))) s_l_parts5_b4_t1
theorem s_l_parts5_b4_u0 : s_l_parts5_b4_t0 = sSeq (sSet 6 (sCall s_l_digits2 (aVal (sVar 0) (aVal (sOp2 fAdd (sCst (.int 3)) (sVar 5)) (aVal (sCst (.int 8)) (aNil)))))) s_l_parts5_b4_t1 := rfl
theorem s_l_parts5_b4_u1 : s_l_parts5_b4_t1 = sSeq (sSetF 7 (sCall s_l_leaf (aVal (sSlice (sVar 2) (oNone) (oSome (sOp2 fAdd (sVar 1) (sVar 5)))) (aVal (sMeth 6 mPop aNil) (aLend 6 (aNil)))))) s_l_parts5_b4_t2 := rfl
theorem s_l_parts5_b4_u2 : s_l_parts5_b4_t2 = sSeq (sIf (sTest (sOp2 fLt (sVar 5) (sCst (.int 2)))) (
sSetF 7 (sCall s_l_grown (aVal (sSlice (sVar 2) (oNone) (oSome (sOp2 fAdd (sVar 1) (sVar 5)))) (aLend 6 (aNil))))) (sPass)) s_l_parts5_b4_t3 := rfl
def s_l_parts5_t5 : Ss :=
sRet (sTup (aVal (sCall s_l_measure (aVal (sCall s_l_drawn_at (aVal (sVar 0) (aVal (sCst (.int 1)) (aNil)))) (aNil))) (aVal (sVar 3) (aVal (sVar 4) (aNil)))))
def s_l_parts5_t4 : Ss :=
sSeq (sFor (iRange rng1 (aVal (sOp2 fAdd (sCst (.int 1)) (sOp2 fMod (sOp2 fDiv (sCall s_l_drawn_at (aVal (sVar 0) (aVal (sCst (.int 1)) (aNil)))) (sCst (.int 2))) (sCst (.int 5)))) (aNil))) (gName 5) s_l_parts5_b4_t0) s_l_parts5_t5
def s_l_parts5_t3 : Ss :=
sSeq (sSet 4 (sLst (aNil))) s_l_parts5_t4
def s_l_parts5_t2 : Ss :=
sSeq (sSetF 3 (sCall s_l_pictures (aVal (sVar 0) (aVal (sVar 2) (aVal (sVar 1) (aNil)))))) s_l_parts5_t3
def s_l_parts5_t1 : Ss :=
sSeq (sSetF 2 (sCall s_l_names (aVal (sCall s_l_drawn_at (aVal (sVar 0) (aVal (sCst (.int 0)) (aNil)))) (aVal (sOp2 fAdd (sVar 1) (sCst (.int 5))) (aNil))))) s_l_parts5_t2
theorem s_l_parts5_u0 : s_l_parts5B = sSeq (sSetF 1 (sOp2 fIx (sLst (aVal (sCst (.int 1)) (aVal (sCst (.int 2)) (aVal (sCst (.int 1)) (aVal (sCst (.int 3)) (aVal (sCst (.int 2)) (aVal (sCst (.int 4)) (aNil)))))))) (sOp2 fMod (sOp2 fDiv (sCall s_l_drawn_at (aVal (sVar 0) (aVal (sCst (.int 0)) (aNil)))) (sCst (.int 2))) (sCst (.int 6))))) s_l_parts5_t1 := rfl
theorem s_l_parts5_u1 : s_l_parts5_t1 = sSeq (sSetF 2 (sCall s_l_names (aVal (sCall s_l_drawn_at (aVal (sVar 0) (aVal (sCst (.int 0)) (aNil)))) (aVal (sOp2 fAdd (sVar 1) (sCst (.int 5))) (aNil))))) s_l_parts5_t2 := rfl
theorem s_l_parts5_u2 : s_l_parts5_t2 = sSeq (sSetF 3 (sCall s_l_pictures (aVal (sVar 0) (aVal (sVar 2) (aVal (sVar 1) (aNil)))))) s_l_parts5_t3 := rfl
theorem s_l_parts5_u3 : s_l_parts5_t3 = sSeq (sSet 4 (sLst (aNil))) s_l_parts5_t4 := rfl
theorem s_l_parts5_u4 : s_l_parts5_t4 = sSeq (sFor (iRange rng1 (aVal (sOp2 fAdd (sCst (.int 1)) (sOp2 fMod (sOp2 fDiv (sCall s_l_drawn_at (aVal (sVar 0) (aVal (sCst (.int 1)) (aNil)))) (sCst (.int 2))) (sCst (.int 5)))) (aNil))) (gName 5) s_l_parts5_b4_t0) s_l_parts5_t5 := rfl
end G
set_option Elab.async false
set_option linter.all false
set_option maxRecDepth 100000
set_option maxHeartbeats 1000000
namespace G
open PySem PySem.Builtin.Int
def cs (s : Str) : List Nat := s.cps.toList
@[simp] theorem cs_mkS (l : List Nat) : cs (mkS l) = l := rfl
theorem mk_cs (s : Str) : mkS (cs s) = s := rfl
@[simp] theorem cs_a1 : cs (Str.ofString "(") = [40] := by decide +kernel
@[simp] theorem cs_a2 : cs (Str.ofString ")") = [41] := by decide +kernel
@[simp] theorem cs_a3 : cs (Str.ofString " ") = [32] := by decide +kernel
@[simp] theorem cs_a4 : cs (Str.ofString "(number ") = [40, 110, 117, 109, 98, 101, 114, 32] := by decide +kernel
@[simp] theorem cs_a5 : cs (Str.ofString "(read ") = [40, 114, 101, 97, 100, 32] := by decide +kernel
@[simp] theorem cs_a6 : cs (Str.ofString "number") = [110, 117, 109, 98, 101, 114] := by decide +kernel
@[simp] theorem cs_a7 : cs (Str.ofString "read") = [114, 101, 97, 100] := by decide +kernel
@[simp] theorem cs_a8 : cs (Str.ofString "x") = [120] := by decide +kernel
@[simp] theorem cs_a9 : cs (Str.ofString "y") = [121] := by decide +kernel
@[simp] theorem cs_b1 : cs (Str.ofString "pick") = [112, 105, 99, 107] := by decide +kernel
@[simp] theorem cs_b2 : cs (Str.ofString "measure ") = [109, 101, 97, 115, 117, 114, 101, 32] := by decide +kernel
@[simp] theorem cs_b3 : cs (Str.ofString "picture ") = [112, 105, 99, 116, 117, 114, 101, 32] := by decide +kernel
@[simp] theorem cs_b4 : cs (Str.ofString "stage ") = [115, 116, 97, 103, 101, 32] := by decide +kernel
@[simp] theorem cs_b5 : cs (Str.ofString " = ") = [32, 61, 32] := by decide +kernel
@[simp] theorem cs_b6 : cs (Str.ofString "\n") = [10] := by decide +kernel
@[simp] theorem cs_b7 : cs (Str.ofString "-") = [45] := by decide +kernel
@[simp] theorem cs_b8 : cs (Str.ofString "-0") = [45, 48] := by decide +kernel
@[simp] theorem cs_b9 : cs (Str.ofString "0") = [48] := by decide +kernel
@[simp] theorem cs_c1 : cs (Str.ofString "measure") = [109, 101, 97, 115, 117, 114, 101] := by decide +kernel
@[simp] theorem cs_c2 : cs (Str.ofString "picture") = [112, 105, 99, 116, 117, 114, 101] := by decide +kernel
@[simp] theorem cs_c3 : cs (Str.ofString "stage") = [115, 116, 97, 103, 101] := by decide +kernel
@[simp] theorem cs_c4 : cs (Str.ofString "") = [] := by decide +kernel
@[simp ↓ high] theorem o2_add_cs {x y : Str} {k : T → Prop} : op2K fAdd (.str x) (.str y) k = ((cs x).length + (cs y).length ≤ 16777216 ∧ k (.imm (.str (mkS (cs x ++ cs y))))) := by
  have e : x ++ y = mkS (cs x ++ cs y) := mkS_app (cs x) (cs y)
  show (∃ t, (if x.length + y.length ≤ line then some (T.imm (.str (x ++ y))) else none) = some t ∧ k t) = _
  rw [e, ex_ite]
  rfl
def numZ (z : Int) : List Nat := if z < 0 then 45 :: TL.numL z.natAbs else TL.numL z.natAbs
theorem numZ_nn {z : Int} (h : 0 ≤ z) : numZ z = TL.numL z.natAbs := if_neg (by omega)
def Ok1 (z : Int) : Prop := (0 ≤ z ∧ z < 10 ^ 61) ∨ (-3 ≤ z ∧ z ≤ 3)
theorem str_int {z : Int} (h : Ok1 z) : Str.ofString (toString z) = mkS (numZ z) := by
  by_cases hz : 0 ≤ z
  · obtain ⟨n, rfl⟩ : ∃ n : Nat, z = n := ⟨z.toNat, by omega⟩
    rw [numZ_nn hz]
    exact SX.num_S n
  · have : z = -1 ∨ z = -2 ∨ z = -3 := by unfold Ok1 at h; omega
    rcases this with rfl | rfl | rfl <;> decide +kernel
theorem Ok1.len {z : Int} (h : Ok1 z) : (numZ z).length ≤ 62 := by
  by_cases hz : 0 ≤ z
  · rw [numZ_nn hz]
    have : z.natAbs < 10 ^ 61 := by unfold Ok1 at h; omega
    have := TL.numL_len (k := 61) (by decide) this
    omega
  · have : z = -1 ∨ z = -2 ∨ z = -3 := by unfold Ok1 at h; omega
    rcases this with rfl | rfl | rfl <;> decide +kernel
theorem Ok1.bits {z : Int} (h : Ok1 z) : bits z < 1920 := by
  have b1 : Bd 300 z := by
    unfold Ok1 at h
    exact Bd.range (by omega) (by omega)
  have := bits_le b1
  omega
theorem b_strI {z : Int} (h : Ok1 z) {k : T → Prop} : bltK bStr [.int z] k = k (.imm (.str (mkS (numZ z)))) := by
  rw [← str_int h]
  have e : bStr [.int z] = some (.imm (.str (Str.ofString (toString z)))) := by
    show (if bits z < 1920 then some1 (.str (toString z)) else none) = _
    rw [if_pos h.bits]; rfl
  simp [bltK, e]
theorem b_strA {z : Int} (h : Ok1 z) {k : T → Prop} : bltK bStrA [.int z] k = k (.imm (.str (mkS (numZ z)))) := by
  rw [← str_int h]
  have e : bStrA [.int z] = some (.imm (.str (Str.ofString (toString z)))) := by
    show (if bits z < 1920 then some1 (.str (toString z)) else none) = _
    rw [if_pos h.bits]; rfl
  simp [bltK, e]
theorem b_strA2 {s : Str} {k : T → Prop} : bltK bStrA [.str s] k = k (.imm (.str s)) := by
  have e : bStrA [.str s] = some (.imm (.str s)) := rfl
  simp [bltK, e]
/-- a formula's signs -/
def shF : Fm → List Nat
  | .num z => [40, 110, 117, 109, 98, 101, 114, 32] ++ numZ z ++ [41]
  | .x => [40, 120, 41]
  | .y => [40, 121, 41]
  | .read s p q => [40, 114, 101, 97, 100, 32] ++ cs s ++ [32] ++ numZ p ++ [32] ++ numZ q ++ [41]
  | .bin w a b => [40] ++ cs w.s ++ [32] ++ shF a ++ [32] ++ shF b ++ [41]
  | .pick a b c => [40, 112, 105, 99, 107, 32] ++ shF a ++ [32] ++ shF b ++ [32] ++ shF c ++ [41]
theorem cs_w2 (w : W2) : (cs w.s).length ≤ 5 := by cases w <;> decide +kernel
theorem shF_len : ∀ f : Fm, f.ok (fun s => (cs s).length ≤ 12) → (shF f).length ≤ 200 * f.size
  | .num z, h => by
    have := (show Ok1 z from .inl ⟨h.1, Int.lt_of_lt_of_le h.2 (by decide)⟩).len
    simp [shF, Fm.size]; omega
  | .x, _ => by simp [shF, Fm.size]
  | .y, _ => by simp [shF, Fm.size]
  | .read s p q, h => by
    have h1 := h.1
    have h2 := (show Ok1 p from .inr h.2.1).len
    have h3 := (show Ok1 q from .inr h.2.2).len
    simp [shF, Fm.size]; omega
  | .bin w a b, h => by
    have h1 := shF_len a h.1
    have h2 := shF_len b h.2
    have h3 := cs_w2 w
    simp [shF, Fm.size]; omega
  | .pick a b c, h => by
    have h1 := shF_len a h.1
    have h2 := shF_len b h.2.1
    have h3 := shF_len c h.2.2
    simp [shF, Fm.size]; omega
end G
set_option Elab.async false
set_option linter.all false
set_option maxRecDepth 100000
set_option maxHeartbeats 1000000
namespace G
open PySem PySem.Builtin.Int
theorem op_joinM {a : Str} {l : List (List Nat)} {k : T → Prop} (h : (l.map (·.length)).sum + l.length * (cs a).length ≤ 16777216) : opSK fJoin a (.lst (l.map fun p => D.str (mkS p))) k = k (.imm (.str (mkS (TL.joinL (cs a) l)))) := by
  have e : (l.map fun p => D.str (mkS p)) = (l.map mkS).map D.str := by rw [List.map_map]; rfl
  rw [e, op_join]
  have e2 : ((l.map mkS).map (·.length)) = l.map (·.length) := by
    rw [List.map_map]
    exact List.map_congr_left fun p _ => mkS_len p
  have e3 : Txt.join a (l.map mkS) = mkS (TL.joinL (cs a) l) := SX.join_S (cs a) l
  rw [e2, e3]
  have : (l.map (·.length)).sum + (l.map mkS).length * a.length ≤ line := by
    rw [List.length_map, line_eq]; exact h
  rw [eq_iff_iff]
  exact ⟨fun h => h.2, fun h => ⟨this, h⟩⟩
theorem op_join1' {a x : Str} {k : T → Prop} (h : (cs x).length + (cs a).length ≤ 16777216) : opSK fJoin a (.lst [.str x]) k = k (.imm (.str (mkS (cs x)))) := op_joinM (l := [cs x]) (by simpa using h)
theorem op_join2' {a x y : Str} {k : T → Prop} (h : (cs x).length + (cs y).length + 2 * (cs a).length ≤ 16777216) : opSK fJoin a (.lst [.str x, .str y]) k = k (.imm (.str (mkS (cs x ++ (cs a ++ cs y))))) := op_joinM (l := [cs x, cs y]) (by simp; omega)
theorem op_join3' {a x y z : Str} {k : T → Prop} (h : (cs x).length + (cs y).length + (cs z).length + 3 * (cs a).length ≤ 16777216) : opSK fJoin a (.lst [.str x, .str y, .str z]) k = k (.imm (.str (mkS (cs x ++ (cs a ++ (cs y ++ (cs a ++ cs z))))))) := op_joinM (l := [cs x, cs y, cs z]) (by simp; omega)
theorem op_join4' {a x y z w : Str} {k : T → Prop} (h : (cs x).length + (cs y).length + (cs z).length + (cs w).length + 4 * (cs a).length ≤ 16777216) : opSK fJoin a (.lst [.str x, .str y, .str z, .str w]) k = k (.imm (.str (mkS (cs x ++ (cs a ++ (cs y ++ (cs a ++ (cs z ++ (cs a ++ cs w))))))))) := op_joinM (l := [cs x, cs y, cs z, cs w]) (by simp; omega)
@[simp ↓ high] theorem isi_tup_int {i : Int} {k : T → Prop} : op1K (fIsi .tup) (.int i) k = k (.imm (.bl false)) := o1_isi' rfl
@[simp ↓ high] theorem isi_tup_str {s : Str} {k : T → Prop} : op1K (fIsi .tup) (.str s) k = k (.imm (.bl false)) := o1_isi' rfl
def L12 (s : Str) : Prop := (cs s).length ≤ 12
theorem formula_shown_run : ∀ (n : Nat) (f : Fm), f.ht ≤ n → f.size ≤ 500 → f.ok L12 → ∀ {K : KF} {E g}, RunF (s_f_formula_shown n) [.imm (dF f)] K E g = K (.imm (.str (mkS (shF f)))) [none]
  | 0, f, h, _, _, _, _, _ => by have := ht_pos f; omega
  | n + 1, f, h, hs, ho, K, E, g => by
    refine Sp.eqn ?_
    rw [show s_f_formula_shown (n + 1) = sDef 1 3 [] (s_f_formula_shownB (s_f_formula_shown n)) from rfl, sp_def (by rfl) (by decide), s_f_formula_shownB]
    have hlen := shF_len f ho
    rcases f with z | _ | _ | ⟨s, p, q⟩ | ⟨w, a, b⟩ | ⟨a, b, c⟩
    · have o1 : Ok1 z := .inl ⟨ho.1, Int.lt_of_lt_of_le ho.2 (by decide)⟩
      have l1 := o1.len
      simp [dF, cutAt, runL_cons, runL_nil, b_strA o1]
      rw [op_join2' (by simp; omega)]
      simp [shF]
      omega
    · simp [dF, cutAt, runL_cons, runL_nil]
      rw [op_join1' (by simp)]
      simp [shF]
    · simp [dF, cutAt, runL_cons, runL_nil]
      rw [op_join1' (by simp)]
      simp [shF]
    · have h1 : (cs s).length ≤ 12 := ho.1
      have o2 : Ok1 p := .inr ho.2.1
      have o3 : Ok1 q := .inr ho.2.2
      have l2 := o2.len
      have l3 := o3.len
      simp [dF, cutAt, runL_cons, runL_nil, b_strA o2, b_strA o3, b_strA2]
      rw [op_join4' (by simp; omega)]
      simp [shF]
      omega
    · simp [Fm.ht] at h
      simp [Fm.size] at hs
      have ha := fun {K : KF} {E g} => formula_shown_run n a (by omega) (by omega) ho.1 (K := K) (E := E) (g := g)
      have hb := fun {K : KF} {E g} => formula_shown_run n b (by omega) (by omega) ho.2 (K := K) (E := E) (g := g)
      have la := shF_len a ho.1
      have lb := shF_len b ho.2
      have hw := cs_w2 w
      have ia : ∀ (f : Fm) {k : T → Prop}, op1K (fIsi .tup) (dF f) k = k (.imm (.bl true)) := fun f {k} => by rw [dF_eq]; exact isi_tup_tup
      simp [dF, cutAt, runL_cons, runL_nil, ia, ha, hb]
      rw [op_join3' (by simp; omega)]
      simp [shF]
      omega
    · simp [Fm.ht] at h
      simp [Fm.size] at hs
      have ha := fun {K : KF} {E g} => formula_shown_run n a (by omega) (by omega) ho.1 (K := K) (E := E) (g := g)
      have hb := fun {K : KF} {E g} => formula_shown_run n b (by omega) (by omega) ho.2.1 (K := K) (E := E) (g := g)
      have hc := fun {K : KF} {E g} => formula_shown_run n c (by omega) (by omega) ho.2.2 (K := K) (E := E) (g := g)
      have la := shF_len a ho.1
      have lb := shF_len b ho.2.1
      have lc := shF_len c ho.2.2
      have ia : ∀ (f : Fm) {k : T → Prop}, op1K (fIsi .tup) (dF f) k = k (.imm (.bl true)) := fun f {k} => by rw [dF_eq]; exact isi_tup_tup
      simp [dF, cutAt, runL_cons, runL_nil, ia, ha, hb, hc]
      rw [op_join4' (by simp; omega)]
      simp [shF]
      omega
theorem formula_text_run : ∀ (n : Nat) (f : Fm), f.ht ≤ n → f.size ≤ 500 → f.ok L12 → ∀ {K : KF} {E g}, RunF (s_l_formula_text n) [.imm (dF f)] K E g = K (.imm (.str (mkS (shF f)))) [none]
  | 0, f, h, _, _, _, _, _ => by have := ht_pos f; omega
  | n + 1, f, h, hs, ho, K, E, g => by
    refine Sp.eqn ?_
    rw [show s_l_formula_text (n + 1) = sDef 1 2 [] (s_l_formula_textB (s_l_formula_text n)) from rfl, sp_def (by rfl) (by decide), s_l_formula_textB]
    have hlen := shF_len f ho
    rcases f with z | _ | _ | ⟨s, p, q⟩ | ⟨w, a, b⟩ | ⟨a, b, c⟩
    · have o1 : Ok1 z := .inl ⟨ho.1, Int.lt_of_lt_of_le ho.2 (by decide)⟩
      have l1 := o1.len
      simp [dF, o2_in_tup, b_strI o1, shF]
      omega
    · simp [dF, o2_in_tup, shF]
    · simp [dF, o2_in_tup, shF]
    · have h1 : (cs s).length ≤ 12 := ho.1
      have o2 : Ok1 p := .inr ho.2.1
      have o3 : Ok1 q := .inr ho.2.2
      have l2 := o2.len
      have l3 := o3.len
      simp [dF, o2_in_tup, b_strI o2, b_strI o3, shF]
      omega
    · simp [Fm.ht] at h
      simp [Fm.size] at hs
      have ha := fun {K : KF} {E g} => formula_text_run n a (by omega) (by omega) ho.1 (K := K) (E := E) (g := g)
      have hb := fun {K : KF} {E g} => formula_text_run n b (by omega) (by omega) ho.2 (K := K) (E := E) (g := g)
      have la := shF_len a ho.1
      have lb := shF_len b ho.2
      have hw := cs_w2 w
      have fl : ∀ s : String, D.flat 0 (.str (Str.ofString s)) = true := fun s => flat_str 0 s
      simp [dF, o2_in_tup, cutAt]
      refine ⟨by omega, by omega, ?_⟩
      refine RunLC.mapM dF (fun f => .imm (.str (mkS (shF f)))) (L := [a, b]) (fun f hf => ?_) (by rw [line_eq]; simp) ?_
      · simp at hf
        rcases hf with rfl | rfl <;> simp [ha, hb, wipe]
      · simp
        rw [op_join2' (by simp; omega)]
        simp [shF]
        omega
    · simp [Fm.ht] at h
      simp [Fm.size] at hs
      have ha := fun {K : KF} {E g} => formula_text_run n a (by omega) (by omega) ho.1 (K := K) (E := E) (g := g)
      have hb := fun {K : KF} {E g} => formula_text_run n b (by omega) (by omega) ho.2.1 (K := K) (E := E) (g := g)
      have hc := fun {K : KF} {E g} => formula_text_run n c (by omega) (by omega) ho.2.2 (K := K) (E := E) (g := g)
      have la := shF_len a ho.1
      have lb := shF_len b ho.2.1
      have lc := shF_len c ho.2.2
      simp [dF, o2_in_tup, cutAt]
      refine RunLC.mapM dF (fun f => .imm (.str (mkS (shF f)))) (L := [a, b, c]) (fun f hf => ?_) (by rw [line_eq]; simp) ?_
      · simp at hf
        rcases hf with rfl | rfl | rfl <;> simp [ha, hb, hc, wipe]
      · simp
        rw [op_join3' (by simp; omega)]
        simp [shF]
        omega
end G
set_option Elab.async false
set_option linter.all false
set_option maxRecDepth 100000
set_option maxHeartbeats 1000000
namespace G
open PySem PySem.Builtin.Int
def msW (m : Int) : List Nat := [109, 101, 97, 115, 117, 114, 101, 32] ++ numZ m
def prP (p : Pic) : List Nat := [112, 105, 99, 116, 117, 114, 101, 32] ++ cs p.s ++ [32] ++ numZ p.w ++ [32] ++ numZ p.h ++ [32] ++ numZ p.r
def sgP (g : Stg) : List Nat := [115, 116, 97, 103, 101, 32] ++ cs g.s ++ [32, 61, 32] ++ shF g.f
def rowsW (W : Wk) : List (List Nat) := msW W.m :: (W.ps.map prP ++ W.gs.map sgP)
def shW (W : Wk) : List Nat := TL.joinL [10] (rowsW W)
theorem Nm.cs_len {s : Str} (h : Nm s) : 1 ≤ (cs s).length ∧ (cs s).length ≤ 12 := by
  obtain ⟨l, rfl, hl, _⟩ := h
  exact hl
theorem ok_pic {W : Wk} (h : W.OK) {p : Pic} (hp : p ∈ W.ps) : L12 p.s ∧ Ok1 p.w ∧ Ok1 p.h ∧ Ok1 p.r := by
  have := h.ps.nm p hp
  exact ⟨this.1.cs_len.2, .inl (by omega), .inl (by omega), .inl (by omega)⟩
theorem ok_stg {W : Wk} (h : W.OK) {g : Stg} (hg : g ∈ W.gs) : L12 g.s ∧ g.f.ok L12 ∧ g.f.ht ≤ 12 ∧ g.f.size ≤ 500 := by
  have gk := h.gs.nm g hg
  refine ⟨gk.1.cs_len.2, ?_, gk.2.2.1, gk.2.2.2⟩
  obtain ⟨pre, post, e⟩ := List.append_of_mem hg
  have hok := h.gs
  rw [e] at hok
  refine (StgsOK.fm hok).mono fun s hs => ?_
  rcases List.mem_append.mp hs with m | m
  · obtain ⟨p, hp, rfl⟩ := List.mem_map.mp m
    exact (h.ps.nm p hp).1.cs_len.2
  · obtain ⟨p, hp, rfl⟩ := List.mem_map.mp m
    exact (h.gs.nm p (by rw [e]; simp [hp])).1.cs_len.2
theorem ok_ms {W : Wk} (h : W.OK) : Ok1 W.m := .inl (by have := h.m; omega)
theorem rowsW_len {W : Wk} (h : W.OK) : ∀ l ∈ rowsW W, l.length ≤ 100100 := by
  intro l hl
  rcases List.mem_cons.mp hl with rfl | hl
  · have := (ok_ms h).len
    simp [msW]; omega
  · rcases List.mem_append.mp hl with hl | hl
    · obtain ⟨p, hp, rfl⟩ := List.mem_map.mp hl
      obtain ⟨h1, h2, h3, h4⟩ := ok_pic h hp
      have := h2.len
      have := h3.len
      have := h4.len
      unfold L12 at h1
      simp [prP]; omega
    · obtain ⟨g, hg, rfl⟩ := List.mem_map.mp hl
      obtain ⟨h1, h2, h3, h4⟩ := ok_stg h hg
      have := shF_len g.f h2
      unfold L12 at h1
      simp [sgP]; omega
theorem rows_num {W : Wk} (h : W.OK) : (rowsW W).length ≤ 13 := by
  have := h.np
  have := h.ng
  simp [rowsW]; omega
theorem sumL_le {l : List (List Nat)} {b : Nat} (h : ∀ x ∈ l, x.length ≤ b) : (l.map (·.length)).sum ≤ b * l.length := by
  induction l with
  | nil => simp
  | cons x l ih =>
    have h1 := h x (by simp)
    have h2 := ih fun y hy => h y (by simp [hy])
    rw [List.map_cons, List.sum_cons, List.length_cons, Nat.mul_add]
    omega
theorem join_rows {W : Wk} (h : W.OK) {k : T → Prop} : opSK fJoin (Str.ofString "\n") (.lst ((rowsW W).map fun p => D.str (mkS p))) k = k (.imm (.str (mkS (shW W)))) := by
  have h1 := sumL_le (rowsW_len h)
  have h2 := rows_num h
  rw [op_joinM (by simp; omega)]
  simp [shW]
def dRw1 (l : List (List Nat)) : List D := l.map fun p => D.str (mkS p)
theorem text2_run {W : Wk} (h : W.OK) {K : KF} {E g'} : RunF s_l_text2 [.imm (dParts W)] K E g' = K (.imm (.str (mkS (shW W)))) [none] := by
  refine Sp.eqn ?_
  rw [s_l_text2, sp_def (by rfl) (by decide), s_l_text2_u0]
  have hm := ok_ms h
  have lm := hm.len
  simp [dParts, b_strI hm]
  refine ⟨by omega, ?_⟩
  rw [s_l_text2_u1]
  have hnp := h.np
  have hng := h.ng
  simp
  have st1 : ∀ l : List (List Nat), ims (dRw1 l) = (l.map fun p => T.imm (D.str (mkS p))) := fun l => by simp [dRw1, ims]
  refine RunL.inv (fun ds st => ∃ (pre l' : List Pic) (a2 a3 a4 a5 a6 : Option T), ds = l'.map dPic ∧ pre ++ l' = W.ps ∧ st = [some (.imm (.tup [.int W.m, .lst (W.ps.map dPic), .lst (W.gs.map dStg)])), some (.lst (ims (dRw1 (msW W.m :: pre.map prP)))), a2, a3, a4, a5, a6]) ?_ ?_ _ _ _ ⟨[], W.ps, _, _, _, _, _, rfl, rfl, rfl⟩
  · rintro d r st ⟨pre, l', a2, a3, a4, a5, a6, hd, hap, rfl⟩
    cases l' with
    | nil => cases hd
    | cons p l' =>
      injection hd with hd1 hd2
      subst hd1
      have hp : p ∈ W.ps := by rw [← hap]; simp
      obtain ⟨h1, h2, h3, h4⟩ := ok_pic h hp
      have l2 := h2.len
      have l3 := h3.len
      have l4 := h4.len
      have hpl : pre.length ≤ 4 := by
        have := congrArg List.length hap
        simp at this; omega
      unfold L12 at h1
      simp [dPic, b_strI h2, b_strI h3, b_strI h4]
      refine ⟨by omega, by omega, by omega, by omega, by omega, by omega, by omega, by simp [dRw1]; omega, pre ++ [p], l', hd2, by simpa using hap, ?_⟩
      simp [dRw1, ims, prP]
  · rintro st ⟨pre, l', a2, a3, a4, a5, a6, hd, hap, rfl⟩
    cases l' with
    | cons c l' => cases hd
    | nil =>
      simp at hap
      subst hap
      simp
      rw [s_l_text2_u2]
      simp
      refine RunL.inv (fun ds st => ∃ (pre l' : List Stg) (a2 a3 a4 a5 a6 : Option T), ds = l'.map dStg ∧ pre ++ l' = W.gs ∧ st = [some (.imm (.tup [.int W.m, .lst (W.ps.map dPic), .lst (W.gs.map dStg)])), some (.lst (ims (dRw1 (msW W.m :: (W.ps.map prP ++ pre.map sgP))))), a2, a3, a4, a5, a6]) ?_ ?_ _ _ _ ⟨[], W.gs, a2, a3, a4, a5, a6, rfl, rfl, by simp⟩
      · clear a2 a3 a4 a5 a6
        rintro d r st ⟨pre, l', a2, a3, a4, a5, a6, hd, hap, rfl⟩
        cases l' with
        | nil => cases hd
        | cons g l' =>
          injection hd with hd1 hd2
          subst hd1
          have hg : g ∈ W.gs := by rw [← hap]; simp
          obtain ⟨h1, h2, h3, h4⟩ := ok_stg h hg
          have l2 := shF_len g.f h2
          have hpl : pre.length ≤ 8 := by
            have := congrArg List.length hap
            simp at this; omega
          unfold L12 at h1
          have ef := fun {K : KF} {E g'} => formula_text_run 12 g.f h3 h4 h2 (K := K) (E := E) (g := g')
          simp [dStg, ef]
          refine ⟨by omega, by omega, by omega, by simp [dRw1]; omega, pre ++ [g], l', hd2, by simpa using hap, ?_⟩
          simp [dRw1, ims, sgP]
      · clear a2 a3 a4 a5 a6
        rintro st ⟨pre, l', a2, a3, a4, a5, a6, hd, hap, rfl⟩
        cases l' with
        | cons c l' => cases hd
        | nil =>
          simp at hap
          subst hap
          rw [s_l_text2_t3]
          have ej := fun {k : T → Prop} => join_rows h (k := k)
          simp
          exact ej ▸ rfl
theorem varK_tWt {W : Wk} {st i} {K : T → St → Prop} : varK (some (tW W)) st i K = putK st i (some (.imm (dW W))) (K (.imm (dW W))) := by
  show putK st i (some (.imm (tW W).toD)) (K (.imm (tW W).toD)) = _
  rw [tW_toD]
theorem works_shown_run {W : Wk} (h : W.OK) {t : T} (ht : t = .imm (dW W) ∨ t = tW W) {K : KF} {E g'} : RunF s_f_works_shown [t] K E g' = K (.imm (.str (mkS (shW W)))) [none] := by
  refine Sp.eqn ?_
  rw [s_f_works_shown, sp_def (by rfl) (by decide), s_f_works_shown_u0]
  have hm := ok_ms h
  have lm := hm.len
  suffices H : Run s_f_works_shown_t1 [some (.imm (dW W)), some (.lst (ims (dRw1 [msW W.m]))), none, none, none] (fun f s => endK f fun t => finK [] 0 1 s fun qs => t = .imm (.str (mkS (shW W))) ∧ qs = [none]) fun _ _ => False by
    have em : ∀ {k : T → Prop}, op1K (fFld [0] (Str.ofString "measure")) (dW W) k = k (.imm (.int W.m)) := by
      intro k
      simp [dW]
    rcases ht with rfl | rfl
    · simp [em, b_strI hm]
      exact ⟨by omega, by simpa [dRw1, msW] using H⟩
    · simp [varK_tWt, em, b_strI hm]
      exact ⟨by omega, by simpa [dRw1, msW] using H⟩
  rw [s_f_works_shown_u1]
  have hnp := h.np
  have hng := h.ng
  simp [pictures_run hnp.2]
  refine RunL.inv (fun ds st => ∃ (pre l' : List Pic) (a2 a3 a4 : Option T), ds = dSs (pNs l') ∧ pre ++ l' = W.ps ∧ st = [some (.imm (dW W)), some (.lst (ims (dRw1 (msW W.m :: pre.map prP)))), a2, a3, a4]) ?_ ?_ _ _ _ ⟨[], W.ps, _, _, _, rfl, rfl, rfl⟩
  · rintro d r st ⟨pre, l', a2, a3, a4, hd, hap, rfl⟩
    cases l' with
    | nil => cases hd
    | cons p l' =>
      injection hd with hd1 hd2
      subst hd1
      have hp : p ∈ W.ps := by rw [← hap]; simp
      obtain ⟨h1, h2, h3, h4⟩ := ok_pic h hp
      have l2 := h2.len
      have l3 := h3.len
      have l4 := h4.len
      have hpl : pre.length ≤ 4 := by
        have := congrArg List.length hap
        simp at this; omega
      unfold L12 at h1
      simp [size_run h hp, rim_run h hp, b_strI h2, b_strI h3, b_strI h4]
      refine ⟨by omega, by omega, by omega, by omega, by omega, by omega, by omega, by simp [dRw1]; omega, pre ++ [p], l', hd2, by simpa using hap, ?_⟩
      simp [dRw1, ims, prP]
  · rintro st ⟨pre, l', a2, a3, a4, hd, hap, rfl⟩
    cases l' with
    | cons c l' => cases hd
    | nil =>
      simp at hap
      subst hap
      simp
      rw [s_f_works_shown_u2]
      simp [stages_run]
      refine RunL.inv (fun ds st => ∃ (pre l' : List Stg) (a2 a3 a4 : Option T), ds = dSs (gNs l') ∧ pre ++ l' = W.gs ∧ st = [some (.imm (dW W)), some (.lst (ims (dRw1 (msW W.m :: (W.ps.map prP ++ pre.map sgP))))), a2, a3, a4]) ?_ ?_ _ _ _ ⟨[], W.gs, a2, a3, a4, rfl, rfl, by simp⟩
      · clear a2 a3 a4
        rintro d r st ⟨pre, l', a2, a3, a4, hd, hap, rfl⟩
        cases l' with
        | nil => cases hd
        | cons g l' =>
          injection hd with hd1 hd2
          subst hd1
          have hg : g ∈ W.gs := by rw [← hap]; simp
          obtain ⟨h1, h2, h3, h4⟩ := ok_stg h hg
          have l2 := shF_len g.f h2
          have hpl : pre.length ≤ 8 := by
            have := congrArg List.length hap
            simp at this; omega
          unfold L12 at h1
          have efo := fun {K : KF} {E g'} => formula_of_run h hg (K := K) (E := E) (g := g')
          have ef := fun {K : KF} {E g'} => formula_shown_run 12 g.f h3 h4 h2 (K := K) (E := E) (g := g')
          simp [efo, ef]
          refine ⟨by omega, by omega, by omega, by simp [dRw1]; omega, pre ++ [g], l', hd2, by simpa using hap, ?_⟩
          simp [dRw1, ims, sgP]
      · clear a2 a3 a4
        rintro st ⟨pre, l', a2, a3, a4, hd, hap, rfl⟩
        cases l' with
        | cons c l' => cases hd
        | nil =>
          simp at hap
          subst hap
          rw [s_f_works_shown_t3]
          have ej := fun {k : T → Prop} => join_rows h (k := k)
          simp
          exact ej ▸ rfl
end G
set_option Elab.async false
set_option linter.all false
set_option maxRecDepth 100000
set_option maxHeartbeats 1000000
namespace G
open PySem PySem.Builtin.Int
theorem slice_big {l : List Nat} {lo hi : Option Int} {k : T → Prop} (h : l.length ≤ 16777216) : sliceK (.str (mkS l)) lo hi k = k (.imm (.str (mkS (cutL l lo hi)))) := by
  have hl : (mkS l).length ≤ line := by rw [mkS_len, line_eq]; exact h
  unfold sliceK
  show (∃ t, (if (mkS l).length ≤ line then some (T.imm (.str ⟨(cutL (mkS l).cps.toList lo hi).toArray⟩)) else none) = some t ∧ k t) = _
  rw [if_pos hl]
  simp [mkS]
theorem cut_midT {pre w post : List Nat} {a b : Int} (ha : a = pre.length) (hb : b = (pre.length : Int) + w.length) : cutL (pre ++ w ++ post) (some a) (some b) = w := by
  subst ha; subst hb
  unfold cutL cutAt
  have h1 : ¬ ((pre.length : Int) < 0) := by omega
  have h2 : ¬ ((pre.length : Int) + w.length < 0) := by omega
  simp only [h1, h2, if_false]
  have e1 : min (pre.length : Int).toNat (pre ++ w ++ post).length = pre.length := by simp
  have e2 : min ((pre.length : Int) + w.length).toNat (pre ++ w ++ post).length = pre.length + w.length := by simp; omega
  rw [e1, e2, List.append_assoc, List.drop_left]
  simp
theorem ix_big {pre post : List Nat} {c : Nat} {i : Int} (hi : i = pre.length) {txt : List Nat} (ht : txt = pre ++ c :: post) (hl : txt.length ≤ 16777216) {k : T → Prop} : op2K fIx (.str (mkS txt)) (.int i) k = k (.imm (.str ⟨#[c]⟩)) := by
  subst hi; subst ht
  have e : fIx (.str (mkS (pre ++ c :: post))) (.int pre.length) = some (.imm (.str ⟨#[c]⟩)) := by
    show (if (mkS (pre ++ c :: post)).length ≤ line then (atI (mkS (pre ++ c :: post)).cps.toList (pre.length : Int)).map (fun c => T.imm (.str ⟨#[c]⟩)) else none) = _
    rw [if_pos (by rw [mkS_len, line_eq]; exact hl), atI_nat]
    have : (mkS (pre ++ c :: post)).cps.toList = pre ++ c :: post := rfl
    rw [this, List.getElem?_append_right (Nat.le_refl _)]
    simp
  simp [op2K, e]
theorem len_big {l : List Nat} (h : l.length ≤ 16777216) {k : T → Prop} : bltK bLen [.str (mkS l)] k = k (.imm (.int l.length)) := by
  rw [b_len_str (by rw [mkS_len, line_eq]; exact h), mkS_len]
theorem in_text {c : Nat} {y : Str} : dIn (.str ⟨#[c]⟩) (.str y) = some (decide (c ∈ cs y)) := rfl
theorem notIn_text {c : Nat} {y : Str} {k : T → Prop} : op2K fNotIn (.str ⟨#[c]⟩) (.str y) k = k (.imm (.bl (!decide (c ∈ cs y)))) := by
  simp [op2K, fNotIn, in_text]
@[simp] theorem cs_figs : cs (Str.ofString "0123456789") = [48, 49, 50, 51, 52, 53, 54, 55, 56, 57] := by decide +kernel
@[simp] theorem cs_ends : cs (Str.ofString " )") = [32, 41] := by decide +kernel
def figB (l : List Nat) (most : Nat) : Bool := l.all (fun c => decide (48 ≤ c) && decide (c ≤ 57)) && (decide (0 < l.length) && decide (l.length ≤ most) && (decide (l = [48]) || decide (l.head? ≠ some 48)))
theorem is_figures_run {l : List Nat} {most : Nat} (hl : l.length ≤ 16777216) {K : KF} {E g} : RunF s_f_is_figures [.imm (.str (mkS l)), .imm (.int most)] K E g = K (.imm (.bl (figB l most))) [none, none] := by
  refine Sp.eqn ?_
  rw [s_f_is_figures, sp_def (by rfl) (by decide), s_f_is_figuresB]
  have hs : ∀ {k : List D → Prop}, k (l.map fun c => D.str ⟨#[c]⟩) → k ((mkS l).cps.toList.map fun c => D.str ⟨#[c]⟩) := fun h => h
  simp [mkS]
  refine RunL.inv (fun ds s => ∃ (pre l' : List Nat) (a2 : Option T), ds = l'.map (fun c => D.str ⟨#[c]⟩) ∧ pre ++ l' = l ∧ (∀ c ∈ pre, 48 ≤ c ∧ c ≤ 57) ∧ s = [some (.imm (.str (mkS l))), some (.imm (.int most)), a2]) ?_ ?_ _ _ _ ⟨[], l, none, rfl, rfl, by simp, rfl⟩
  · rintro d r s ⟨pre, l', a2, hd, hap, hpre, rfl⟩
    cases l' with
    | nil => cases hd
    | cons c l' =>
      injection hd with hd1 hd2
      subst hd1
      simp only [patK_name, putK_s, putK_0]
      simp [notIn_text]
      refine ifK.mk (fun hc => ?_) fun hc => ?_
      · refine ⟨pre ++ [c], l', hd2, by simpa using hap, fun z hz => ?_⟩
        rcases List.mem_append.mp hz with m | m
        · exact hpre z m
        · simp at m; subst m; omega
      · have hf : figB l most = false := by
          have : l.all (fun c => decide (48 ≤ c) && decide (c ≤ 57)) = false := by
            rw [← hap, List.all_append, List.all_cons]
            have : (decide (48 ≤ c) && decide (c ≤ 57)) = false := by
              rw [Bool.and_eq_false_iff]
              by_cases h : 48 ≤ c
              · right; simp; omega
              · left; simp; omega
            rw [this]; simp
          unfold figB
          rw [this]; rfl
        rw [hf]
  · rintro s ⟨pre, l', a2, hd, hap, hpre, rfl⟩
    cases l' with
    | cons c l' => cases hd
    | nil =>
      simp at hap
      subst hap
      have hall : pre.all (fun c => decide (48 ≤ c) && decide (c ≤ 57)) = true := by
        rw [List.all_eq_true]
        intro c hc
        have := hpre c hc
        simp; omega
      have e0 : (mkS pre = Str.ofString "0") ↔ pre = [48] := by
        rw [show Str.ofString "0" = mkS [48] by decide +kernel]
        exact ⟨mkS_inj, fun h => by rw [h]⟩
      unfold figB
      rw [hall]
      simp [len_big hl, e0]
      refine ifK.mk (fun h1 => ifK.mk (fun h2 => ifK.mk (fun h3 => ⟨⟨h1, h2⟩, .inl h3⟩) fun h3 => ?_) fun h2 _ h => absurd h h2) fun h1 h => absurd h h1
      cases pre with
      | nil => simp at h1
      | cons c r =>
        have e1 : ((⟨#[c]⟩ : Str) = Str.ofString "0") ↔ c = 48 := by
          rw [show Str.ofString "0" = mkS [48] by decide +kernel]
          exact ⟨fun h => by have := mkS_inj (a := [c]) h; simpa using this, fun h => by rw [h]; rfl⟩
        have h1' : 0 < (c :: r).length := h1
        have h2' : (c :: r).length ≤ most := h2
        rw [ix_big (pre := []) (post := r) (c := c) (i := 0) (txt := c :: r) rfl rfl hl]
        simp [e1]
        have h2'' : r.length + 1 ≤ most := h2'
        have h3' : ¬ (c = 48 ∧ r = []) := fun h => h3 (by rw [h.1, h.2])
        by_cases hc : c = 48
        · have : r ≠ [] := fun e => h3' ⟨hc, e⟩
          simp [hc, this, h2'']
        · simp [hc, h2'']
theorem numL_head {n : Nat} (h : 1 ≤ n) : ∃ c r, TL.numL n = c :: r ∧ 49 ≤ c ∧ c ≤ 57 := by
  induction n using Nat.strongRecOn with
  | _ n ih =>
    by_cases h10 : n < 10
    · rw [TL.numL_lt h10]
      exact ⟨48 + n, [], rfl, by omega, by omega⟩
    · rw [TL.numL_step (by omega)]
      obtain ⟨c, r, e, h1, h2⟩ := ih (n / 10) (by omega) (by omega)
      rw [e]
      exact ⟨c, _, rfl, h1, h2⟩
theorem figB_num {n most : Nat} (hl : (TL.numL n).length ≤ most) : figB (TL.numL n) most = true := by
  unfold figB
  have h1 : (TL.numL n).all (fun c => decide (48 ≤ c) && decide (c ≤ 57)) = true := by
    rw [List.all_eq_true]
    intro c hc
    have := TL.numL_digits n c hc
    simp; omega
  have h2 : 0 < (TL.numL n).length := List.length_pos_iff.mpr (TL.numL_ne n)
  rw [h1]
  simp [h2, hl]
  by_cases hn : n = 0
  · left
    rw [hn, TL.numL_lt (by decide)]
  · right
    obtain ⟨c, r, e, h3, h4⟩ := numL_head (n := n) (by omega)
    rw [e]
    simp
    omega
theorem int_numL {n : Nat} (hl : (TL.numL n).length ≤ 640) {k : T → Prop} : bltK bIntS [.str (mkS (TL.numL n))] k = k (.imm (.int n)) := by
  have e0 : mkS (TL.numL n) = Str.ofString (toString ((n : Nat) : Int)) := (SX.num_S n).symm
  have e : bIntS [.str (mkS (TL.numL n))] = some (.imm (.int n)) := by
    have h := TL.int_num (n := n) (by omega)
    have e : bIntS [.str (mkS (TL.numL n))] = (match PySem.intText? (mkS (TL.numL n)) with
      | some m => if (mkS (TL.numL n)).length ≤ 640 then some (T.imm (.int m)) else none
      | none => none) := rfl
    rw [e, e0, h]
    dsimp only
    rw [← e0, if_pos (by rw [mkS_len]; exact hl)]
  simp [bltK, e]
theorem number_of_run {z row : Int} (h0 : 0 ≤ z) (h1 : z < 10 ^ 61) {K : KF} {E g} : RunF s_f_number_of [.imm (.str (mkS (numZ z))), .imm (.int row)] K E g = K (.imm (.int z)) [none, none] := by
  refine Sp.eqn ?_
  rw [s_f_number_of, sp_def (by rfl) (by decide), s_f_number_ofB]
  obtain ⟨n, rfl⟩ : ∃ n : Nat, z = n := ⟨z.toNat, by omega⟩
  have e : numZ (n : Int) = TL.numL n := numZ_nn h0
  have hl : (TL.numL n).length ≤ 61 := TL.numL_len (by decide) (by omega)
  rw [e]
  have ef := fun {K : KF} {E g} => is_figures_run (l := TL.numL n) (most := 61) (by omega) (K := K) (E := E) (g := g)
  rw [figB_num hl] at ef
  simp at ef
  have ei := fun {k : T → Prop} => int_numL (n := n) (by omega) (k := k)
  simp [ef, ifK, ei]
theorem starts_eq (x y : Str) : Txt.startswith x y = decide ((cs x).take (cs y).length = cs y) := by
  have hx : x.length = (cs x).length := rfl
  have hy : y.length = (cs y).length := rfl
  unfold Txt.startswith
  rw [StrLaws.subAt_eq, List.drop_zero]
  show (decide (0 + y.length ≤ x.length) && ((cs x).take y.length == cs y)) = _
  by_cases h : (cs x).take (cs y).length = cs y
  · have hl : (cs y).length ≤ (cs x).length := by
      have := congrArg List.length h
      simp at this
      omega
    rw [hy, hx, h]
    simp [hl]
  · have : ((cs x).take y.length == cs y) = false := by
      rw [hy]
      simpa using h
    rw [this]
    simp [h]
theorem starts_run {x y : Str} {k : T → Prop} : opSK fStarts x (.str y) k = k (.imm (.bl (decide ((cs x).take (cs y).length = cs y)))) := by
  rw [← starts_eq]
  have e : fStarts x (.str y) = some (.imm (.bl (Txt.startswith x y))) := rfl
  simp [opSK, e]
theorem step_of_run {z row : Int} (h : -3 ≤ z ∧ z ≤ 3) {K : KF} {E g} : RunF s_f_step_of [.imm (.str (mkS (numZ z))), .imm (.int row)] K E g = K (.imm (.int z)) [none, none] := by
  refine Sp.eqn ?_
  rw [s_f_step_of, sp_def (by rfl) (by decide), s_f_step_ofB]
  have hz : (∃ n : Nat, z = n ∧ n ≤ 3) ∨ (∃ n : Nat, z = -n ∧ n ≤ 3 ∧ 1 ≤ n) := by
    by_cases h0 : 0 ≤ z
    · exact .inl ⟨z.toNat, by omega, by omega⟩
    · exact .inr ⟨(-z).toNat, by omega, by omega, by omega⟩
  have hl : ∀ {n : Nat}, n ≤ 3 → TL.numL n = [48 + n] := fun {n} hn => TL.numL_lt (by omega)
  rcases hz with ⟨n, rfl, hn⟩ | ⟨n, rfl, hn, h1⟩
  · have e : numZ (n : Int) = TL.numL n := numZ_nn (by omega)
    rw [e]
    have e1 := hl hn
    have ef := fun {K : KF} {E g} => is_figures_run (l := TL.numL n) (most := 3) (by rw [e1]; simp) (K := K) (E := E) (g := g)
    rw [figB_num (by rw [e1]; simp)] at ef
    simp at ef
    have ei := fun {k : T → Prop} => int_numL (n := n) (by rw [e1]; simp) (k := k)
    have es : ¬ 48 + n = 45 := by omega
    simp [starts_run, ef, ifK, ei]
    rw [e1]
    simp [es]
  · have e : numZ (-(n : Int)) = 45 :: TL.numL n := by
      unfold numZ
      rw [if_pos (by omega)]
      simp
    rw [e]
    have e1 := hl hn
    have ef := fun {K : KF} {E g} => is_figures_run (l := TL.numL n) (most := 3) (by rw [e1]; simp) (K := K) (E := E) (g := g)
    rw [figB_num (by rw [e1]; simp)] at ef
    simp at ef
    have ei := fun {k : T → Prop} => int_numL (n := n) (by rw [e1]; simp) (k := k)
    have en : ¬ mkS (45 :: TL.numL n) = Str.ofString "-0" := by
      rw [show Str.ofString "-0" = mkS [45, 48] by decide +kernel, e1]
      intro h
      have := mkS_inj h
      simp at this
      omega
    have ec : cutL (45 :: TL.numL n) (some 1) none = TL.numL n := by
      simp [cutL, cutAt]

    have hbig : (45 :: TL.numL n).length ≤ 16777216 := by rw [e1]; simp
    simp [starts_run, en, slice_big hbig, ec, ef, ifK, ei]
theorem word_of_run {s : Str} {row : Int} (h : Nm s) {K : KF} {E g} : RunF s_f_word_of [.imm (.str s), .imm (.int row)] K E g = K (.imm (.str s)) [none, none] := by
  refine Sp.eqn ?_
  have hne : s ≠ Str.ofString "" := fun e => by
    have := h.cs_len.1
    rw [e] at this
    simp at this
  rw [s_f_word_of, sp_def (by rfl) (by decide), s_f_word_ofB]
  simp [hne, ifK, all_letters_run h]
end G
set_option Elab.async false
set_option linter.all false
set_option maxRecDepth 100000
set_option maxHeartbeats 1000000
namespace G
open PySem PySem.Builtin.Int
theorem part_loop {txt : List Nat} {c : Nat} {post : List Nat} (hc : c = 32 ∨ c = 41) (hb : txt.length ≤ 16777216) {a : T} {K : Fl → St → Prop} {E : X → St → Prop} : ∀ (w2 done : List Nat) (N : Nat), txt = done ++ (w2 ++ c :: post) → (∀ x ∈ w2, x ≠ 32 ∧ x ≠ 41) → w2.length < N → K .nx [some (.imm (.str (mkS txt))), some a, some (.imm (.int (done.length + w2.length)))] →
    Run (loopW (bAnd (sTest (sOp2 fLt (sVar 2) (sBlt bLen (aVal (sVar 0) (aNil))))) (sTest (sOp2 fNotIn (sOp2 fIx (sVar 0) (sVar 2)) (sCst (.str " )"))))) (sAug 2 fAddI (sCst (.int 1))) N) [some (.imm (.str (mkS txt))), some a, some (.imm (.int done.length))] K E
  | w2, done, 0, _, _, hN, _ => by omega
  | w2, done, N + 1, ht, hw, hN, hK => by
    rw [run_while]
    cases w2 with
    | nil =>
      have hlt : (done.length : Int) < txt.length := by rw [ht]; simp; omega
      have hx := fun {k : T → Prop} => ix_big (pre := done) (post := post) (c := c) (i := done.length) rfl (txt := txt) (by rw [ht]; simp) hb (k := k)
      have hin : c ∈ [32, 41] := by simpa using hc
      simp [len_big hb, hlt, hx, notIn_text, ifK]
      simp at hK
      rcases hc with rfl | rfl <;> simpa using hK
    | cons d w2 =>
      have hlt : (done.length : Int) < txt.length := by rw [ht]; simp; omega
      have hx := fun {k : T → Prop} => ix_big (pre := done) (post := w2 ++ c :: post) (c := d) (i := done.length) rfl (txt := txt) (by rw [ht]; simp) hb (k := k)
      have hd := hw d (by simp)
      simp [len_big hb, hlt, hx, notIn_text, ifK, hd]
      have := part_loop (post := post) hc hb (a := a) (K := K) (E := E) w2 (done ++ [d]) N (by rw [ht]; simp) (fun x hx => hw x (by simp [hx])) (by simp at hN; omega) (by
        have e : ((done ++ [d]).length : Int) + w2.length = done.length + (d :: w2).length := by simp; omega
        rw [e]; exact hK)
      simpa using this
theorem part_at_run {txt pre w post : List Nat} {c : Nat} {i j : Int} (ht : txt = pre ++ (w ++ c :: post)) (hi : i = pre.length) (hj : j = pre.length + w.length) (hc : c = 32 ∨ c = 41) (hb : txt.length ≤ 16777216) (hw : ∀ x ∈ w, x ≠ 32 ∧ x ≠ 41) (hl : w.length < 100000) {K : KF} {E g} : RunF s_f_part_at [.imm (.str (mkS txt)), .imm (.int i)] K E g = K (.imm (.tup [.str (mkS w), .int j])) [none, none] := by
  refine Sp.eqn ?_
  subst hi
  subst hj
  rw [s_f_part_at, sp_def (by rfl) (by decide), s_f_part_atB]
  simp
  refine part_loop hc hb w pre 100000 ht hw hl ?_
  have ec : cutL txt (some (pre.length : Int)) (some ((pre.length : Int) + w.length)) = w := by
    rw [ht, ← List.append_assoc]
    exact cut_midT rfl rfl
  simp [slice_big hb, ec]
theorem behind_sign_run {txt pre post : List Nat} {c : Nat} {s : Str} {i j row : Int} (ht : txt = pre ++ (c :: post)) (hi : i = pre.length) (hj : j = pre.length + 1) (hs : s = mkS [c]) (hb : txt.length ≤ 16777216) {K : KF} {E g} : RunF s_f_behind_sign [.imm (.str (mkS txt)), .imm (.int i), .imm (.str s), .imm (.int row)] K E g = K (.imm (.int j)) [none, none, none, none] := by
  refine Sp.eqn ?_
  subst hi
  subst hj
  subst hs
  rw [s_f_behind_sign, sp_def (by rfl) (by decide), s_f_behind_signB]
  have ec : cutL txt (some (pre.length : Int)) (some ((pre.length : Int) + 1)) = [c] := by
    rw [ht, show pre ++ c :: post = pre ++ [c] ++ post by simp]
    exact cut_midT rfl (by simp)
  simp [slice_big hb, ec, ifK]
theorem s_op : Str.ofString "(" = mkS [40] := by decide +kernel
theorem s_cl : Str.ofString ")" = mkS [41] := by decide +kernel
theorem s_bl : Str.ofString " " = mkS [32] := by decide +kernel
theorem numZ_free {z : Int} (h : Ok1 z) : ∀ x ∈ numZ z, x ≠ 32 ∧ x ≠ 41 := by
  intro x hx
  unfold numZ at hx
  split at hx
  · rcases List.mem_cons.mp hx with rfl | hx
    · decide
    · have := TL.numL_digits _ x hx; omega
  · have := TL.numL_digits _ x hx; omega
theorem nm_free2 {s : Str} (h : Nm s) : ∀ x ∈ cs s, x ≠ 32 ∧ x ≠ 41 := by
  intro x hx
  have h1 := h.is
  rw [isNm_iff] at h1
  have := h1.2 x hx
  omega
theorem plain_num_run {z row i : Int} (h : 0 ≤ z ∧ z < 10 ^ 60) {K : KF} {E g} : RunF s_f_plain_value [.imm (.str (Str.ofString "number")), .imm (.int i), .imm (.str (mkS (numZ z))), .imm (.int row)] K E g = K (.imm (.int z)) [none, none, none, none] := by
  refine Sp.eqn ?_
  rw [s_f_plain_value, sp_def (by rfl) (by decide), s_f_plain_valueB]
  simp [number_of_run h.1 (by have := h.2; omega)]
theorem plain_word_run {s : Str} {row : Int} (h : Nm s) {K : KF} {E g} : RunF s_f_plain_value [.imm (.str (Str.ofString "read")), .imm (.int 0), .imm (.str s), .imm (.int row)] K E g = K (.imm (.str s)) [none, none, none, none] := by
  refine Sp.eqn ?_
  rw [s_f_plain_value, sp_def (by rfl) (by decide), s_f_plain_valueB]
  simp [word_of_run h]
theorem plain_step_run {z row i : Int} (h : -3 ≤ z ∧ z ≤ 3) (hi : i ≠ 0) {K : KF} {E g} : RunF s_f_plain_value [.imm (.str (Str.ofString "read")), .imm (.int i), .imm (.str (mkS (numZ z))), .imm (.int row)] K E g = K (.imm (.int z)) [none, none, none, none] := by
  refine Sp.eqn ?_
  rw [s_f_plain_value, sp_def (by rfl) (by decide), s_f_plain_valueB]
  simp [step_of_run h, hi]
end G
set_option Elab.async false
set_option linter.all false
set_option maxRecDepth 100000
set_option maxHeartbeats 1000000
namespace G
open PySem PySem.Builtin.Int
theorem ex_eq {α : Type} (a : α) : ∃ p : α, p = a := ⟨a, rfl⟩
theorem notIn_rol {d : D} {l : List D} {k : T → Prop} (h : D.flat 40 d = true) (h' : ∀ x ∈ l, D.flat 39 x = true) : op2K fNotIn d (.rol l) k = k (.imm (.bl (!l.any fun z => PyData.eqv z.py d.py))) := by
  have e : dIn d (.rol l) = some (l.any fun z => PyData.eqv z.py d.py) := by
    have c : (D.flat 40 d && l.all (D.flat 39)) = true := by rw [h, Bool.true_and, List.all_eq_true]; exact h'
    cases d <;> (simp only [dIn, c, if_true])
  simp [op2K, fNotIn, e]
theorem w2_free (w : W2) : ∀ x ∈ cs w.s, x ≠ 32 ∧ x ≠ 41 := by cases w <;> decide +kernel
theorem rng1_ : rng 0 1 1 = [D.int 0] := rfl
theorem rng2_ : rng 0 1 2 = [D.int 0, D.int 1] := rfl
theorem rng3_ : rng 0 1 3 = [D.int 0, D.int 1, D.int 2] := rfl
theorem rng0_ : rng 0 1 0 = [] := rfl
theorem formula_at_run : ∀ (n : Nat) (f : Fm), f.ht ≤ n → f.ok Nm → ∀ {txt pre post : List Nat} {i j row : Int}, txt = pre ++ (shF f ++ post) → i = pre.length → j = pre.length + (shF f).length → txt.length ≤ 16777216 → ∀ {K : KF} {E g}, RunF (s_f_formula_at n) [.imm (.str (mkS txt)), .imm (.int i), .imm (.int row)] K E g = K (.imm (.tup [dF f, .int j])) [none, none, none]
  | 0, f, h, _, _, _, _, _, _, _, _, _, _, _, _, _, _ => by have := ht_pos f; omega
  | n + 1, f, h, o, txt, pre, post, i, j, row, ht, hi, hj, hb, K, E, g => by
    refine Sp.eqn ?_
    rw [show s_f_formula_at (n + 1) = sDef 3 7 [] (s_f_formula_atB (s_f_formula_at n)) from rfl, sp_def (by rfl) (by decide), s_f_formula_atB]
    rcases f with z | _ | _ | ⟨s, p, q⟩ | ⟨w, a, b⟩ | ⟨a, b, c⟩
    · obtain ⟨p1, e1⟩ := ex_eq (((pre ++ [40]) : List Nat).length : Int)
      obtain ⟨p2, e2⟩ := ex_eq (((pre ++ [40] ++ cs (Str.ofString "number")) : List Nat).length : Int)
      obtain ⟨p3, e3⟩ := ex_eq (((pre ++ [40] ++ cs (Str.ofString "number") ++ [32]) : List Nat).length : Int)
      obtain ⟨p4, e4⟩ := ex_eq (((pre ++ [40] ++ cs (Str.ofString "number") ++ [32] ++ numZ z) : List Nat).length : Int)
      have oz : Ok1 z := .inl (by have := o.1; have := o.2; omega)
      have ol := oz.len
      have hv := fun {K : KF} {E g} => plain_num_run (row := row) (i := 0) o (K := K) (E := E) (g := g)
      have h0 := fun {K : KF} {E g} => behind_sign_run (row := row) (txt := txt) (pre := pre) (c := 40) (i := i) (j := p1) (by rw [ht]; simp [shF]; try rfl) hi (by rw [e1]; simp; try omega) s_op hb (K := K) (E := E) (g := g)
      have h1 := fun {K : KF} {E g} => part_at_run (txt := txt) (pre := pre ++ [40]) (w := cs (Str.ofString "number")) (c := 32) (i := p1) (j := p2) (by rw [ht]; simp [shF]; try rfl) e1 (by rw [e2]; simp; try omega) (by simp) hb (by simp) (by simp) (K := K) (E := E) (g := g)
      have h2 := fun {K : KF} {E g} => behind_sign_run (row := row) (txt := txt) (pre := pre ++ [40] ++ cs (Str.ofString "number")) (c := 32) (i := p2) (j := p3) (by rw [ht]; simp [shF]; try rfl) e2 (by rw [e3]; simp; try omega) s_bl hb (K := K) (E := E) (g := g)
      have h3 := fun {K : KF} {E g} => part_at_run (txt := txt) (pre := pre ++ [40] ++ cs (Str.ofString "number") ++ [32]) (w := numZ z) (c := 41) (i := p3) (j := p4) (by rw [ht]; simp [shF]; try rfl) e3 (by rw [e4]; simp; try omega) (by simp) hb (numZ_free oz) (by omega) (K := K) (E := E) (g := g)
      have h4 := fun {K : KF} {E g} => behind_sign_run (row := row) (txt := txt) (pre := pre ++ [40] ++ cs (Str.ofString "number") ++ [32] ++ numZ z) (c := 41) (i := p4) (j := j) (by rw [ht]; simp [shF]; try rfl) e4 (by rw [hj]; simp [shF]; try omega) s_cl hb (K := K) (E := E) (g := g)
      have hw := fun {K : KF} {E g} => wanted_behind_run (.num z) (K := K) (E := E) (g := g)
      simp [Fm.word, Fm.rest] at hw
      simp only [mk_cs] at h1
      simp [h0, h1, h2, h3, h4, notIn_rol, o2_in_rol, ifK, hw, rng0_, rng1_, rng2_, rng3_, runL_cons, runL_nil, dF, hv]
    · obtain ⟨p1, e1⟩ := ex_eq (((pre ++ [40]) : List Nat).length : Int)
      obtain ⟨p2, e2⟩ := ex_eq (((pre ++ [40] ++ cs (Str.ofString "x")) : List Nat).length : Int)
      have h0 := fun {K : KF} {E g} => behind_sign_run (row := row) (txt := txt) (pre := pre) (c := 40) (i := i) (j := p1) (by rw [ht]; simp [shF]; try rfl) hi (by rw [e1]; simp; try omega) s_op hb (K := K) (E := E) (g := g)
      have h1 := fun {K : KF} {E g} => part_at_run (txt := txt) (pre := pre ++ [40]) (w := cs (Str.ofString "x")) (c := 41) (i := p1) (j := p2) (by rw [ht]; simp [shF]; try rfl) e1 (by rw [e2]; simp; try omega) (by simp) hb (by simp) (by simp) (K := K) (E := E) (g := g)
      have h2 := fun {K : KF} {E g} => behind_sign_run (row := row) (txt := txt) (pre := pre ++ [40] ++ cs (Str.ofString "x")) (c := 41) (i := p2) (j := j) (by rw [ht]; simp [shF]; try rfl) e2 (by rw [hj]; simp [shF]; try omega) s_cl hb (K := K) (E := E) (g := g)
      have hw := fun {K : KF} {E g} => wanted_behind_run .x (K := K) (E := E) (g := g)
      simp [Fm.word, Fm.rest] at hw
      simp only [mk_cs] at h1
      simp [h0, h1, h2, notIn_rol, o2_in_rol, ifK, hw, rng0_, rng1_, rng2_, rng3_, runL_cons, runL_nil, dF]
    · obtain ⟨p1, e1⟩ := ex_eq (((pre ++ [40]) : List Nat).length : Int)
      obtain ⟨p2, e2⟩ := ex_eq (((pre ++ [40] ++ cs (Str.ofString "y")) : List Nat).length : Int)
      have h0 := fun {K : KF} {E g} => behind_sign_run (row := row) (txt := txt) (pre := pre) (c := 40) (i := i) (j := p1) (by rw [ht]; simp [shF]; try rfl) hi (by rw [e1]; simp; try omega) s_op hb (K := K) (E := E) (g := g)
      have h1 := fun {K : KF} {E g} => part_at_run (txt := txt) (pre := pre ++ [40]) (w := cs (Str.ofString "y")) (c := 41) (i := p1) (j := p2) (by rw [ht]; simp [shF]; try rfl) e1 (by rw [e2]; simp; try omega) (by simp) hb (by simp) (by simp) (K := K) (E := E) (g := g)
      have h2 := fun {K : KF} {E g} => behind_sign_run (row := row) (txt := txt) (pre := pre ++ [40] ++ cs (Str.ofString "y")) (c := 41) (i := p2) (j := j) (by rw [ht]; simp [shF]; try rfl) e2 (by rw [hj]; simp [shF]; try omega) s_cl hb (K := K) (E := E) (g := g)
      have hw := fun {K : KF} {E g} => wanted_behind_run .y (K := K) (E := E) (g := g)
      simp [Fm.word, Fm.rest] at hw
      simp only [mk_cs] at h1
      simp [h0, h1, h2, notIn_rol, o2_in_rol, ifK, hw, rng0_, rng1_, rng2_, rng3_, runL_cons, runL_nil, dF]
    · obtain ⟨p1, e1⟩ := ex_eq (((pre ++ [40]) : List Nat).length : Int)
      obtain ⟨p2, e2⟩ := ex_eq (((pre ++ [40] ++ cs (Str.ofString "read")) : List Nat).length : Int)
      obtain ⟨p3, e3⟩ := ex_eq (((pre ++ [40] ++ cs (Str.ofString "read") ++ [32]) : List Nat).length : Int)
      obtain ⟨p4, e4⟩ := ex_eq (((pre ++ [40] ++ cs (Str.ofString "read") ++ [32] ++ cs s) : List Nat).length : Int)
      obtain ⟨p5, e5⟩ := ex_eq (((pre ++ [40] ++ cs (Str.ofString "read") ++ [32] ++ cs s ++ [32]) : List Nat).length : Int)
      obtain ⟨p6, e6⟩ := ex_eq (((pre ++ [40] ++ cs (Str.ofString "read") ++ [32] ++ cs s ++ [32] ++ numZ p) : List Nat).length : Int)
      obtain ⟨p7, e7⟩ := ex_eq (((pre ++ [40] ++ cs (Str.ofString "read") ++ [32] ++ cs s ++ [32] ++ numZ p ++ [32]) : List Nat).length : Int)
      obtain ⟨p8, e8⟩ := ex_eq (((pre ++ [40] ++ cs (Str.ofString "read") ++ [32] ++ cs s ++ [32] ++ numZ p ++ [32] ++ numZ q) : List Nat).length : Int)
      have os := o.1.cs_len
      have op : Ok1 p := .inr o.2.1
      have oq : Ok1 q := .inr o.2.2
      have opl := op.len
      have oql := oq.len
      have hv1 := fun {K : KF} {E g} => plain_word_run (row := row) o.1 (K := K) (E := E) (g := g)
      have hv2 := fun {K : KF} {E g} => plain_step_run (row := row) (i := 1) o.2.1 (by decide) (K := K) (E := E) (g := g)
      have hv3 := fun {K : KF} {E g} => plain_step_run (row := row) (i := 2) o.2.2 (by decide) (K := K) (E := E) (g := g)
      have h0 := fun {K : KF} {E g} => behind_sign_run (row := row) (txt := txt) (pre := pre) (c := 40) (i := i) (j := p1) (by rw [ht]; simp [shF]; try rfl) hi (by rw [e1]; simp; try omega) s_op hb (K := K) (E := E) (g := g)
      have h1 := fun {K : KF} {E g} => part_at_run (txt := txt) (pre := pre ++ [40]) (w := cs (Str.ofString "read")) (c := 32) (i := p1) (j := p2) (by rw [ht]; simp [shF]; try rfl) e1 (by rw [e2]; simp; try omega) (by simp) hb (by simp) (by simp) (K := K) (E := E) (g := g)
      have h2 := fun {K : KF} {E g} => behind_sign_run (row := row) (txt := txt) (pre := pre ++ [40] ++ cs (Str.ofString "read")) (c := 32) (i := p2) (j := p3) (by rw [ht]; simp [shF]; try rfl) e2 (by rw [e3]; simp; try omega) s_bl hb (K := K) (E := E) (g := g)
      have h3 := fun {K : KF} {E g} => part_at_run (txt := txt) (pre := pre ++ [40] ++ cs (Str.ofString "read") ++ [32]) (w := cs s) (c := 32) (i := p3) (j := p4) (by rw [ht]; simp [shF]; try rfl) e3 (by rw [e4]; simp; try omega) (by simp) hb (nm_free2 o.1) (by omega) (K := K) (E := E) (g := g)
      have h4 := fun {K : KF} {E g} => behind_sign_run (row := row) (txt := txt) (pre := pre ++ [40] ++ cs (Str.ofString "read") ++ [32] ++ cs s) (c := 32) (i := p4) (j := p5) (by rw [ht]; simp [shF]; try rfl) e4 (by rw [e5]; simp; try omega) s_bl hb (K := K) (E := E) (g := g)
      have h5 := fun {K : KF} {E g} => part_at_run (txt := txt) (pre := pre ++ [40] ++ cs (Str.ofString "read") ++ [32] ++ cs s ++ [32]) (w := numZ p) (c := 32) (i := p5) (j := p6) (by rw [ht]; simp [shF]; try rfl) e5 (by rw [e6]; simp; try omega) (by simp) hb (numZ_free op) (by omega) (K := K) (E := E) (g := g)
      have h6 := fun {K : KF} {E g} => behind_sign_run (row := row) (txt := txt) (pre := pre ++ [40] ++ cs (Str.ofString "read") ++ [32] ++ cs s ++ [32] ++ numZ p) (c := 32) (i := p6) (j := p7) (by rw [ht]; simp [shF]; try rfl) e6 (by rw [e7]; simp; try omega) s_bl hb (K := K) (E := E) (g := g)
      have h7 := fun {K : KF} {E g} => part_at_run (txt := txt) (pre := pre ++ [40] ++ cs (Str.ofString "read") ++ [32] ++ cs s ++ [32] ++ numZ p ++ [32]) (w := numZ q) (c := 41) (i := p7) (j := p8) (by rw [ht]; simp [shF]; try rfl) e7 (by rw [e8]; simp; try omega) (by simp) hb (numZ_free oq) (by omega) (K := K) (E := E) (g := g)
      have h8 := fun {K : KF} {E g} => behind_sign_run (row := row) (txt := txt) (pre := pre ++ [40] ++ cs (Str.ofString "read") ++ [32] ++ cs s ++ [32] ++ numZ p ++ [32] ++ numZ q) (c := 41) (i := p8) (j := j) (by rw [ht]; simp [shF]; try rfl) e8 (by rw [hj]; simp [shF]; try omega) s_cl hb (K := K) (E := E) (g := g)
      have hw := fun {K : KF} {E g} => wanted_behind_run (.read s p q) (K := K) (E := E) (g := g)
      simp [Fm.word, Fm.rest] at hw
      simp only [mk_cs] at h1 h3
      simp [h0, h1, h2, h3, h4, h5, h6, h7, h8, notIn_rol, o2_in_rol, ifK, hw, rng0_, rng1_, rng2_, rng3_, runL_cons, runL_nil, dF, hv1, hv2, hv3]
    · obtain ⟨p1, e1⟩ := ex_eq (((pre ++ [40]) : List Nat).length : Int)
      obtain ⟨p2, e2⟩ := ex_eq (((pre ++ [40] ++ cs w.s) : List Nat).length : Int)
      obtain ⟨p3, e3⟩ := ex_eq (((pre ++ [40] ++ cs w.s ++ [32]) : List Nat).length : Int)
      obtain ⟨p4, e4⟩ := ex_eq (((pre ++ [40] ++ cs w.s ++ [32] ++ shF a) : List Nat).length : Int)
      obtain ⟨p5, e5⟩ := ex_eq (((pre ++ [40] ++ cs w.s ++ [32] ++ shF a ++ [32]) : List Nat).length : Int)
      obtain ⟨p6, e6⟩ := ex_eq (((pre ++ [40] ++ cs w.s ++ [32] ++ shF a ++ [32] ++ shF b) : List Nat).length : Int)
      simp [Fm.ht] at h
      have h0 := fun {K : KF} {E g} => behind_sign_run (row := row) (txt := txt) (pre := pre) (c := 40) (i := i) (j := p1) (by rw [ht]; simp [shF]; try rfl) hi (by rw [e1]; simp; try omega) s_op hb (K := K) (E := E) (g := g)
      have h1 := fun {K : KF} {E g} => part_at_run (txt := txt) (pre := pre ++ [40]) (w := cs w.s) (c := 32) (i := p1) (j := p2) (by rw [ht]; simp [shF]; try rfl) e1 (by rw [e2]; simp; try omega) (by simp) hb (w2_free w) (by have := cs_w2 w; omega) (K := K) (E := E) (g := g)
      have h2 := fun {K : KF} {E g} => behind_sign_run (row := row) (txt := txt) (pre := pre ++ [40] ++ cs w.s) (c := 32) (i := p2) (j := p3) (by rw [ht]; simp [shF]; try rfl) e2 (by rw [e3]; simp; try omega) s_bl hb (K := K) (E := E) (g := g)
      have h3 := fun {K : KF} {E g} => formula_at_run n a (by omega) o.1 (txt := txt) (pre := pre ++ [40] ++ cs w.s ++ [32]) (i := p3) (j := p4) (row := row) (by rw [ht]; simp [shF]; try rfl) e3 (by rw [e4]; simp; try omega) hb (K := K) (E := E) (g := g)
      have h4 := fun {K : KF} {E g} => behind_sign_run (row := row) (txt := txt) (pre := pre ++ [40] ++ cs w.s ++ [32] ++ shF a) (c := 32) (i := p4) (j := p5) (by rw [ht]; simp [shF]; try rfl) e4 (by rw [e5]; simp; try omega) s_bl hb (K := K) (E := E) (g := g)
      have h5 := fun {K : KF} {E g} => formula_at_run n b (by omega) o.2 (txt := txt) (pre := pre ++ [40] ++ cs w.s ++ [32] ++ shF a ++ [32]) (i := p5) (j := p6) (row := row) (by rw [ht]; simp [shF]; try rfl) e5 (by rw [e6]; simp; try omega) hb (K := K) (E := E) (g := g)
      have h6 := fun {K : KF} {E g} => behind_sign_run (row := row) (txt := txt) (pre := pre ++ [40] ++ cs w.s ++ [32] ++ shF a ++ [32] ++ shF b) (c := 41) (i := p6) (j := j) (by rw [ht]; simp [shF]; try rfl) e6 (by rw [hj]; simp [shF]; try omega) s_cl hb (K := K) (E := E) (g := g)
      have hw := fun {K : KF} {E g} => wanted_behind_run (.bin w a b) (K := K) (E := E) (g := g)
      simp [Fm.word, Fm.rest] at hw
      simp only [mk_cs] at h1
      cases w <;> (simp [W2.s, Fm.word, Fm.rest] at h1 hw; simp [h0, h1, h2, h3, h4, h5, h6, notIn_rol, o2_in_rol, ifK, hw, rng0_, rng1_, rng2_, rng3_, runL_cons, runL_nil, dF, W2.s])
    · obtain ⟨p1, e1⟩ := ex_eq (((pre ++ [40]) : List Nat).length : Int)
      obtain ⟨p2, e2⟩ := ex_eq (((pre ++ [40] ++ cs (Str.ofString "pick")) : List Nat).length : Int)
      obtain ⟨p3, e3⟩ := ex_eq (((pre ++ [40] ++ cs (Str.ofString "pick") ++ [32]) : List Nat).length : Int)
      obtain ⟨p4, e4⟩ := ex_eq (((pre ++ [40] ++ cs (Str.ofString "pick") ++ [32] ++ shF a) : List Nat).length : Int)
      obtain ⟨p5, e5⟩ := ex_eq (((pre ++ [40] ++ cs (Str.ofString "pick") ++ [32] ++ shF a ++ [32]) : List Nat).length : Int)
      obtain ⟨p6, e6⟩ := ex_eq (((pre ++ [40] ++ cs (Str.ofString "pick") ++ [32] ++ shF a ++ [32] ++ shF b) : List Nat).length : Int)
      obtain ⟨p7, e7⟩ := ex_eq (((pre ++ [40] ++ cs (Str.ofString "pick") ++ [32] ++ shF a ++ [32] ++ shF b ++ [32]) : List Nat).length : Int)
      obtain ⟨p8, e8⟩ := ex_eq (((pre ++ [40] ++ cs (Str.ofString "pick") ++ [32] ++ shF a ++ [32] ++ shF b ++ [32] ++ shF c) : List Nat).length : Int)
      simp [Fm.ht] at h
      have h0 := fun {K : KF} {E g} => behind_sign_run (row := row) (txt := txt) (pre := pre) (c := 40) (i := i) (j := p1) (by rw [ht]; simp [shF]; try rfl) hi (by rw [e1]; simp; try omega) s_op hb (K := K) (E := E) (g := g)
      have h1 := fun {K : KF} {E g} => part_at_run (txt := txt) (pre := pre ++ [40]) (w := cs (Str.ofString "pick")) (c := 32) (i := p1) (j := p2) (by rw [ht]; simp [shF]; try rfl) e1 (by rw [e2]; simp; try omega) (by simp) hb (by simp) (by simp) (K := K) (E := E) (g := g)
      have h2 := fun {K : KF} {E g} => behind_sign_run (row := row) (txt := txt) (pre := pre ++ [40] ++ cs (Str.ofString "pick")) (c := 32) (i := p2) (j := p3) (by rw [ht]; simp [shF]; try rfl) e2 (by rw [e3]; simp; try omega) s_bl hb (K := K) (E := E) (g := g)
      have h3 := fun {K : KF} {E g} => formula_at_run n a (by omega) o.1 (txt := txt) (pre := pre ++ [40] ++ cs (Str.ofString "pick") ++ [32]) (i := p3) (j := p4) (row := row) (by rw [ht]; simp [shF]; try rfl) e3 (by rw [e4]; simp; try omega) hb (K := K) (E := E) (g := g)
      have h4 := fun {K : KF} {E g} => behind_sign_run (row := row) (txt := txt) (pre := pre ++ [40] ++ cs (Str.ofString "pick") ++ [32] ++ shF a) (c := 32) (i := p4) (j := p5) (by rw [ht]; simp [shF]; try rfl) e4 (by rw [e5]; simp; try omega) s_bl hb (K := K) (E := E) (g := g)
      have h5 := fun {K : KF} {E g} => formula_at_run n b (by omega) o.2.1 (txt := txt) (pre := pre ++ [40] ++ cs (Str.ofString "pick") ++ [32] ++ shF a ++ [32]) (i := p5) (j := p6) (row := row) (by rw [ht]; simp [shF]; try rfl) e5 (by rw [e6]; simp; try omega) hb (K := K) (E := E) (g := g)
      have h6 := fun {K : KF} {E g} => behind_sign_run (row := row) (txt := txt) (pre := pre ++ [40] ++ cs (Str.ofString "pick") ++ [32] ++ shF a ++ [32] ++ shF b) (c := 32) (i := p6) (j := p7) (by rw [ht]; simp [shF]; try rfl) e6 (by rw [e7]; simp; try omega) s_bl hb (K := K) (E := E) (g := g)
      have h7 := fun {K : KF} {E g} => formula_at_run n c (by omega) o.2.2 (txt := txt) (pre := pre ++ [40] ++ cs (Str.ofString "pick") ++ [32] ++ shF a ++ [32] ++ shF b ++ [32]) (i := p7) (j := p8) (row := row) (by rw [ht]; simp [shF]; try rfl) e7 (by rw [e8]; simp; try omega) hb (K := K) (E := E) (g := g)
      have h8 := fun {K : KF} {E g} => behind_sign_run (row := row) (txt := txt) (pre := pre ++ [40] ++ cs (Str.ofString "pick") ++ [32] ++ shF a ++ [32] ++ shF b ++ [32] ++ shF c) (c := 41) (i := p8) (j := j) (by rw [ht]; simp [shF]; try rfl) e8 (by rw [hj]; simp [shF]; try omega) s_cl hb (K := K) (E := E) (g := g)
      have hw := fun {K : KF} {E g} => wanted_behind_run (.pick a b c) (K := K) (E := E) (g := g)
      simp [Fm.word, Fm.rest] at hw
      simp only [mk_cs] at h1
      simp [h0, h1, h2, h3, h4, h5, h6, h7, h8, notIn_rol, o2_in_rol, ifK, hw, rng0_, rng1_, rng2_, rng3_, runL_cons, runL_nil, dF]
end G
set_option Elab.async false
set_option linter.all false
set_option maxRecDepth 100000
set_option maxHeartbeats 1000000
namespace G
open PySem PySem.Builtin.Int
theorem op_splitB {a : List Nat} {c : Nat} {s : Str} {parts : List (List Nat)} (hs : s = mkS [c]) (hc : c < 256) (ha : a = TL.joinL [c] parts) (hp : parts ≠ []) (hf : ∀ p ∈ parts, c ∉ p) (hb : a.length + 2 ≤ 16777216) {k : T → Prop} : opSK fSplit (mkS a) (.str s) k = k (.lst (ims (dRw1 parts))) := by
  subst hs
  subst ha
  have e1 := SX.split_S (a := TL.joinL [c] parts) (b := [c]) (by simp) (by simp [hc])
  rw [SX.spl_join (sep := []) hp hf] at e1
  have e1' : Txt.split (mkS (TL.joinL [c] parts)) (mkS [c]) = parts.map mkS := e1
  unfold opSK fSplit
  dsimp only
  rw [if_pos ⟨rfl, by rw [line_eq, mkS_len]; exact hb⟩, e1']
  simp [strL, dRw1]
  rfl
theorem op_partB {a b p q : List Nat} {s : Str} (hs : s = mkS b) (hn : b ≠ []) (ha : a = p ++ (b ++ q)) (hf : SX.free b p = true) (hb : a.length ≤ 16777216) {k : T → Prop} : opSK fPart (mkS a) (.str s) k = k (.imm (.tup [.str (mkS p), .str (mkS b), .str (mkS q)])) := by
  subst hs
  subst ha
  have e1 := SX.partition_some hn (SX.par_free q hn hf)
  have e1' : Txt.partition (mkS (p ++ (b ++ q))) (mkS b) = (mkS p, mkS b, mkS q) := e1
  have hl : ((mkS b).length == 0) = false := by
    rw [mkS_len]
    cases b with
    | nil => exact absurd rfl hn
    | cons c b => rfl
  unfold opSK fPart
  dsimp only
  rw [if_pos ⟨hl, by rw [line_eq, mkS_len]; exact hb⟩, e1']
  simp
theorem free_eqs {l : List Nat} (h : ∀ x ∈ l, 97 ≤ x ∧ x ≤ 122) : SX.free [32, 61, 32] l = true := SX.free_head fun m => by have := h _ m; omega
theorem free_cons {c : Nat} {l : List Nat} (h1 : SX.free [32, 61, 32] l = true) (h2 : TL.pre [32, 61, 32] (c :: (l ++ [32, 61, 32])) = false) : SX.free [32, 61, 32] (c :: l) = true := by
  show (!(TL.pre [32, 61, 32] (c :: (l ++ [32, 61, 32]))) && SX.free [32, 61, 32] l) = true
  rw [h1, h2]; rfl
theorem Nm.low {s : Str} (h : Nm s) : ∀ x ∈ cs s, 97 ≤ x ∧ x ≤ 122 := by
  obtain ⟨l, rfl, _, h2⟩ := h
  exact h2
theorem free_stage {s : Str} (h : Nm s) : SX.free [32, 61, 32] ([115, 116, 97, 103, 101, 32] ++ cs s) = true := by
  have h1 := h.low
  have h2 := h.cs_len.1
  cases e : cs s with
  | nil => rw [e] at h2; simp at h2
  | cons c r =>
    rw [e] at h1
    have hc := h1 c (by simp)
    have f0 : SX.free [32, 61, 32] (c :: r) = true := free_eqs h1
    refine free_cons (free_cons (free_cons (free_cons (free_cons (free_cons f0 ?_) ?_) ?_) ?_) ?_) ?_ <;> simp [TL.pre]
    omega
theorem stage_of_run {g : Stg} {row : Int} (h1 : Nm g.s) (h2 : g.f.ok Nm) (h3 : g.f.ht ≤ 12) (hb : (sgP g).length ≤ 200000) {K : KF} {E g'} : RunF s_f_stage_of [.imm (.str (mkS (sgP g))), .imm (.int row)] K E g' = K (.imm (dStg g)) [none, none] := by
  refine Sp.eqn ?_
  rw [s_f_stage_of, sp_def (by rfl) (by decide), s_f_stage_of_u0]
  have hp := fun {k : T → Prop} => op_partB (a := sgP g) (b := [32, 61, 32]) (p := [115, 116, 97, 103, 101, 32] ++ cs g.s) (q := shF g.f) (s := Str.ofString " = ") (by decide +kernel) (by simp) (by simp [sgP]) (free_stage h1) (by omega) (k := k)
  have hl := h1.cs_len.2
  have hs := fun {k : T → Prop} => op_splitB (a := [115, 116, 97, 103, 101, 32] ++ cs g.s) (c := 32) (s := Str.ofString " ") (parts := [cs (Str.ofString "stage"), cs g.s]) s_bl (by decide) (by simp [TL.joinL]) (by simp) (by
    intro p hp
    simp at hp
    rcases hp with rfl | rfl
    · simp
    · exact fun m => (nm_free2 h1 _ m).1 rfl) (by simp; omega) (k := k)
  have hf := fun {K : KF} {E g'} => formula_at_run 12 g.f h3 h2 (txt := shF g.f) (pre := []) (post := []) (i := 0) (j := (shF g.f).length) (row := row) (by simp) (by simp) (by simp) (by simp [sgP] at hb; omega) (K := K) (E := E) (g := g')
  have hbf : (shF g.f).length ≤ 16777216 := by simp [sgP] at hb; omega
  have hw := fun {K : KF} {E g'} => word_of_run (row := row) h1 (K := K) (E := E) (g := g')
  have hne : ¬ mkS [32, 61, 32] = Str.ofString "" := by decide +kernel
  simp [hp]
  rw [s_f_stage_of_u1]
  have hs' : ∀ {k : T → Prop}, opSK fSplit (mkS (115 :: 116 :: 97 :: 103 :: 101 :: 32 :: cs g.s)) (.str (Str.ofString " ")) k = k (.lst (ims [.str (Str.ofString "stage"), .str g.s])) := hs
  simp [hs']
  rw [s_f_stage_of_u2]
  simp [hne, ifK]
  rw [s_f_stage_of_u3]
  simp [hf]
  rw [s_f_stage_of_u4]
  simp [len_big hbf, s_f_stage_of_t5, hw, dStg, ifK]
end G
set_option Elab.async false
set_option linter.all false
set_option maxRecDepth 100000
set_option maxHeartbeats 1000000
namespace G
open PySem PySem.Builtin.Int
theorem picture_of_run {p : Pic} {row : Int} (h1 : Nm p.s) (hw : 0 ≤ p.w ∧ p.w < 10 ^ 60) (hh : 0 ≤ p.h ∧ p.h < 10 ^ 60) (hr : 0 ≤ p.r ∧ p.r < 10 ^ 60) {K : KF} {E g'} : RunF s_f_picture_of [.imm (.str (mkS (prP p))), .imm (.int row)] K E g' = K (.imm (dPic p)) [none, none] := by
  refine Sp.eqn ?_
  rw [s_f_picture_of, sp_def (by rfl) (by decide), s_f_picture_of_u0]
  have o1 : Ok1 p.w := .inl (by omega)
  have o2 : Ok1 p.h := .inl (by omega)
  have o3 : Ok1 p.r := .inl (by omega)
  have l1 := o1.len
  have l2 := o2.len
  have l3 := o3.len
  have hl := h1.cs_len.2
  have hs := fun {k : T → Prop} => op_splitB (a := prP p) (c := 32) (s := Str.ofString " ") (parts := [cs (Str.ofString "picture"), cs p.s, numZ p.w, numZ p.h, numZ p.r]) s_bl (by decide) (by simp [TL.joinL, prP]) (by simp) (by
    intro x hx
    simp at hx
    rcases hx with rfl | rfl | rfl | rfl | rfl
    · simp
    · exact fun m => (nm_free2 h1 _ m).1 rfl
    · exact fun m => (numZ_free o1 _ m).1 rfl
    · exact fun m => (numZ_free o2 _ m).1 rfl
    · exact fun m => (numZ_free o3 _ m).1 rfl) (by simp [prP]; omega) (k := k)
  have hs' : ∀ {k : T → Prop}, opSK fSplit (mkS (prP p)) (.str (Str.ofString " ")) k = k (.lst (ims [.str (Str.ofString "picture"), .str p.s, .str (mkS (numZ p.w)), .str (mkS (numZ p.h)), .str (mkS (numZ p.r))])) := hs
  have hwd := fun {K : KF} {E g'} => word_of_run (row := row) h1 (K := K) (E := E) (g := g')
  simp [hs']
  rw [s_f_picture_of_u1]
  simp [ifK]
  rw [s_f_picture_of_u2]
  simp [cutL, cutAt]
  refine RunLC.mapM (α := Int) (fun z => D.str (mkS (numZ z))) (fun z => .imm (.int z)) (L := [p.w, p.h, p.r]) ?_ (by simp [line_eq]) ?_
  · intro z hz
    have : 0 ≤ z ∧ z < 10 ^ 60 := by
      simp at hz
      rcases hz with rfl | rfl | rfl
      · exact hw
      · exact hh
      · exact hr
    have hn := fun {K : KF} {E g'} => number_of_run (row := row) this.1 (show z < 10 ^ 61 by have := this.2; omega) (K := K) (E := E) (g := g')
    simp [hn]
    rfl
  · rw [s_f_picture_of_t3]
    simp [hwd, dPic]
theorem num_no10 {z : Int} (hz : Ok1 z) : 10 ∉ numZ z := fun m => by
  unfold numZ at m
  split at m
  · rcases List.mem_cons.mp m with e | m
    · cases e
    · have := TL.numL_digits _ _ m; omega
  · have := TL.numL_digits _ _ m; omega
theorem nm_no10 {s : Str} (h : Nm s) : 10 ∉ cs s := fun m => by have := h.low _ m; omega
theorem w2_no10 (w : W2) : 10 ∉ cs w.s := by cases w <;> decide +kernel
theorem shF_no10 : ∀ (f : Fm), f.ok Nm → 10 ∉ shF f
  | .num z, h => by
    have := num_no10 (z := z) (.inl (by have := h.1; have := h.2; omega))
    simp [shF, this]
  | .x, _ => by simp [shF]
  | .y, _ => by simp [shF]
  | .read s p q, h => by
    have h1 := nm_no10 h.1
    have h2 := num_no10 (z := p) (.inr h.2.1)
    have h3 := num_no10 (z := q) (.inr h.2.2)
    simp [shF, h1, h2, h3]
  | .bin w a b, h => by
    have h1 := shF_no10 a h.1
    have h2 := shF_no10 b h.2
    have h3 := w2_no10 w
    simp [shF, h1, h2, h3]
  | .pick a b c, h => by
    have h1 := shF_no10 a h.1
    have h2 := shF_no10 b h.2.1
    have h3 := shF_no10 c h.2.2
    simp [shF, h1, h2, h3]
theorem okn_stg {W : Wk} (h : W.OK) {g : Stg} (hg : g ∈ W.gs) : Nm g.s ∧ g.f.ok Nm := by
  have gk := h.gs.nm g hg
  refine ⟨gk.1, ?_⟩
  obtain ⟨pre, post, e⟩ := List.append_of_mem hg
  have hok := h.gs
  rw [e] at hok
  refine (StgsOK.fm hok).mono fun s hs => ?_
  rcases List.mem_append.mp hs with m | m
  · obtain ⟨p, hp, rfl⟩ := List.mem_map.mp m
    exact (h.ps.nm p hp).1
  · obtain ⟨p, hp, rfl⟩ := List.mem_map.mp m
    exact (h.gs.nm p (by rw [e]; simp [hp])).1
theorem ok_row {W : Wk} (h : W.OK) : ∀ l ∈ rowsW W, 10 ∉ l := by
  intro l hl
  rcases List.mem_cons.mp hl with rfl | hl
  · have := num_no10 (ok_ms h)
    simp [msW, this]
  · rcases List.mem_append.mp hl with hl | hl
    · obtain ⟨p, hp, rfl⟩ := List.mem_map.mp hl
      obtain ⟨h1, h2, h3, h4⟩ := ok_pic h hp
      have a1 := nm_no10 (h.ps.nm p hp).1
      have a2 := num_no10 h2
      have a3 := num_no10 h3
      have a4 := num_no10 h4
      simp [prP, a1, a2, a3, a4]
    · obtain ⟨g, hg, rfl⟩ := List.mem_map.mp hl
      have hh := okn_stg h hg
      have a1 := nm_no10 hh.1
      have a2 := shF_no10 g.f hh.2
      simp [sgP, a1, a2]
theorem join_len {a : List Nat} (l : List (List Nat)) : (TL.joinL a l).length ≤ (l.map (·.length)).sum + l.length * a.length := by
  induction l with
  | nil => simp [TL.joinL]
  | cons x l ih =>
    cases l with
    | nil => simp [TL.joinL]
    | cons y l =>
      have e : TL.joinL a (x :: y :: l) = x ++ (a ++ TL.joinL a (y :: l)) := rfl
      rw [e]
      simp only [List.length_append, List.map_cons, List.sum_cons, List.length_cons] at ih ⊢
      have : (l.length + 1 + 1) * a.length = (l.length + 1) * a.length + a.length := Nat.succ_mul _ _
      omega
theorem shW_len {W : Wk} (h : W.OK) : (shW W).length ≤ 1400000 := by
  have h1 := sumL_le (rowsW_len h)
  have h2 := rows_num h
  have := join_len (a := [10]) (rowsW W)
  unfold shW
  simp at this
  have : 100100 * (rowsW W).length ≤ 100100 * 13 := Nat.mul_le_mul_left _ h2
  omega
theorem flat_stgs {l : List Stg} (h : ∀ g ∈ l, Nm g.s ∧ g.f.ok Nm ∧ g.f.ht ≤ 12) : D.flat 40 (.lst (l.map dStg)) = true := by
  show (l.map dStg).all (D.flat 39) = true
  rw [List.all_eq_true]
  intro d hd
  obtain ⟨g, hg, rfl⟩ := List.mem_map.mp hd
  have := h g hg
  have h1 := this.1.fl 38
  have h2 := flat_dF flt_Nm g.f 38 this.2.1 (by omega)
  show (D.flat 38 (.str g.s) && (D.flat 38 (dF g.f) && true)) = true
  rw [h1, h2]; rfl
theorem works_read_run {W : Wk} (h : W.OK) {K : KF} {E g'} : RunF s_f_works_read [.imm (.str (mkS (shW W)))] K E g' = K (tW W) [none] := by
  refine Sp.eqn ?_
  rw [s_f_works_read, sp_def (by rfl) (by decide), s_f_works_read_u0]
  have hl := shW_len h
  have hs := fun {k : T → Prop} => op_splitB (a := shW W) (c := 10) (s := Str.ofString "\n") (parts := rowsW W) (by decide +kernel) (by decide) rfl (by simp [rowsW]) (ok_row h) (by omega) (k := k)
  have om := ok_ms h
  have lm := om.len
  have hs2 := fun {k : T → Prop} => op_splitB (a := msW W.m) (c := 32) (s := Str.ofString " ") (parts := [cs (Str.ofString "measure"), numZ W.m]) s_bl (by decide) (by simp [TL.joinL, msW]) (by simp) (by
    intro x hx
    simp at hx
    rcases hx with rfl | rfl
    · simp
    · exact fun m => (numZ_free om _ m).1 rfl) (by simp [msW]; omega) (k := k)
  have hs2' : ∀ {k : T → Prop}, opSK fSplit (mkS (msW W.m)) (.str (Str.ofString " ")) k = k (.lst (ims [.str (Str.ofString "measure"), .str (mkS (numZ W.m))])) := hs2
  have hmm := h.m
  have hn := fun {K : KF} {E g'} => number_of_run (row := 0) (z := W.m) (by omega) (by omega) (K := K) (E := E) (g := g')
  simp [hs]
  rw [s_f_works_read_u1]
  have hix : (dRw1 (rowsW W))[0]? = some (.str (mkS (msW W.m))) := rfl
  simp [hix, hs2']
  rw [s_f_works_read_u2]
  simp [ifK]
  rw [s_f_works_read_u3]
  simp [hn]
  rw [s_f_works_read_u4]
  simp
  rw [s_f_works_read_u5]
  simp
  rw [s_f_works_read_u6]
  have he : enumD 0 (dRw1 (rowsW W)) = .tup [.int 0, .str (mkS (msW W.m))] :: enumD 1 (dRw1 (W.ps.map prP ++ W.gs.map sgP)) := rfl
  simp [he, runL_cons]
  refine RunL.inv (fun ds st => ∃ (n : Nat) (pp pl : List Pic) (sp sl : List Stg) (a2 a6 a7 : Option T), 1 ≤ n ∧ ds = enumD n (dRw1 (pl.map prP ++ sl.map sgP)) ∧ pp ++ pl = W.ps ∧ sp ++ sl = W.gs ∧ (sp = [] ∨ pl = []) ∧ st = [some (.imm (.str (mkS (shW W)))), some (.imm (.lst (dRw1 (rowsW W)))), some (.imm (.lst [.str (Str.ofString "measure"), .str (mkS (numZ W.m))])), some (.imm (.int W.m)), some (.lst (ims (pp.map dPic))), some (.lst (ims (sp.map dStg))), a6, a7]) ?_ ?_ _ _ _ ⟨1, [], W.ps, [], W.gs, none, _, _, by omega, rfl, rfl, rfl, .inl rfl, rfl⟩
  · rintro d r st ⟨n, pp, pl, sp, sl, a2, a6, a7, hn1, hd, hap, has, hor, rfl⟩
    have hn0 : (0 : Int) < n := by omega
    have hnp := h.np
    have hng := h.ng
    have hpl : pp.length ≤ 4 := by
      have := congrArg List.length hap
      simp at this; omega
    have hsl : sp.length ≤ 8 := by
      have := congrArg List.length has
      simp at this; omega
    cases pl with
    | cons p pl =>
      have hsp : sp = [] := by rcases hor with e | e; exact e; cases e
      subst hsp
      injection hd with hd1 hd2
      subst hd1
      have hp : p ∈ W.ps := by rw [← hap]; simp
      have hpn := h.ps.nm p hp
      have hst : (prP p).take 8 = cs (Str.ofString "picture ") := by simp [prP]
      have hpr := fun {K : KF} {E g'} => picture_of_run (p := p) (row := n) hpn.1 (by omega) (by omega) (by omega) (K := K) (E := E) (g' := g')
      have hn1' : 0 < n := hn1
      have hn2 : n ≠ 0 := by omega
      simp [frz1K_any, hn0, hn1', hn2, starts_run, hst, ifK, hpr]
      exact ⟨by omega, n + 1, by omega, pp ++ [p], pl, [], sl, hd2, by simpa using hap, has, .inl rfl, by simp [ims], rfl⟩
    | nil =>
      cases sl with
      | nil => cases hd
      | cons g sl =>
        injection hd with hd1 hd2
        subst hd1
        have hg : g ∈ W.gs := by rw [← has]; simp
        have hgn := okn_stg h hg
        have hgo := ok_stg h hg
        have hst : ¬ (sgP g).take 8 = cs (Str.ofString "picture ") := by simp [sgP]
        have hgl : (sgP g).length ≤ 200000 := by
          have := rowsW_len h (sgP g) (by simp only [rowsW, List.mem_cons, List.mem_append, List.mem_map]; exact .inr (.inr ⟨g, hg, rfl⟩))
          omega
        have hsr := fun {K : KF} {E g'} => stage_of_run (g := g) (row := n) hgn.1 hgn.2 hgo.2.2.1 hgl (K := K) (E := E) (g' := g')
        have hn1' : 0 < n := hn1
        have hn2 : n ≠ 0 := by omega
        have heq : ∃ b, ∀ {k : T → Prop}, op2K fEq (.lst (sp.map dStg)) (.lst []) k = k (.imm (.bl b)) := by
          cases hs : sp with
          | nil => exact ⟨true, by simp⟩
          | cons q sp' =>
            refine ⟨false, fun {k} => eq_cons_nil ?_⟩
            refine flat_stgs (l := q :: sp') fun z hz => ?_
            have hz' : z ∈ W.gs := by rw [← has, hs]; exact List.mem_append_left _ hz
            exact ⟨(okn_stg h hz').1, (okn_stg h hz').2, (ok_stg h hz').2.2.1⟩
        obtain ⟨b, heq⟩ := heq
        simp only [cs_b3] at hst
        simp [frz1K_any, hn0, hn1', hn2, starts_run, hst, ifK, hsr, heq]
        refine ⟨fun _ => ?_, fun _ => ?_⟩
        all_goals exact ⟨by omega, n + 1, by omega, pp, [], sp ++ [g], sl, hd2, hap, by simpa using has, .inr rfl, rfl, by simp [ims]⟩
  · rintro st ⟨n, pp, pl, sp, sl, a2, a6, a7, hn1, hd, hap, has, hor, rfl⟩
    cases pl with
    | cons p pl => cases hd
    | nil =>
      cases sl with
      | cons g sl => cases hd
      | nil =>
        simp at hap has
        subst hap
        subst has
        rw [s_f_works_read_t7]
        simp
        refine (works_init_run h).k ?_
        rintro _ _ ⟨rfl, rfl⟩
        simp
end G
set_option Elab.async false
set_option linter.all false
set_option maxRecDepth 100000
set_option maxHeartbeats 2000000
namespace G
open PySem PySem.Builtin.Int
theorem leaf_runL {nm : Nat → List Nat} {n : Nat} (hn : 1 ≤ n) (hn2 : n ≤ 1000) {L : List Int} {r : Nat} (hr : r ≤ 51) (hL : Rich r L) {z : Int} (h0 : 0 ≤ z) (h1 : z < 1000003) :
    Sp s_l_leaf [.lst (ims (dNs nm n)), .imm (.int z), .lst (ims (L.map D.int))] fun t ps => ∃ f M, f.of nm n ∧ f.ht = 1 ∧ f.size = 1 ∧ Rich r M ∧ t = .imm (dF f) ∧ ps = [none, none, some (.lst (ims (M.map D.int)))] := by
  rw [s_l_leaf, sp_def (by rfl) (by decide), s_l_leafB]
  simp
  have hlen : ((dNs nm n).length : Int) = n := by simp [dNs]
  have num : ∀ (K : KF) (E : EF) g, (∀ v, (0 ≤ v ∧ v < 10 ^ 60) → K (.imm (.int v)) [none]) → RunF s_l_number [.imm (.int (z / 8))] K E g := fun K E g h => (number_run (Bd.range (by omega) (by omega))).k fun t ps ⟨e, v, hv, e2⟩ => by rw [e, e2]; exact h v hv
  refine ifK.mk (fun e0 => ifK.mk (fun e1 => ifK.mk (fun e2 => ?loop) fun _ => ?num) fun _ => ?num2) fun e0 => ?rest
  case num =>
    simp [e0]
    refine num _ _ _ fun v hv => ?_
    simp
    exact ⟨.num v, hv, rfl, rfl, L, hL, rfl, rfl⟩
  case num2 =>
    simp [e0]
    refine num _ _ _ fun v hv => ?_
    simp
    exact ⟨.num v, hv, rfl, rfl, L, hL, rfl, rfl⟩
  case loop =>
    refine RunL.rng0 (fun j s => ∃ (v : Int) (M : List Int) (a5 a6 : Option T), s = [some (.lst (ims (dNs nm n))), some (.imm (.int z)), some (.lst (ims (M.map D.int))), some (.imm (.int (z % 8))), some (.imm (.int v)), a5, a6] ∧ 0 ≤ v ∧ Bd (30 * j + 1) v ∧ Rich (61 - j) M) ?_ ?_ ⟨0, L, _, _, rfl, by omega, Bd.lit (by decide), ⟨by omega, hL.2⟩⟩
    · rintro j s hj ⟨v, M, a5, a6, rfl, v0, vb, hM⟩
      have b1 := Bd.mulOk vb (j := 1000003) (n := 20) (Bd.lit (by decide +kernel)) (by omega)
      rw [mulLine_eq] at b1
      simp at b1
      simp [b1]
      refine popR (n := 60 - j) (by rw [show 60 - j + 1 = 61 - j by omega]; exact hM) fun M' y _ hM' y0 y1 => ?_
      simp
      refine ⟨_, _, ⟨rfl, rfl⟩, by omega, ?_, hM'⟩
      exact ((vb.mul (j := 1000003) (n := 20) (Bd.lit (by decide +kernel))).add (j := y) (n := 20) (Bd.range (by omega) (by omega))).mono (by omega)
    · rintro s ⟨v, M, a5, a6, rfl, v0, vb, hM⟩
      simp
      exact ⟨.num (v % 10 ^ 60), ⟨by omega, by omega⟩, rfl, rfl, M, ⟨by have := hM.1; omega, hM.2⟩, rfl, rfl⟩
  case rest =>
    simp [e0]
    refine ifK.mk (fun e1 => ?_) fun e1 => ⟨by simp [dNs]; omega, ?_⟩
    · have e : z % 8 - 1 = 0 ∨ z % 8 - 1 = 1 := by omega
      rcases e with e | e <;> rw [e] <;> simp
      · exact ⟨.x, trivial, rfl, rfl, L, hL, rfl, rfl⟩
      · exact ⟨.y, trivial, rfl, rfl, L, hL, rfl, rfl⟩
    · rw [hlen]
      have q0 := Int.emod_nonneg (z / 8) (b := (n : Int)) (by omega)
      have q1 := Int.emod_lt_of_pos (z / 8) (b := (n : Int)) (by omega)
      obtain ⟨k, hk, ek⟩ := name_at (nm := nm) (n := n) (i := -1 - z / 8 % (n : Int)) (by omega) (by omega)
      rw [ek]
      simp
      refine ifK.mk (fun e2 => ⟨by split <;> omega, ?_⟩) fun e2 => ?_
      · have hm : 0 < (if (n : Int) < 2 then (n : Int) else 2) ∧ (if (n : Int) < 2 then (n : Int) else 2) ≤ n := by split <;> omega
        generalize (if (n : Int) < 2 then (n : Int) else 2) = w at hm ⊢
        have q0 := Int.emod_nonneg (z / 8) (b := w) (by omega)
        have q1 := Int.emod_lt_of_pos (z / 8) (b := w) (by omega)
        obtain ⟨k, hk, ek⟩ := name_at (nm := nm) (n := n) (i := -1 - z / 8 % w) (by omega) (by omega)
        rw [ek]
        simp
        exact ⟨.read (mkS (nm k)) _ _, ⟨⟨k, hk, rfl⟩, by omega, by omega⟩, rfl, rfl, L, hL, rfl, rfl⟩
      · exact ⟨.read (mkS (nm k)) _ _, ⟨⟨k, hk, rfl⟩, by omega, by omega⟩, rfl, rfl, L, hL, rfl, rfl⟩
theorem grown_runL {nm : Nat → List Nat} {n : Nat} (hn : 1 ≤ n) (hn2 : n ≤ 1000) {L : List Int} (hL : Rich 51 L) :
    Sp s_l_grown [.lst (ims (dNs nm n)), .lst (ims (L.map D.int))] fun t ps => (∃ o, ps = [none, o]) ∧ ∃ f, f.of nm n ∧ f.ht ≤ 8 ∧ f.size ≤ 60 ∧ t = .imm (dF f) := by
  rw [s_l_grown, sp_def (by rfl) (by decide), s_l_grownB]
  have mono : ∀ {a b : Nat} {M : List Int}, a ≤ b → Rich b M → Rich a M := fun h q => ⟨Nat.le_trans h q.1, q.2⟩
  simp
  refine (formula_run hn hn2 3 12 (by omega) (r := 11) (by simp [nodes]) (by simpa [nodes] using hL) (.inl rfl)).k ?_
  rintro _ _ ⟨f0, M0, o0, t0, s0, hM0, rfl, rfl⟩
  simp
  refine popR (n := 10) hM0 fun M1 z1 _ hM1 z10 z11 => ?_
  simp
  refine ⟨by omega, ?_⟩
  obtain ⟨tn, htn, htn2⟩ : ∃ tn : Nat, (z1 % 5).toNat = tn ∧ tn ≤ 4 := ⟨_, rfl, by omega⟩
  rw [htn]
  refine RunL.rng0 (fun j s => ∃ (f : Fm) (M : List Int) (a3 a4 a5 a6 : Option T), s = [some (.imm (.lst (dNs nm n))), some (.lst (ims (M.map D.int))), some (.imm (dF f)), a3, a4, a5, a6] ∧ f.of nm n ∧ f.ht ≤ 4 + j ∧ f.size ≤ 40 + 2 * j ∧ Rich (10 - j) M) ?_ ?_ ⟨f0, M1, _, _, _, _, rfl, o0, by omega, by simp [nodes] at s0; omega, hM1⟩
  · rintro j s hj ⟨f, M, a3, a4, a5, a6, rfl, of1, ht, hs, hM⟩
    simp
    refine popR (n := 9 - j) (by rw [show 9 - j + 1 = 10 - j by omega]; exact hM) fun M2 z _ hM2 z0 z1 => ?_
    simp
    refine (leaf_run (nm := nm) hn hn2 (r := 9 - j) (by omega) hM2 (z := z / 10) (by omega) (by omega)).k ?_
    rintro _ _ ⟨g, M3, og, hg1, hg2, hM3, rfl, rfl⟩
    simp
    have hw : ∃ w2 : W2, atI [D.str (Str.ofString "sum"), .str (Str.ofString "less"), .str (Str.ofString "times"), .str (Str.ofString "least"), .str (Str.ofString "most")] (z % 5) = some (.str w2.s) := by
      have e : z % 5 = 0 ∨ z % 5 = 1 ∨ z % 5 = 2 ∨ z % 5 = 3 ∨ z % 5 = 4 := by omega
      rcases e with e | e | e | e | e <;> rw [e]
      · exact ⟨.sum, rfl⟩
      · exact ⟨.less, rfl⟩
      · exact ⟨.times, rfl⟩
      · exact ⟨.least, rfl⟩
      · exact ⟨.most, rfl⟩
    obtain ⟨w2, hw⟩ := hw
    rw [hw]
    simp
    have e : z / 5 % 2 = 0 ∨ z / 5 % 2 = 1 := by omega
    rcases e with e | e <;> rw [e] <;> simp
    · exact ⟨.bin w2 g f, M3, ⟨rfl, rfl⟩, ⟨og, of1⟩, by simp [Fm.ht]; omega, by simp [Fm.size]; omega, by simpa using hM3⟩
    · exact ⟨.bin w2 f g, M3, ⟨rfl, rfl⟩, ⟨of1, og⟩, by simp [Fm.ht]; omega, by simp [Fm.size]; omega, by simpa using hM3⟩
  · rintro s ⟨f, M, a3, a4, a5, a6, rfl, of1, ht, hs, hM⟩
    simp
    exact ⟨f, of1, by omega, by omega, rfl⟩
theorem stage5_body {ns : List Int} (hl : ns.length ≤ 63) {nm : Nat → List Nat} {N : Nat} (hN2 : N ≤ 900) {a k : Nat} (ha : 1 ≤ a) (hc : a + k < N) {o3 o6 o7 : Option T} {G : List Stg} (hGl : G.length ≤ 10)
    {K : Fl → St → Prop} {E : X → St → Prop}
    (hK : ∀ f a6, f.of nm (a + k) → f.ht ≤ 8 → f.size ≤ 60 → K .nx [some (.imm (script ns)), some (.imm (.int a)), some (.imm (.lst (dNs nm N))), o3, some (.lst (ims ((G ++ [(⟨mkS (nm (a + k)), f⟩ : Stg)]).map dStg))), some (.imm (.int k)), a6, some (.imm (dF f))]) :
    Run s_l_parts5_b4_t0 [some (.imm (script ns)), some (.imm (.int a)), some (.imm (.lst (dNs nm N))), o3, some (.lst (ims (G.map dStg))), some (.imm (.int k)), o6, o7] K E := by
  rw [s_l_parts5_b4_u0]
  simp
  refine (digits2_run ns (3 + k) 8 hl (by omega) (by omega) (by omega) (by omega)).k ?_
  rintro _ _ ⟨rfl, L, hL, rfl⟩
  have e1 : atI (dNs nm N) ((a : Int) + (k : Int)) = some (.str (mkS (nm (a + k)))) := atI_name (show a + k < N by omega)
  have e2 : cutL (dNs nm N) none (some ((a : Int) + (k : Int))) = dNs nm (a + k) := cut_names (show a + k ≤ N by omega)
  simp
  rw [s_l_parts5_b4_u1]
  simp [e2]
  refine popR (n := 51) (L := L) ⟨by have := hL.1; omega, hL.2⟩ fun M1 z1 _ hM1 z10 z11 => ?_
  simp [e2]
  refine (leaf_runL (nm := nm) (n := a + k) (by omega) (by omega) (r := 51) (by omega) hM1 (z := z1) (by omega) (by omega)).k ?_
  rintro _ _ ⟨f1, M2, of1, hf1, hf2, hM2, rfl, rfl⟩
  simp
  have fin : ∀ (f : Fm) a6, f.of nm (a + k) → f.ht ≤ 8 → f.size ≤ 60 → Run s_l_parts5_b4_t3 [some (.imm (script ns)), some (.imm (.int a)), some (.imm (.lst (dNs nm N))), o3, some (.lst (ims (G.map dStg))), some (.imm (.int k)), a6, some (.imm (dF f))] K E := by
    intro f a6 h1 h2 h3
    rw [s_l_parts5_b4_t3]
    simp [e1]
    refine ⟨by omega, ?_⟩
    have := hK f a6 h1 h2 h3
    simpa [ims, dStg] using this
  rw [s_l_parts5_b4_u2]
  simp [e2]
  refine ifK.mk (fun _ => ?_) fun _ => ?_
  · refine (grown_runL (nm := nm) (n := a + k) (by omega) (by omega) hM2).k ?_
    rintro _ _ ⟨⟨o, rfl⟩, f, h1, h2, h3, rfl⟩
    simp
    exact fin f _ h1 h2 h3
  · exact fin f1 _ of1 (by omega) (by omega)
theorem parts5_drawn {ns : List Int} (hb : ∀ z ∈ ns, intBits z ≤ 1048576) (hl : ns.length ≤ 63) : Sp s_l_parts5 [.imm (script ns)] fun t qs => qs = [none] ∧ ∃ W : Wk, W.OK ∧ t = .imm (dParts W) := by
  rw [s_l_parts5, sp_def (by rfl) (by decide), s_l_parts5_u0]
  simp
  refine (drawn_at_run hb 0 (by omega)).k ?_
  rintro _ _ ⟨rfl, d0, hd0, rfl⟩
  obtain ⟨p, hp, hp1⟩ : ∃ p : Nat, atI [D.int 1, .int 2, .int 1, .int 3, .int 2, .int 4] (d0 / 2 % 6) = some (.int (p : Int)) ∧ 1 ≤ p ∧ p ≤ 4 := by
    have e : d0 / 2 % 6 = 0 ∨ d0 / 2 % 6 = 1 ∨ d0 / 2 % 6 = 2 ∨ d0 / 2 % 6 = 3 ∨ d0 / 2 % 6 = 4 ∨ d0 / 2 % 6 = 5 := by omega
    rcases e with e | e | e | e | e | e <;> rw [e]
    · exact ⟨1, rfl, by omega, by omega⟩
    · exact ⟨2, rfl, by omega, by omega⟩
    · exact ⟨1, rfl, by omega, by omega⟩
    · exact ⟨3, rfl, by omega, by omega⟩
    · exact ⟨2, rfl, by omega, by omega⟩
    · exact ⟨4, rfl, by omega, by omega⟩
  simp [hp]
  rw [s_l_parts5_u1]
  simp
  refine (drawn_at_run hb 0 (by omega)).k ?_
  rintro _ _ ⟨rfl, d0', hd0', rfl⟩
  simp
  refine (names_run (hd0'.mono (by decide)) (p + 5) (by omega)).k ?_
  rintro _ _ ⟨rfl, nm, hnm, rfl⟩
  simp
  rw [s_l_parts5_u2]
  simp
  refine (pictures_drawn hb hl hnm (c := p) (by omega) (by omega)).k ?_
  rintro _ _ ⟨rfl, P, rfl, hP, hPn⟩
  simp
  rw [s_l_parts5_u3]
  simp
  rw [s_l_parts5_u4]
  simp
  refine (drawn_at_run hb 1 (by omega)).k ?_
  rintro _ _ ⟨rfl, d1, hd1, rfl⟩
  simp
  obtain ⟨q, hq, hq1⟩ : ∃ q : Nat, (1 + d1 / 2 % 5).toNat = q ∧ 1 ≤ q ∧ q ≤ 5 := ⟨_, rfl, by omega, by omega⟩
  rw [hq]
  have hPl : P.length = p := by
    have := congrArg List.length hPn
    simpa [pNs, nL] using this
  refine ⟨by omega, RunL.rng0 (fun k s => ∃ (G : List Stg) (a5 a6 a7 : Option T), s = [some (.imm (script ns)), some (.imm (.int p)), some (.imm (.lst (dNs nm (p + 5)))), some (.imm (.lst (P.map dPic))), some (.lst (ims (G.map dStg))), a5, a6, a7] ∧ StgsOK (nL nm 0 p) G ∧ gNs G = nL nm p k) ?_ ?_ ⟨[], _, _, _, rfl, trivial, rfl⟩⟩
  · rintro k s hk ⟨G, a5, a6, a7, rfl, hG, hGn⟩
    have hGl : G.length = k := by
      have := congrArg List.length hGn
      simpa [gNs, nL] using this
    simp
    refine stage5_body hl (by omega) (by omega) (by omega) (by omega) fun f a6 h1 h2 h3 => ?_
    refine ⟨G ++ [⟨mkS (nm (p + k)), f⟩], ⟨_, _, _, rfl⟩, hG.snoc ⟨hnm.nm (by omega), ?_⟩ ⟨?_, by dsimp only; omega, by dsimp only; omega⟩, ?_⟩
    · rw [hGn]
      have := nL_app (nm := nm) (a := 0) (n := p) (m := k)
      rw [Nat.zero_add] at this
      show mkS (nm (p + k)) ∉ _
      rw [this]; exact hnm.new (by omega)
    · rw [hGn]
      have := nL_app (nm := nm) (a := 0) (n := p) (m := k)
      rw [Nat.zero_add] at this
      rw [this]; exact of_names h1
    · rw [nL_succ, ← hGn]; simp [gNs]
  · rintro s ⟨G, a5, a6, a7, rfl, hG, hGn⟩
    have hGl : G.length = q := by
      have := congrArg List.length hGn
      simpa [gNs, nL] using this
    rw [s_l_parts5_t5]
    simp
    refine (drawn_at_run hb 1 (by omega)).k ?_
    rintro _ _ ⟨rfl, d1', hd1', rfl⟩
    simp
    refine (measure_run (hd1'.mono (by decide))).k ?_
    rintro _ _ ⟨rfl, m, hm, rfl⟩
    simp
    exact ⟨⟨m, P, G⟩, ⟨hm, by dsimp only; omega, by dsimp only; omega, hP, by dsimp only; rw [hPn]; exact hG⟩, rfl⟩
end G
set_option Elab.async false
set_option linter.all false
set_option maxRecDepth 100000
set_option maxHeartbeats 4000000
namespace G
open PySem PySem.Builtin.Int
theorem shape_run : ∀ (n : Nat) (f : Fm), f.ht ≤ n → ∀ {K : KF} {E g}, RunF (s_l_shape n) [.imm (dF f)] K E g = K (.imm (.bl true)) [none]
  | 0, f, h, _, _, _ => by have := ht_pos f; omega
  | n + 1, f, h, K, E, g => by
    refine Sp.eqn ?_
    rw [show s_l_shape (n + 1) = sDef 1 2 [] (s_l_shapeB (s_l_shape n)) from rfl, sp_def (by rfl) (by decide), s_l_shapeB]
    have ht1 : ∀ {k : T → Prop}, op1K (fIsi .tup) (dF f) k = k (.imm (.bl true)) := by
      intro k; rw [dF_eq]; exact o1_isi' rfl
    simp [ix0_dF, ht1]
    rcases f with z | _ | _ | ⟨s, p, q⟩ | ⟨w, a, b⟩ | ⟨a, b, c⟩
    · simp [Fm.word, dF, o2_in_tup, cutL, cutAt, runLC_cons, runLC_nil, whole_int, ifK]
    · simp [Fm.word, dF, o2_in_tup, cutL, cutAt, runLC_cons, runLC_nil, ifK]
    · simp [Fm.word, dF, o2_in_tup, cutL, cutAt, runLC_cons, runLC_nil, ifK]
    · simp [Fm.word, dF, o2_in_tup, cutL, cutAt, runLC_cons, runLC_nil, whole_int, ifK]
    · simp [Fm.ht] at h
      have ia := fun {K : KF} {E g} => shape_run n a (by omega) (K := K) (E := E) (g := g)
      have ib := fun {K : KF} {E g} => shape_run n b (by omega) (K := K) (E := E) (g := g)
      cases w <;> simp [Fm.word, W2.s, dF, o2_in_tup, cutL, cutAt, runLC_cons, runLC_nil, ia, ib, ifK]
    · simp [Fm.ht] at h
      have ia := fun {K : KF} {E g} => shape_run n a (by omega) (K := K) (E := E) (g := g)
      have ib := fun {K : KF} {E g} => shape_run n b (by omega) (K := K) (E := E) (g := g)
      have ic := fun {K : KF} {E g} => shape_run n c (by omega) (K := K) (E := E) (g := g)
      simp [Fm.word, dF, o2_in_tup, cutL, cutAt, runLC_cons, runLC_nil, ia, ib, ic, ifK]
theorem pure_law (ns : List Int) (hl : ns.length ≤ 63) (hb : ∀ z ∈ ns, PySem.Builtin.Int.intBits z ≤ 1048576) : True' s_l_law28 ns := by
  refine won_law (by decide) ?_
  show Run s_l_law28B [some (.imm (script ns)), none, none, none, none, none, none, none, none, none, none] Won NoX
  rw [s_l_law28_u0]
  simp
  refine (parts5_drawn hb hl).k ?_
  rintro _ _ ⟨rfl, W, hW, rfl⟩
  simp
  rw [s_l_law28_u1]
  have e1 := fun {K : KF} {E g} => text2_run hW (K := K) (E := E) (g' := g)
  simp [e1]
  rw [s_l_law28_u2]
  simp [dParts]
  refine (works_init_run hW).k ?_
  rintro _ _ ⟨rfl, rfl⟩
  have e2 := fun {K : KF} {E g} => works_shown_run hW (.inr rfl) (K := K) (E := E) (g' := g)
  simp [e2]
  rw [s_l_law28_u3]
  simp [ifK]
  rw [s_l_law28_u4]
  have e3 := fun {K : KF} {E g} => works_read_run hW (K := K) (E := E) (g' := g)
  simp [e3]
  have etk : ∀ {k : D → Prop}, toK (tW W) k = k (dW W) := by
    intro k
    unfold toK
    rw [tW_toD]
  rw [etk]
  have em : ∀ {k : T → Prop}, op1K (fFld [0] (Str.ofString "measure")) (dW W) k = k (.imm (.int W.m)) := by
    intro k
    simp [dW]
  have ec : ∀ {k : T → Prop}, op1K (fIsC 0) (dW W) k = k (.imm (.bl true)) := by
    intro k
    simp [dW, op1K, fIsC, some1]
  rw [s_l_law28_u5]
  simp [em, ec, whole_int, ifK]
  rw [s_l_law28_u6]
  have hnp := hW.np
  have hng := hW.ng
  simp [pictures_run hnp.2]
  have hpn : ∀ p ∈ W.ps, Nm p.s := fun p hp => (hW.ps.nm p hp).1
  have hgn : ∀ g ∈ W.gs, Nm g.s := fun g hg => (okn_stg hW hg).1
  have hf1 : D.flat 40 (.lst (dSs (pNs W.ps))) = true := by
    show (dSs (pNs W.ps)).all (D.flat 39) = true
    rw [List.all_eq_true]
    intro d hd
    obtain ⟨s, hs, rfl⟩ := List.mem_map.mp hd
    obtain ⟨p, hp, rfl⟩ := List.mem_map.mp hs
    exact (hpn p hp).fl 39
  have hf2 : D.flat 40 (.lst (dSs (gNs W.gs))) = true := by
    show (dSs (gNs W.gs)).all (D.flat 39) = true
    rw [List.all_eq_true]
    intro d hd
    obtain ⟨s, hs, rfl⟩ := List.mem_map.mp hd
    obtain ⟨p, hp, rfl⟩ := List.mem_map.mp hs
    exact (hgn p hp).fl 39
  refine RunLC.mapM (α := Pic) dPic (fun p => .imm (.str p.s)) (L := W.ps) ?_ (by rw [line_eq]; omega) ?_
  · intro p hp
    simp [dPic]
    rfl
  have t1 : (W.ps.map fun p => T.imm (D.str p.s)) = ims (dSs (pNs W.ps)) := by simp [ims, dSs, pNs]
  have t2 : (W.gs.map fun p => T.imm (D.str p.s)) = ims (dSs (gNs W.gs)) := by simp [ims, dSs, gNs]
  rw [t1]
  simp [toDs_ims, ne_self' hf1, stages_run]
  refine RunLC.mapM (α := Stg) dStg (fun p => .imm (.str p.s)) (L := W.gs) ?_ (by rw [line_eq]; omega) ?_
  · intro p hp
    simp [dStg]
    rfl
  rw [t2]
  simp [toDs_ims, ne_self' hf2, ifK]
  rw [s_l_law28_u7]
  simp
  refine RunL.inv (fun ds st => ∃ (l' : List Pic) (a6 a7 a8 a9 : Option T), ds = l'.map dPic ∧ (∀ p ∈ l', p ∈ W.ps) ∧ st = [some (.imm (script ns)), some (.imm (.tup [.int W.m, .lst (W.ps.map dPic), .lst (W.gs.map dStg)])), some (.imm (.str (mkS (shW W)))), some (.imm (.str (mkS (shW W)))), some (.imm (dW W)), none, a6, a7, a8, a9, none]) ?_ ?_ _ _ _ ⟨W.ps, _, _, _, _, rfl, fun p hp => hp, rfl⟩
  · rintro d r st ⟨l', a6, a7, a8, a9, hd, hm, rfl⟩
    cases l' with
    | nil => cases hd
    | cons p l' =>
      injection hd with hd1 hd2
      subst hd1
      have hp := hm p (by simp)
      have htp : ∀ {k : T → Prop}, op2K fNe (.tup [.int p.w, .int p.h]) (.tup [.int p.w, .int p.h]) k = k (.imm (.bl false)) := ne_self' rfl
      simp [dPic, size_run hW hp, rim_run hW hp, whole_int, htp, ifK]
      exact ⟨l', hd2, fun q hq => hm q (by simp [hq])⟩
  · rintro st ⟨l', a6, a7, a8, a9, hd, hm, rfl⟩
    cases l' with
    | cons p l' => cases hd
    | nil =>
      simp
      rw [s_l_law28_u8]
      simp
      refine RunL.inv (fun ds st => ∃ (l' : List Stg) (a6 a10 : Option T), ds = l'.map dStg ∧ (∀ p ∈ l', p ∈ W.gs) ∧ st = [some (.imm (script ns)), some (.imm (.tup [.int W.m, .lst (W.ps.map dPic), .lst (W.gs.map dStg)])), some (.imm (.str (mkS (shW W)))), some (.imm (.str (mkS (shW W)))), some (.imm (dW W)), none, a6, a7, a8, a9, a10]) ?_ ?_ _ _ _ ⟨W.gs, _, _, rfl, fun p hp => hp, rfl⟩
      · clear a6
        rintro d r st ⟨l', a6, a10, hd, hm, rfl⟩
        cases l' with
        | nil => cases hd
        | cons p l' =>
          injection hd with hd1 hd2
          subst hd1
          have hp := hm p (by simp)
          have ho := ok_stg hW hp
          have hn := okn_stg hW hp
          have hff := flat_dF flt_Nm p.f 40 hn.2 (by omega)
          have hsh := fun {K : KF} {E g} => shape_run 12 p.f ho.2.2.1 (K := K) (E := E) (g := g)
          simp [dStg, formula_of_run hW hp, hsh, ne_self' hff, ifK]
          exact ⟨l', hd2, fun q hq => hm q (by simp [hq])⟩
      · clear a6
        rintro st ⟨l', a6, a10, hd, hm, rfl⟩
        cases l' with
        | cons p l' => cases hd
        | nil =>
          have e4 := fun {K : KF} {E g} => works_shown_run hW (.inl rfl) (K := K) (E := E) (g' := g)
          rw [s_l_law28_t9]
          simp [e4]
end G
set_option Elab.async false
set_option linter.all false
set_option maxRecDepth 100000
set_option maxHeartbeats 4000000
namespace W
open PySem PySem.Spec PyProof.Rows L2 G
abbrev N_f_formula_shown : List Str := ["formula", "parts", "one"]
theorem sc_f_formula_shown : FnScope N_f_formula_shown ["formula"] (defScope st_f_formula_shown) := ⟨rfl, rfl, rfl, by decide +kernel, rfl, by decide +kernel, by decide +kernel⟩
abbrev N_f_Works_formula : List Str := ["self", "stage"]
theorem sc_f_Works_formula : FnScope N_f_Works_formula ["self", "stage"] (defScope st_f_Works_formula) := ⟨rfl, rfl, rfl, by decide +kernel, rfl, by decide +kernel, by decide +kernel⟩
abbrev N_f_Works_stages : List Str := ["self"]
theorem sc_f_Works_stages : FnScope N_f_Works_stages ["self"] (defScope st_f_Works_stages) := ⟨rfl, rfl, rfl, by decide +kernel, rfl, by decide +kernel, by decide +kernel⟩
abbrev N_f_Works_row_of : List Str := ["self", "picture", "row"]
theorem sc_f_Works_row_of : FnScope N_f_Works_row_of ["self", "picture"] (defScope st_f_Works_row_of) := ⟨rfl, rfl, rfl, by decide +kernel, rfl, by decide +kernel, by decide +kernel⟩
abbrev N_f_Works_rim : List Str := ["self", "picture"]
theorem sc_f_Works_rim : FnScope N_f_Works_rim ["self", "picture"] (defScope st_f_Works_rim) := ⟨rfl, rfl, rfl, by decide +kernel, rfl, by decide +kernel, by decide +kernel⟩
abbrev N_f_Works_size : List Str := ["self", "picture", "row"]
theorem sc_f_Works_size : FnScope N_f_Works_size ["self", "picture"] (defScope st_f_Works_size) := ⟨rfl, rfl, rfl, by decide +kernel, rfl, by decide +kernel, by decide +kernel⟩
abbrev N_f_Works_pictures : List Str := ["self", "row"]
theorem sc_f_Works_pictures : FnScope N_f_Works_pictures ["self"] (defScope st_f_Works_pictures) := ⟨rfl, rfl, rfl, by decide +kernel, rfl, by decide +kernel, by decide +kernel⟩
abbrev N_f_works_shown : List Str := ["works", "rows", "name", "width", "height"]
theorem sc_f_works_shown : FnScope N_f_works_shown ["works"] (defScope st_f_works_shown) := ⟨rfl, rfl, rfl, by decide +kernel, rfl, by decide +kernel, by decide +kernel⟩
abbrev N_l_whole : List Str := ["_law_found"]
theorem sc_l_whole : FnScope N_l_whole ["_law_found"] (defScope st_l_whole) := ⟨rfl, rfl, rfl, by decide +kernel, rfl, by decide +kernel, by decide +kernel⟩
abbrev N_l_shape : List Str := ["_law_formula_here", "_law_one"]
theorem sc_l_shape : FnScope N_l_shape ["_law_formula_here"] (defScope st_l_shape) := ⟨rfl, rfl, rfl, by decide +kernel, rfl, by decide +kernel, by decide +kernel⟩
abbrev N_f_look_at_read : List Str := ["names", "formula", "word", "name", "dx", "dy"]
theorem sc_f_look_at_read : FnScope N_f_look_at_read ["names", "formula"] (defScope st_f_look_at_read) := ⟨rfl, rfl, rfl, by decide +kernel, rfl, by decide +kernel, by decide +kernel⟩
abbrev N_f_look_at_number : List Str := ["number"]
theorem sc_f_look_at_number : FnScope N_f_look_at_number ["number"] (defScope st_f_look_at_number) := ⟨rfl, rfl, rfl, by decide +kernel, rfl, by decide +kernel, by decide +kernel⟩
abbrev N_f_wanted_behind : List Str := ["word"]
theorem sc_f_wanted_behind : FnScope N_f_wanted_behind ["word"] (defScope st_f_wanted_behind) := ⟨rfl, rfl, rfl, by decide +kernel, rfl, by decide +kernel, by decide +kernel⟩
abbrev N_f_look_at_formula : List Str := ["names", "formula", "word", "one"]
theorem sc_f_look_at_formula : FnScope N_f_look_at_formula ["names", "formula"] (defScope st_f_look_at_formula) := ⟨rfl, rfl, rfl, by decide +kernel, rfl, by decide +kernel, by decide +kernel⟩
abbrev N_f_all_letters : List Str := ["text", "sign"]
theorem sc_f_all_letters : FnScope N_f_all_letters ["text"] (defScope st_f_all_letters) := ⟨rfl, rfl, rfl, by decide +kernel, rfl, by decide +kernel, by decide +kernel⟩
abbrev N_f_is_name : List Str := ["text"]
theorem sc_f_is_name : FnScope N_f_is_name ["text"] (defScope st_f_is_name) := ⟨rfl, rfl, rfl, by decide +kernel, rfl, by decide +kernel, by decide +kernel⟩
abbrev N_f_look_at_name : List Str := ["names", "name"]
theorem sc_f_look_at_name : FnScope N_f_look_at_name ["names", "name"] (defScope st_f_look_at_name) := ⟨rfl, rfl, rfl, by decide +kernel, rfl, by decide +kernel, by decide +kernel⟩
abbrev N_f_look_at_stages : List Str := ["names", "stages", "name", "formula"]
theorem sc_f_look_at_stages : FnScope N_f_look_at_stages ["names", "stages"] (defScope st_f_look_at_stages) := ⟨rfl, rfl, rfl, by decide +kernel, rfl, by decide +kernel, by decide +kernel⟩
abbrev N_f_look_at_pictures : List Str := ["pictures", "names", "name", "width", "height", "rim"]
theorem sc_f_look_at_pictures : FnScope N_f_look_at_pictures ["pictures"] (defScope st_f_look_at_pictures) := ⟨rfl, rfl, rfl, by decide +kernel, rfl, by decide +kernel, by decide +kernel⟩
abbrev N_f_Works__init : List Str := ["self", "measure", "pictures", "stages", "name", "width", "height", "rim", "formula"]
theorem sc_f_Works__init : FnScope N_f_Works__init ["self", "measure", "pictures", "stages"] (defScope st_f_Works__init) := ⟨rfl, rfl, rfl, by decide +kernel, rfl, by decide +kernel, by decide +kernel⟩
abbrev N_f_word_of : List Str := ["text", "row"]
theorem sc_f_word_of : FnScope N_f_word_of ["text", "row"] (defScope st_f_word_of) := ⟨rfl, rfl, rfl, by decide +kernel, rfl, by decide +kernel, by decide +kernel⟩
abbrev N_f_behind_sign : List Str := ["text", "at", "sign", "row"]
theorem sc_f_behind_sign : FnScope N_f_behind_sign ["text", "at", "sign", "row"] (defScope st_f_behind_sign) := ⟨rfl, rfl, rfl, by decide +kernel, rfl, by decide +kernel, by decide +kernel⟩
abbrev N_f_is_figures : List Str := ["text", "most", "sign"]
theorem sc_f_is_figures : FnScope N_f_is_figures ["text", "most"] (defScope st_f_is_figures) := ⟨rfl, rfl, rfl, by decide +kernel, rfl, by decide +kernel, by decide +kernel⟩
abbrev N_f_step_of : List Str := ["text", "row"]
theorem sc_f_step_of : FnScope N_f_step_of ["text", "row"] (defScope st_f_step_of) := ⟨rfl, rfl, rfl, by decide +kernel, rfl, by decide +kernel, by decide +kernel⟩
abbrev N_f_number_of : List Str := ["text", "row"]
theorem sc_f_number_of : FnScope N_f_number_of ["text", "row"] (defScope st_f_number_of) := ⟨rfl, rfl, rfl, by decide +kernel, rfl, by decide +kernel, by decide +kernel⟩
abbrev N_f_plain_value : List Str := ["word", "k", "text", "row"]
theorem sc_f_plain_value : FnScope N_f_plain_value ["word", "k", "text", "row"] (defScope st_f_plain_value) := ⟨rfl, rfl, rfl, by decide +kernel, rfl, by decide +kernel, by decide +kernel⟩
abbrev N_f_part_at : List Str := ["text", "at", "end"]
theorem sc_f_part_at : FnScope N_f_part_at ["text", "at"] (defScope st_f_part_at) := ⟨rfl, rfl, rfl, by decide +kernel, rfl, by decide +kernel, by decide +kernel⟩
abbrev N_f_formula_at : List Str := ["text", "at", "row", "word", "values", "k", "value"]
theorem sc_f_formula_at : FnScope N_f_formula_at ["text", "at", "row"] (defScope st_f_formula_at) := ⟨rfl, rfl, rfl, by decide +kernel, rfl, by decide +kernel, by decide +kernel⟩
abbrev N_f_stage_of : List Str := ["line", "row", "head", "parted", "text", "parts", "formula", "at"]
theorem sc_f_stage_of : FnScope N_f_stage_of ["line", "row"] (defScope st_f_stage_of) := ⟨rfl, rfl, rfl, by decide +kernel, rfl, by decide +kernel, by decide +kernel⟩
abbrev N_f_picture_of : List Str := ["line", "row", "parts", "sizes", "part"]
theorem sc_f_picture_of : FnScope N_f_picture_of ["line", "row"] (defScope st_f_picture_of) := ⟨rfl, rfl, rfl, by decide +kernel, rfl, by decide +kernel, by decide +kernel⟩
abbrev N_f_works_read : List Str := ["text", "lines", "first", "measure", "pictures", "stages", "row", "line"]
theorem sc_f_works_read : FnScope N_f_works_read ["text"] (defScope st_f_works_read) := ⟨rfl, rfl, rfl, by decide +kernel, rfl, by decide +kernel, by decide +kernel⟩
abbrev N_l_formula_text : List Str := ["_law_formula_here", "_law_one"]
theorem sc_l_formula_text : FnScope N_l_formula_text ["_law_formula_here"] (defScope st_l_formula_text) := ⟨rfl, rfl, rfl, by decide +kernel, rfl, by decide +kernel, by decide +kernel⟩
abbrev N_l_text : List Str := ["_law_parts_here", "_law_lines", "_law_name", "_law_wide", "_law_high", "_law_rim", "_law_formula_here"]
theorem sc_l_text : FnScope N_l_text ["_law_parts_here"] (defScope st_l_text) := ⟨rfl, rfl, rfl, by decide +kernel, rfl, by decide +kernel, by decide +kernel⟩
abbrev N_l_measure : List Str := ["_law_drawn", "_law_some"]
theorem sc_l_measure : FnScope N_l_measure ["_law_drawn"] (defScope st_l_measure) := ⟨rfl, rfl, rfl, by decide +kernel, rfl, by decide +kernel, by decide +kernel⟩
abbrev N_l_drawn_at : List Str := ["_law_script", "_law_k"]
theorem sc_l_drawn_at : FnScope N_l_drawn_at ["_law_script", "_law_k"] (defScope st_l_drawn_at) := ⟨rfl, rfl, rfl, by decide +kernel, rfl, by decide +kernel, by decide +kernel⟩
abbrev N_l_number : List Str := ["_law_drawn", "_law_first"]
theorem sc_l_number : FnScope N_l_number ["_law_drawn"] (defScope st_l_number) := ⟨rfl, rfl, rfl, by decide +kernel, rfl, by decide +kernel, by decide +kernel⟩
abbrev N_l_leaf : List Str := ["_law_names_here", "_law_digit", "_law_purse", "_law_way", "_law_number_here", "_law_k", "_law_name"]
theorem sc_l_leaf : FnScope N_l_leaf ["_law_names_here", "_law_digit", "_law_purse"] (defScope st_l_leaf) := ⟨rfl, rfl, rfl, by decide +kernel, rfl, by decide +kernel, by decide +kernel⟩
abbrev N_l_formula : List Str := ["_law_names_here", "_law_purse", "_law_down", "_law_digit", "_law_word", "_law_parts_here", "_law_k"]
theorem sc_l_formula : FnScope N_l_formula ["_law_names_here", "_law_purse", "_law_down"] (defScope st_l_formula) := ⟨rfl, rfl, rfl, by decide +kernel, rfl, by decide +kernel, by decide +kernel⟩
abbrev N_l_grown : List Str := ["_law_names_here", "_law_purse", "_law_formula_here", "_law_k", "_law_digit", "_law_leaf_here", "_law_word"]
theorem sc_l_grown : FnScope N_l_grown ["_law_names_here", "_law_purse"] (defScope st_l_grown) := ⟨rfl, rfl, rfl, by decide +kernel, rfl, by decide +kernel, by decide +kernel⟩
abbrev N_l_digits : List Str := ["_law_script", "_law_at", "_law_parts_here", "_law_drawn", "_law_k", "_law_found", "_law_first", "_law_rest"]
theorem sc_l_digits : FnScope N_l_digits ["_law_script", "_law_at", "_law_parts_here"] (defScope st_l_digits) := ⟨rfl, rfl, rfl, by decide +kernel, rfl, by decide +kernel, by decide +kernel⟩
abbrev N_l_mixed : List Str := ["_law_script", "_law_at", "_law_parts_here", "_law_drawn", "_law_k", "_law_first"]
theorem sc_l_mixed : FnScope N_l_mixed ["_law_script", "_law_at", "_law_parts_here"] (defScope st_l_mixed) := ⟨rfl, rfl, rfl, by decide +kernel, rfl, by decide +kernel, by decide +kernel⟩
abbrev N_l_pictures : List Str := ["_law_script", "_law_names_here", "_law_count", "_law_found", "_law_k", "_law_mixed_here", "_law_wide", "_law_high"]
theorem sc_l_pictures : FnScope N_l_pictures ["_law_script", "_law_names_here", "_law_count"] (defScope st_l_pictures) := ⟨rfl, rfl, rfl, by decide +kernel, rfl, by decide +kernel, by decide +kernel⟩
abbrev N_l_names : List Str := ["_law_drawn", "_law_count", "_law_letters", "_law_mixed_here", "_law_long", "_law_at", "_law_base", "_law_k", "_law_step", "_law_found", "_law_turned_on"]
theorem sc_l_names : FnScope N_l_names ["_law_drawn", "_law_count"] (defScope st_l_names) := ⟨rfl, rfl, rfl, by decide +kernel, rfl, by decide +kernel, by decide +kernel⟩
abbrev N_l_parts : List Str := ["_law_script", "_law_count", "_law_names_here", "_law_pictures_here", "_law_stages", "_law_k", "_law_purse", "_law_formula_here"]
theorem sc_l_parts : FnScope N_l_parts ["_law_script"] (defScope st_l_parts) := ⟨rfl, rfl, rfl, by decide +kernel, rfl, by decide +kernel, by decide +kernel⟩
abbrev N_l_law : List Str := ["_law_script", "_law_parts_here", "_law_text_here", "_law_told", "_law_works", "_law_row", "_law_name", "_law_wide", "_law_high", "_law_rim", "_law_formula_here"]
theorem sc_l_law : FnScope N_l_law ["_law_script"] (defScope st_l_law) := ⟨rfl, rfl, rfl, by decide +kernel, rfl, by decide +kernel, by decide +kernel⟩
abbrev N_f_BadText__init : List Str := ["self", "row"]
theorem sc_f_BadText__init : FnScope N_f_BadText__init ["self", "row"] (defScope st_f_BadText__init) := ⟨rfl, rfl, rfl, by decide +kernel, rfl, by decide +kernel, by decide +kernel⟩
def clK (K : PySem.W.Frag) (c : Nat) : Addr := match PySem.W.nsIn K mainGlobals ((["Works", "Cells", "Course", "Mill"] : List Str).getD c "") with | some (some (.ref a)) => a | _ => 0
def xcK (K : PySem.W.Frag) (c : Nat) : Addr := match PySem.W.nsIn K mainGlobals ((["MillError", "NoMeasure", "BadCount", "BadName", "Twice", "BadSize", "BadNumber", "NoDeed", "NoStage", "BadStep", "BadPlan", "BadGiven", "BadText"] : List Str).getD c "") with | some (some (.ref a)) => a | _ => 0
abbrev gam (K : PySem.W.Frag) : Wh := ⟨K, clK K, xcK K⟩
set_option genInjectivity false in
structure Tx (K : PySem.W.Frag) (mg : Str → Option Value) where
  f_f_formula_shown : Addr
  d_f_formula_shown : FuncData
  F_f_formula_shown : Fun K "formula_shown" "formula_shown" st_f_formula_shown f_f_formula_shown d_f_formula_shown
  f_f_Works_formula : Addr
  d_f_Works_formula : FuncData
  F_f_Works_formula : Fun K "formula" "Works.formula" st_f_Works_formula f_f_Works_formula d_f_Works_formula
  f_f_Works_stages : Addr
  d_f_Works_stages : FuncData
  F_f_Works_stages : Fun K "stages" "Works.stages" st_f_Works_stages f_f_Works_stages d_f_Works_stages
  f_f_Works_row_of : Addr
  d_f_Works_row_of : FuncData
  F_f_Works_row_of : Fun K "row_of" "Works.row_of" st_f_Works_row_of f_f_Works_row_of d_f_Works_row_of
  f_f_Works_rim : Addr
  d_f_Works_rim : FuncData
  F_f_Works_rim : Fun K "rim" "Works.rim" st_f_Works_rim f_f_Works_rim d_f_Works_rim
  f_f_Works_size : Addr
  d_f_Works_size : FuncData
  F_f_Works_size : Fun K "size" "Works.size" st_f_Works_size f_f_Works_size d_f_Works_size
  f_f_Works_pictures : Addr
  d_f_Works_pictures : FuncData
  F_f_Works_pictures : Fun K "pictures" "Works.pictures" st_f_Works_pictures f_f_Works_pictures d_f_Works_pictures
  f_f_works_shown : Addr
  d_f_works_shown : FuncData
  F_f_works_shown : Fun K "works_shown" "works_shown" st_f_works_shown f_f_works_shown d_f_works_shown
  f_l_whole : Addr
  d_l_whole : FuncData
  F_l_whole : Fun K "_law_whole" "_law_whole" st_l_whole f_l_whole d_l_whole
  f_l_shape : Addr
  d_l_shape : FuncData
  F_l_shape : Fun K "_law_shape" "_law_shape" st_l_shape f_l_shape d_l_shape
  f_f_look_at_read : Addr
  d_f_look_at_read : FuncData
  F_f_look_at_read : Fun K "look_at_read" "look_at_read" st_f_look_at_read f_f_look_at_read d_f_look_at_read
  f_f_look_at_number : Addr
  d_f_look_at_number : FuncData
  F_f_look_at_number : Fun K "look_at_number" "look_at_number" st_f_look_at_number f_f_look_at_number d_f_look_at_number
  f_f_wanted_behind : Addr
  d_f_wanted_behind : FuncData
  F_f_wanted_behind : Fun K "wanted_behind" "wanted_behind" st_f_wanted_behind f_f_wanted_behind d_f_wanted_behind
  f_f_look_at_formula : Addr
  d_f_look_at_formula : FuncData
  F_f_look_at_formula : Fun K "look_at_formula" "look_at_formula" st_f_look_at_formula f_f_look_at_formula d_f_look_at_formula
  f_f_all_letters : Addr
  d_f_all_letters : FuncData
  F_f_all_letters : Fun K "all_letters" "all_letters" st_f_all_letters f_f_all_letters d_f_all_letters
  f_f_is_name : Addr
  d_f_is_name : FuncData
  F_f_is_name : Fun K "is_name" "is_name" st_f_is_name f_f_is_name d_f_is_name
  f_f_look_at_name : Addr
  d_f_look_at_name : FuncData
  F_f_look_at_name : Fun K "look_at_name" "look_at_name" st_f_look_at_name f_f_look_at_name d_f_look_at_name
  f_f_look_at_stages : Addr
  d_f_look_at_stages : FuncData
  F_f_look_at_stages : Fun K "look_at_stages" "look_at_stages" st_f_look_at_stages f_f_look_at_stages d_f_look_at_stages
  f_f_look_at_pictures : Addr
  d_f_look_at_pictures : FuncData
  F_f_look_at_pictures : Fun K "look_at_pictures" "look_at_pictures" st_f_look_at_pictures f_f_look_at_pictures d_f_look_at_pictures
  f_f_Works__init : Addr
  d_f_Works__init : FuncData
  F_f_Works__init : Fun K "__init__" "Works.__init__" st_f_Works__init f_f_Works__init d_f_Works__init
  f_f_word_of : Addr
  d_f_word_of : FuncData
  F_f_word_of : Fun K "word_of" "word_of" st_f_word_of f_f_word_of d_f_word_of
  f_f_behind_sign : Addr
  d_f_behind_sign : FuncData
  F_f_behind_sign : Fun K "behind_sign" "behind_sign" st_f_behind_sign f_f_behind_sign d_f_behind_sign
  f_f_is_figures : Addr
  d_f_is_figures : FuncData
  F_f_is_figures : Fun K "is_figures" "is_figures" st_f_is_figures f_f_is_figures d_f_is_figures
  f_f_step_of : Addr
  d_f_step_of : FuncData
  F_f_step_of : Fun K "step_of" "step_of" st_f_step_of f_f_step_of d_f_step_of
  f_f_number_of : Addr
  d_f_number_of : FuncData
  F_f_number_of : Fun K "number_of" "number_of" st_f_number_of f_f_number_of d_f_number_of
  f_f_plain_value : Addr
  d_f_plain_value : FuncData
  F_f_plain_value : Fun K "plain_value" "plain_value" st_f_plain_value f_f_plain_value d_f_plain_value
  f_f_part_at : Addr
  d_f_part_at : FuncData
  F_f_part_at : Fun K "part_at" "part_at" st_f_part_at f_f_part_at d_f_part_at
  f_f_formula_at : Addr
  d_f_formula_at : FuncData
  F_f_formula_at : Fun K "formula_at" "formula_at" st_f_formula_at f_f_formula_at d_f_formula_at
  f_f_stage_of : Addr
  d_f_stage_of : FuncData
  F_f_stage_of : Fun K "stage_of" "stage_of" st_f_stage_of f_f_stage_of d_f_stage_of
  f_f_picture_of : Addr
  d_f_picture_of : FuncData
  F_f_picture_of : Fun K "picture_of" "picture_of" st_f_picture_of f_f_picture_of d_f_picture_of
  f_f_works_read : Addr
  d_f_works_read : FuncData
  F_f_works_read : Fun K "works_read" "works_read" st_f_works_read f_f_works_read d_f_works_read
  f_l_formula_text : Addr
  d_l_formula_text : FuncData
  F_l_formula_text : Fun K "_law_formula_text" "_law_formula_text" st_l_formula_text f_l_formula_text d_l_formula_text
  f_l_text : Addr
  d_l_text : FuncData
  F_l_text : Fun K "_law_text" "_law_text" st_l_text f_l_text d_l_text
  f_l_measure : Addr
  d_l_measure : FuncData
  F_l_measure : Fun K "_law_measure" "_law_measure" st_l_measure f_l_measure d_l_measure
  f_l_drawn_at : Addr
  d_l_drawn_at : FuncData
  F_l_drawn_at : Fun K "_law_drawn_at" "_law_drawn_at" st_l_drawn_at f_l_drawn_at d_l_drawn_at
  f_l_number : Addr
  d_l_number : FuncData
  F_l_number : Fun K "_law_number" "_law_number" st_l_number f_l_number d_l_number
  f_l_leaf : Addr
  d_l_leaf : FuncData
  F_l_leaf : Fun K "_law_leaf" "_law_leaf" st_l_leaf f_l_leaf d_l_leaf
  f_l_formula : Addr
  d_l_formula : FuncData
  F_l_formula : Fun K "_law_formula" "_law_formula" st_l_formula f_l_formula d_l_formula
  f_l_grown : Addr
  d_l_grown : FuncData
  F_l_grown : Fun K "_law_grown" "_law_grown" st_l_grown f_l_grown d_l_grown
  f_l_digits : Addr
  d_l_digits : FuncData
  F_l_digits : Fun K "_law_digits" "_law_digits" st_l_digits f_l_digits d_l_digits
  f_l_mixed : Addr
  d_l_mixed : FuncData
  F_l_mixed : Fun K "_law_mixed" "_law_mixed" st_l_mixed f_l_mixed d_l_mixed
  f_l_pictures : Addr
  d_l_pictures : FuncData
  F_l_pictures : Fun K "_law_pictures" "_law_pictures" st_l_pictures f_l_pictures d_l_pictures
  f_l_names : Addr
  d_l_names : FuncData
  F_l_names : Fun K "_law_names" "_law_names" st_l_names f_l_names d_l_names
  f_l_parts : Addr
  d_l_parts : FuncData
  F_l_parts : Fun K "_law_parts" "_law_parts" st_l_parts f_l_parts d_l_parts
  f_l_law : Addr
  d_l_law : FuncData
  F_l_law : Fun K "law" "law" st_l_law f_l_law d_l_law
  m_l_digits : mg "_law_digits" = some (.ref f_l_digits)
  m_l_drawn_at : mg "_law_drawn_at" = some (.ref f_l_drawn_at)
  m_l_formula : mg "_law_formula" = some (.ref f_l_formula)
  m_l_formula_text : mg "_law_formula_text" = some (.ref f_l_formula_text)
  m_l_grown : mg "_law_grown" = some (.ref f_l_grown)
  m_l_leaf : mg "_law_leaf" = some (.ref f_l_leaf)
  m_l_measure : mg "_law_measure" = some (.ref f_l_measure)
  m_l_mixed : mg "_law_mixed" = some (.ref f_l_mixed)
  m_l_names : mg "_law_names" = some (.ref f_l_names)
  m_l_number : mg "_law_number" = some (.ref f_l_number)
  m_l_parts : mg "_law_parts" = some (.ref f_l_parts)
  m_l_pictures : mg "_law_pictures" = some (.ref f_l_pictures)
  m_l_shape : mg "_law_shape" = some (.ref f_l_shape)
  m_l_text : mg "_law_text" = some (.ref f_l_text)
  m_l_whole : mg "_law_whole" = some (.ref f_l_whole)
  m_all_letters : mg "all_letters" = some (.ref f_f_all_letters)
  m_behind_sign : mg "behind_sign" = some (.ref f_f_behind_sign)
  m_formula_at : mg "formula_at" = some (.ref f_f_formula_at)
  m_formula_shown : mg "formula_shown" = some (.ref f_f_formula_shown)
  m_is_figures : mg "is_figures" = some (.ref f_f_is_figures)
  m_is_name : mg "is_name" = some (.ref f_f_is_name)
  m_look_at_formula : mg "look_at_formula" = some (.ref f_f_look_at_formula)
  m_look_at_name : mg "look_at_name" = some (.ref f_f_look_at_name)
  m_look_at_number : mg "look_at_number" = some (.ref f_f_look_at_number)
  m_look_at_pictures : mg "look_at_pictures" = some (.ref f_f_look_at_pictures)
  m_look_at_read : mg "look_at_read" = some (.ref f_f_look_at_read)
  m_look_at_stages : mg "look_at_stages" = some (.ref f_f_look_at_stages)
  m_number_of : mg "number_of" = some (.ref f_f_number_of)
  m_part_at : mg "part_at" = some (.ref f_f_part_at)
  m_picture_of : mg "picture_of" = some (.ref f_f_picture_of)
  m_plain_value : mg "plain_value" = some (.ref f_f_plain_value)
  m_stage_of : mg "stage_of" = some (.ref f_f_stage_of)
  m_step_of : mg "step_of" = some (.ref f_f_step_of)
  m_wanted_behind : mg "wanted_behind" = some (.ref f_f_wanted_behind)
  m_word_of : mg "word_of" = some (.ref f_f_word_of)
  m_works_read : mg "works_read" = some (.ref f_f_works_read)
  m_works_shown : mg "works_shown" = some (.ref f_f_works_shown)
  mk_Works : Mk K ((gam K).cl 0) f_f_Works__init
  m_Works : mg "Works" = some (.ref ((gam K).cl 0))
  fld_Works_kept_formulas : ∀ c ∈ [0], Cls K ((gam K).cl c) ∧ NoAttr K ((gam K).cl c) "kept_formulas"
  fld_Works_kept_pictures : ∀ c ∈ [0], Cls K ((gam K).cl c) ∧ NoAttr K ((gam K).cl c) "kept_pictures"
  fld_Works_measure : ∀ c ∈ [0], Cls K ((gam K).cl c) ∧ NoAttr K ((gam K).cl c) "measure"
  mth_f_Works_formula : Cls K ((gam K).cl 0) ∧ Meth K ((gam K).cl 0) "formula" f_f_Works_formula
  mth_f_Works_pictures : Cls K ((gam K).cl 0) ∧ Meth K ((gam K).cl 0) "pictures" f_f_Works_pictures
  mth_f_Works_rim : Cls K ((gam K).cl 0) ∧ Meth K ((gam K).cl 0) "rim" f_f_Works_rim
  mth_f_Works_row_of : Cls K ((gam K).cl 0) ∧ Meth K ((gam K).cl 0) "row_of" f_f_Works_row_of
  mth_f_Works_size : Cls K ((gam K).cl 0) ∧ Meth K ((gam K).cl 0) "size" f_f_Works_size
  mth_f_Works_stages : Cls K ((gam K).cl 0) ∧ Meth K ((gam K).cl 0) "stages" f_f_Works_stages
  u_FARTHEST : Value
  m_FARTHEST : mg "FARTHEST" = some u_FARTHEST
  r_FARTHEST : RelV (.int 3) u_FARTHEST
  u_FIGURES : Value
  m_FIGURES : mg "FIGURES" = some u_FIGURES
  r_FIGURES : RelV (.str "0123456789") u_FIGURES
  u_GREATEST : Value
  m_GREATEST : mg "GREATEST" = some u_GREATEST
  r_GREATEST : RelV (.int 1000000000000000000000000000000000000000000000000000000000000) u_GREATEST
  u_LETTERS : Value
  m_LETTERS : mg "LETTERS" = some u_LETTERS
  r_LETTERS : RelV (.str "abcdefghijklmnopqrstuvwxyz") u_LETTERS
  u_LONGEST : Value
  m_LONGEST : mg "LONGEST" = some u_LONGEST
  r_LONGEST : RelV (.int 12) u_LONGEST
  u_MOST_FIGURES : Value
  m_MOST_FIGURES : mg "MOST_FIGURES" = some u_MOST_FIGURES
  r_MOST_FIGURES : RelV (.int 61) u_MOST_FIGURES
  u_MOST_PICTURES : Value
  m_MOST_PICTURES : mg "MOST_PICTURES" = some u_MOST_PICTURES
  r_MOST_PICTURES : RelV (.int 4) u_MOST_PICTURES
  u_MOST_STAGES : Value
  m_MOST_STAGES : mg "MOST_STAGES" = some u_MOST_STAGES
  r_MOST_STAGES : RelV (.int 8) u_MOST_STAGES
  a_PAIRS : Addr
  m_PAIRS : mg "PAIRS" = some (.ref a_PAIRS)
  l_PAIRS : LstS K a_PAIRS ["sum", "less", "times", "least", "most"]
  u_STEP_FIGURES : Value
  m_STEP_FIGURES : mg "STEP_FIGURES" = some u_STEP_FIGURES
  r_STEP_FIGURES : RelV (.int 3) u_STEP_FIGURES
  u_WIDEST : Value
  m_WIDEST : mg "WIDEST" = some u_WIDEST
  r_WIDEST : RelV (.int 40) u_WIDEST
  a_WORDS : Addr
  m_WORDS : mg "WORDS" = some (.ref a_WORDS)
  l_WORDS : LstS K a_WORDS ["number", "x", "y", "read", "sum", "less", "times", "least", "most", "pick"]
  n_abs : mg "abs" = none
  n_bool : mg "bool" = none
  n_enumerate : mg "enumerate" = none
  n_int : mg "int" = none
  n_isinstance : mg "isinstance" = none
  n_len : mg "len" = none
  n_list : mg "list" = none
  n_min : mg "min" = none
  n_range : mg "range" = none
  n_reversed : mg "reversed" = none
  n_str : mg "str" = none
  n_sum : mg "sum" = none
  n_tuple : mg "tuple" = none
  x_MillError : mg "MillError" = some (.ref ((gam K).xc 0))
  x_NoMeasure : mg "NoMeasure" = some (.ref ((gam K).xc 1))
  x_BadCount : mg "BadCount" = some (.ref ((gam K).xc 2))
  x_BadName : mg "BadName" = some (.ref ((gam K).xc 3))
  x_Twice : mg "Twice" = some (.ref ((gam K).xc 4))
  x_BadSize : mg "BadSize" = some (.ref ((gam K).xc 5))
  x_BadNumber : mg "BadNumber" = some (.ref ((gam K).xc 6))
  x_NoDeed : mg "NoDeed" = some (.ref ((gam K).xc 7))
  x_NoStage : mg "NoStage" = some (.ref ((gam K).xc 8))
  x_BadStep : mg "BadStep" = some (.ref ((gam K).xc 9))
  x_BadText : mg "BadText" = some (.ref ((gam K).xc 12))
  xr_BadCount : Xr K ((gam K).xc 2)
  xr_BadName : Xr K ((gam K).xc 3)
  xr_BadNumber : Xr K ((gam K).xc 6)
  xr_BadSize : Xr K ((gam K).xc 5)
  xr_BadStep : Xr K ((gam K).xc 9)
  xr_NoDeed : Xr K ((gam K).xc 7)
  xr_NoMeasure : Xr K ((gam K).xc 1)
  xr_NoStage : Xr K ((gam K).xc 8)
  xr_Twice : Xr K ((gam K).xc 4)
  isC_Works : C8.InsC K ((gam K).cl 0)
  f_f_BadText__init : Addr
  d_f_BadText__init : FuncData
  F_f_BadText__init : Fun K "__init__" "BadText.__init__" st_f_BadText__init f_f_BadText__init d_f_BadText__init
  xf_BadText : Xf K ((gam K).xc 12) f_f_BadText__init "row"
  xm : Xm K ((gam K).xc 0)
section
variable {P : Program} {w : World} {K : PySem.W.Frag} {mg : Str → Option Value} {base : Heap}
theorem b_f_formula_shown (T : Tx K mg) : Binds K T.d_f_formula_shown ["formula"] [] := T.F_f_formula_shown.binds (ps := ["formula"]) fun _ _ _ _ _ _ us hl => match us, hl with | [_], _ => rfl
theorem b_f_Works_formula (T : Tx K mg) : Binds K T.d_f_Works_formula ["self", "stage"] [] := T.F_f_Works_formula.binds (ps := ["self", "stage"]) fun _ _ _ _ _ _ us hl => match us, hl with | [_, _], _ => rfl
theorem b_f_Works_stages (T : Tx K mg) : Binds K T.d_f_Works_stages ["self"] [] := T.F_f_Works_stages.binds (ps := ["self"]) fun _ _ _ _ _ _ us hl => match us, hl with | [_], _ => rfl
theorem b_f_Works_row_of (T : Tx K mg) : Binds K T.d_f_Works_row_of ["self", "picture"] [] := T.F_f_Works_row_of.binds (ps := ["self", "picture"]) fun _ _ _ _ _ _ us hl => match us, hl with | [_, _], _ => rfl
theorem b_f_Works_rim (T : Tx K mg) : Binds K T.d_f_Works_rim ["self", "picture"] [] := T.F_f_Works_rim.binds (ps := ["self", "picture"]) fun _ _ _ _ _ _ us hl => match us, hl with | [_, _], _ => rfl
theorem b_f_Works_size (T : Tx K mg) : Binds K T.d_f_Works_size ["self", "picture"] [] := T.F_f_Works_size.binds (ps := ["self", "picture"]) fun _ _ _ _ _ _ us hl => match us, hl with | [_, _], _ => rfl
theorem b_f_Works_pictures (T : Tx K mg) : Binds K T.d_f_Works_pictures ["self"] [] := T.F_f_Works_pictures.binds (ps := ["self"]) fun _ _ _ _ _ _ us hl => match us, hl with | [_], _ => rfl
theorem b_f_works_shown (T : Tx K mg) : Binds K T.d_f_works_shown ["works"] [] := T.F_f_works_shown.binds (ps := ["works"]) fun _ _ _ _ _ _ us hl => match us, hl with | [_], _ => rfl
theorem b_l_whole (T : Tx K mg) : Binds K T.d_l_whole ["_law_found"] [] := T.F_l_whole.binds (ps := ["_law_found"]) fun _ _ _ _ _ _ us hl => match us, hl with | [_], _ => rfl
theorem b_l_shape (T : Tx K mg) : Binds K T.d_l_shape ["_law_formula_here"] [] := T.F_l_shape.binds (ps := ["_law_formula_here"]) fun _ _ _ _ _ _ us hl => match us, hl with | [_], _ => rfl
theorem b_f_look_at_read (T : Tx K mg) : Binds K T.d_f_look_at_read ["names", "formula"] [] := T.F_f_look_at_read.binds (ps := ["names", "formula"]) fun _ _ _ _ _ _ us hl => match us, hl with | [_, _], _ => rfl
theorem b_f_look_at_number (T : Tx K mg) : Binds K T.d_f_look_at_number ["number"] [] := T.F_f_look_at_number.binds (ps := ["number"]) fun _ _ _ _ _ _ us hl => match us, hl with | [_], _ => rfl
theorem b_f_wanted_behind (T : Tx K mg) : Binds K T.d_f_wanted_behind ["word"] [] := T.F_f_wanted_behind.binds (ps := ["word"]) fun _ _ _ _ _ _ us hl => match us, hl with | [_], _ => rfl
theorem b_f_look_at_formula (T : Tx K mg) : Binds K T.d_f_look_at_formula ["names", "formula"] [] := T.F_f_look_at_formula.binds (ps := ["names", "formula"]) fun _ _ _ _ _ _ us hl => match us, hl with | [_, _], _ => rfl
theorem b_f_all_letters (T : Tx K mg) : Binds K T.d_f_all_letters ["text"] [] := T.F_f_all_letters.binds (ps := ["text"]) fun _ _ _ _ _ _ us hl => match us, hl with | [_], _ => rfl
theorem b_f_is_name (T : Tx K mg) : Binds K T.d_f_is_name ["text"] [] := T.F_f_is_name.binds (ps := ["text"]) fun _ _ _ _ _ _ us hl => match us, hl with | [_], _ => rfl
theorem b_f_look_at_name (T : Tx K mg) : Binds K T.d_f_look_at_name ["names", "name"] [] := T.F_f_look_at_name.binds (ps := ["names", "name"]) fun _ _ _ _ _ _ us hl => match us, hl with | [_, _], _ => rfl
theorem b_f_look_at_stages (T : Tx K mg) : Binds K T.d_f_look_at_stages ["names", "stages"] [] := T.F_f_look_at_stages.binds (ps := ["names", "stages"]) fun _ _ _ _ _ _ us hl => match us, hl with | [_, _], _ => rfl
theorem b_f_look_at_pictures (T : Tx K mg) : Binds K T.d_f_look_at_pictures ["pictures"] [] := T.F_f_look_at_pictures.binds (ps := ["pictures"]) fun _ _ _ _ _ _ us hl => match us, hl with | [_], _ => rfl
theorem b_f_Works__init (T : Tx K mg) : Binds K T.d_f_Works__init ["self", "measure", "pictures", "stages"] [] := T.F_f_Works__init.binds (ps := ["self", "measure", "pictures", "stages"]) fun _ _ _ _ _ _ us hl => match us, hl with | [_, _, _, _], _ => rfl
theorem b_f_word_of (T : Tx K mg) : Binds K T.d_f_word_of ["text", "row"] [] := T.F_f_word_of.binds (ps := ["text", "row"]) fun _ _ _ _ _ _ us hl => match us, hl with | [_, _], _ => rfl
theorem b_f_behind_sign (T : Tx K mg) : Binds K T.d_f_behind_sign ["text", "at", "sign", "row"] [] := T.F_f_behind_sign.binds (ps := ["text", "at", "sign", "row"]) fun _ _ _ _ _ _ us hl => match us, hl with | [_, _, _, _], _ => rfl
theorem b_f_is_figures (T : Tx K mg) : Binds K T.d_f_is_figures ["text", "most"] [] := T.F_f_is_figures.binds (ps := ["text", "most"]) fun _ _ _ _ _ _ us hl => match us, hl with | [_, _], _ => rfl
theorem b_f_step_of (T : Tx K mg) : Binds K T.d_f_step_of ["text", "row"] [] := T.F_f_step_of.binds (ps := ["text", "row"]) fun _ _ _ _ _ _ us hl => match us, hl with | [_, _], _ => rfl
theorem b_f_number_of (T : Tx K mg) : Binds K T.d_f_number_of ["text", "row"] [] := T.F_f_number_of.binds (ps := ["text", "row"]) fun _ _ _ _ _ _ us hl => match us, hl with | [_, _], _ => rfl
theorem b_f_plain_value (T : Tx K mg) : Binds K T.d_f_plain_value ["word", "k", "text", "row"] [] := T.F_f_plain_value.binds (ps := ["word", "k", "text", "row"]) fun _ _ _ _ _ _ us hl => match us, hl with | [_, _, _, _], _ => rfl
theorem b_f_part_at (T : Tx K mg) : Binds K T.d_f_part_at ["text", "at"] [] := T.F_f_part_at.binds (ps := ["text", "at"]) fun _ _ _ _ _ _ us hl => match us, hl with | [_, _], _ => rfl
theorem b_f_formula_at (T : Tx K mg) : Binds K T.d_f_formula_at ["text", "at", "row"] [] := T.F_f_formula_at.binds (ps := ["text", "at", "row"]) fun _ _ _ _ _ _ us hl => match us, hl with | [_, _, _], _ => rfl
theorem b_f_stage_of (T : Tx K mg) : Binds K T.d_f_stage_of ["line", "row"] [] := T.F_f_stage_of.binds (ps := ["line", "row"]) fun _ _ _ _ _ _ us hl => match us, hl with | [_, _], _ => rfl
theorem b_f_picture_of (T : Tx K mg) : Binds K T.d_f_picture_of ["line", "row"] [] := T.F_f_picture_of.binds (ps := ["line", "row"]) fun _ _ _ _ _ _ us hl => match us, hl with | [_, _], _ => rfl
theorem b_f_works_read (T : Tx K mg) : Binds K T.d_f_works_read ["text"] [] := T.F_f_works_read.binds (ps := ["text"]) fun _ _ _ _ _ _ us hl => match us, hl with | [_], _ => rfl
theorem b_l_formula_text (T : Tx K mg) : Binds K T.d_l_formula_text ["_law_formula_here"] [] := T.F_l_formula_text.binds (ps := ["_law_formula_here"]) fun _ _ _ _ _ _ us hl => match us, hl with | [_], _ => rfl
theorem b_l_text (T : Tx K mg) : Binds K T.d_l_text ["_law_parts_here"] [] := T.F_l_text.binds (ps := ["_law_parts_here"]) fun _ _ _ _ _ _ us hl => match us, hl with | [_], _ => rfl
theorem b_l_measure (T : Tx K mg) : Binds K T.d_l_measure ["_law_drawn"] [] := T.F_l_measure.binds (ps := ["_law_drawn"]) fun _ _ _ _ _ _ us hl => match us, hl with | [_], _ => rfl
theorem b_l_drawn_at (T : Tx K mg) : Binds K T.d_l_drawn_at ["_law_script", "_law_k"] [] := T.F_l_drawn_at.binds (ps := ["_law_script", "_law_k"]) fun _ _ _ _ _ _ us hl => match us, hl with | [_, _], _ => rfl
theorem b_l_number (T : Tx K mg) : Binds K T.d_l_number ["_law_drawn"] [] := T.F_l_number.binds (ps := ["_law_drawn"]) fun _ _ _ _ _ _ us hl => match us, hl with | [_], _ => rfl
theorem b_l_leaf (T : Tx K mg) : Binds K T.d_l_leaf ["_law_names_here", "_law_digit", "_law_purse"] [] := T.F_l_leaf.binds (ps := ["_law_names_here", "_law_digit", "_law_purse"]) fun _ _ _ _ _ _ us hl => match us, hl with | [_, _, _], _ => rfl
theorem b_l_formula (T : Tx K mg) : Binds K T.d_l_formula ["_law_names_here", "_law_purse", "_law_down"] [] := T.F_l_formula.binds (ps := ["_law_names_here", "_law_purse", "_law_down"]) fun _ _ _ _ _ _ us hl => match us, hl with | [_, _, _], _ => rfl
theorem b_l_grown (T : Tx K mg) : Binds K T.d_l_grown ["_law_names_here", "_law_purse"] [] := T.F_l_grown.binds (ps := ["_law_names_here", "_law_purse"]) fun _ _ _ _ _ _ us hl => match us, hl with | [_, _], _ => rfl
theorem b_l_digits (T : Tx K mg) : Binds K T.d_l_digits ["_law_script", "_law_at", "_law_parts_here"] [] := T.F_l_digits.binds (ps := ["_law_script", "_law_at", "_law_parts_here"]) fun _ _ _ _ _ _ us hl => match us, hl with | [_, _, _], _ => rfl
theorem b_l_mixed (T : Tx K mg) : Binds K T.d_l_mixed ["_law_script", "_law_at", "_law_parts_here"] [] := T.F_l_mixed.binds (ps := ["_law_script", "_law_at", "_law_parts_here"]) fun _ _ _ _ _ _ us hl => match us, hl with | [_, _, _], _ => rfl
theorem b_l_pictures (T : Tx K mg) : Binds K T.d_l_pictures ["_law_script", "_law_names_here", "_law_count"] [] := T.F_l_pictures.binds (ps := ["_law_script", "_law_names_here", "_law_count"]) fun _ _ _ _ _ _ us hl => match us, hl with | [_, _, _], _ => rfl
theorem b_l_names (T : Tx K mg) : Binds K T.d_l_names ["_law_drawn", "_law_count"] [] := T.F_l_names.binds (ps := ["_law_drawn", "_law_count"]) fun _ _ _ _ _ _ us hl => match us, hl with | [_, _], _ => rfl
theorem b_l_parts (T : Tx K mg) : Binds K T.d_l_parts ["_law_script"] [] := T.F_l_parts.binds (ps := ["_law_script"]) fun _ _ _ _ _ _ us hl => match us, hl with | [_], _ => rfl
theorem bx_BadText (T : Tx K mg) : Binds K T.d_f_BadText__init ["self", "row"] [] := T.F_f_BadText__init.binds (ps := ["self", "row"]) fun _ _ _ _ _ _ us hl => match us, hl with | [_, _], _ => rfl
theorem okx_BadText (T : Tx K mg) : FnOk P w K mg base (L2.CX P w) 1 T.f_f_BadText__init T.d_f_BadText__init ["self", "row"] (spXiK K "row" okI) :=
  T.F_f_BadText__init.okX sc_f_BadText__init (fun _ _ _ _ h => by obtain ⟨_, _, _, rfl, _⟩ := h; rfl) fun cdv A outer s H vs Q E hr q =>
    ⟨_, pss_cons (ps_expr (pe_minit T.xm T.x_MillError (pa_cons (pe_var (i := 0) rfl (.inl rfl)) (pa_cons (pe_op o_add pe_str (pe_callTy call_str_int (by rfl) T.n_str (by decide +kernel) (pa_cons (pe_var (i := 1) rfl (.inl rfl)) pa_nil))) pa_nil)))) (pss_one (ps_ost (pe_var (i := 0) rfl (.inl rfl)) (pe_var (i := 1) rfl (.inl rfl)))), xi_read q (fun _ _ => Iff.rfl) rfl fun v a Q hv k => by obtain ⟨i, rfl, hi⟩ := hv; exact ⟨.int i, rfl, i, rfl, hi, .inr (.inl ⟨_, _, rfl, rfl, xlen_int (by decide +kernel) hi, k _⟩)⟩⟩
theorem ok_f_formula_shown (T : Tx K mg) : ∀ n : Nat, FnOk P w K mg base (L2.CX P w) (1 + n) T.f_f_formula_shown T.d_f_formula_shown ["formula"] (spOf (gam K) (s_f_formula_shown n))
  | 0 => fn_no
  | n + 1 => fn_ok (Γ := gam K) (N := N_f_formula_shown) (ps := ["formula"]) (k := 1 + n) (fx := []) (body := s_f_formula_shownB (s_f_formula_shown n)) T.F_f_formula_shown sc_f_formula_shown fun cdv A outer s H E hr =>
(gss_cons (gs_set (i := 1) sc_f_formula_shown.nd (ge_lst (ga_val (ge_ix (ix_any (hu65 hr)) d_ixA (ge_var 0) ge_int (fun _ _ => rfl)) ga_nil)))
(gss_cons (gs_for (passes_of rfl) rfl (gi_tup rfl (ge_slice rfl (ge_var 0) (go_some ge_int) go_none)) (gp_name 2 sc_f_formula_shown.nd)
(gss_one (gs_if (gt_val (ge_isi .tup rfl (ge_var 2) (by rfl) T.n_isinstance (by rfl) T.n_tuple (by decide +kernel)))
(gss_one (gs_expr (ge_meth rfl 1 md_append (pe_bm PySem.F.plainAttrs_list PySem.F.slot_list_append PySem.F.type_list_append mt_append (pv 1) (ga_val (ge_call (ok_f_formula_shown T n) (hr.mono (j := 1 + n) (by omega)) T.m_formula_shown T.F_f_formula_shown.kp (b_f_formula_shown T) (takes_of rfl rfl rfl rfl) (ga_val (ge_var 2) ga_nil)) ga_nil))))) (gss_one (gs_expr (ge_meth rfl 1 md_append (pe_bm PySem.F.plainAttrs_list PySem.F.slot_list_append PySem.F.type_list_append mt_append (pv 1) (ga_val (ge_callTy call_strA k_strA (by rfl) T.n_str (by decide +kernel) (ga_val (ge_var 2) ga_nil)) ga_nil))))))))
(gss_one (gs_ret (ge_op2 o_add d_add (ge_op2 o_add d_add ge_str (ge_str1 PySem.F.slot_str_join PySem.F.type_str_join (m_join rfl) s_join ge_str (ge_var 1))) ge_str)))))
theorem ok_f_Works_formula (T : Tx K mg) : FnOk P w K mg base (L2.CX P w) 1 T.f_f_Works_formula T.d_f_Works_formula ["self", "stage"] (spOf (gam K) s_f_Works_formula) :=
  fn_ok (Γ := gam K) (N := N_f_Works_formula) (ps := ["self", "stage"]) (k := 0) (fx := []) (body := s_f_Works_formulaB) T.F_f_Works_formula sc_f_Works_formula fun cdv A outer s H E hr =>
(gss_cons (gs_if (gt_cmp (o_notIn (hu65 hr)) d_notIn (ge_var 1) (ge_fld T.fld_Works_kept_formulas (ge_var 0)) (by rfl))
(gss_one (gs_raise rfl (takes_of rfl rfl rfl rfl) T.xr_NoStage T.x_NoStage)) gss_nil)
(gss_one (gs_ret (ge_ix (ix_any (hu65 hr)) d_ixA (ge_fld T.fld_Works_kept_formulas (ge_var 0)) (ge_var 1) (fun _ _ => rfl)))))
theorem ok_f_Works_stages (T : Tx K mg) : FnOk P w K mg base (L2.CX P w) 1 T.f_f_Works_stages T.d_f_Works_stages ["self"] (spOf (gam K) s_f_Works_stages) :=
  fn_ok (Γ := gam K) (N := N_f_Works_stages) (ps := ["self"]) (k := 0) (fx := []) (body := s_f_Works_stagesB) T.F_f_Works_stages sc_f_Works_stages fun cdv A outer s H E hr =>
(gss_one (gs_ret (ge_callTy (c_list rfl) k_list (by rfl) T.n_list (by decide +kernel) (ga_val (ge_fld T.fld_Works_kept_formulas (ge_var 0)) ga_nil))))
theorem ok_f_Works_row_of (T : Tx K mg) : FnOk P w K mg base (L2.CX P w) 1 T.f_f_Works_row_of T.d_f_Works_row_of ["self", "picture"] (spOf (gam K) s_f_Works_row_of) :=
  fn_ok (Γ := gam K) (N := N_f_Works_row_of) (ps := ["self", "picture"]) (k := 0) (fx := []) (body := s_f_Works_row_ofB) T.F_f_Works_row_of sc_f_Works_row_of fun cdv A outer s H E hr =>
(gss_cons (gs_for (passes_of rfl) rfl (gi_list rfl (ge_fld T.fld_Works_kept_pictures (ge_var 0))) (gp_name 2 sc_f_Works_row_of.nd)
(gss_one (gs_if (gt_cmp (o_eq hr.units) d_eq (ge_ix (ix_any (hu65 hr)) d_ixA (ge_var 2) ge_int (fun _ _ => rfl)) (ge_var 1) (nomark _))
(gss_one (gs_ret (ge_var 2))) gss_nil)))
(gss_one (gs_raise rfl (takes_of rfl rfl rfl rfl) T.xr_NoStage T.x_NoStage)))
theorem ok_f_Works_rim (T : Tx K mg) : FnOk P w K mg base (L2.CX P w) 2 T.f_f_Works_rim T.d_f_Works_rim ["self", "picture"] (spOf (gam K) s_f_Works_rim) :=
  fn_ok (Γ := gam K) (N := N_f_Works_rim) (ps := ["self", "picture"]) (k := 1) (fx := []) (body := s_f_Works_rimB) T.F_f_Works_rim sc_f_Works_rim fun cdv A outer s H E hr =>
(gss_one (gs_ret (ge_ix (ix_any (hu65 hr)) d_ixA (ge_methV ⟨(T.mth_f_Works_row_of).1, (T.mth_f_Works_row_of).2, ok_f_Works_row_of T, b_f_Works_row_of T⟩ (hr.mono (j := 1) (by omega)) (takes_of rfl rfl rfl rfl) (ge_var 0) (ga_val (ge_var 1) ga_nil)) ge_int (fun _ _ => rfl))))
theorem ok_f_Works_size (T : Tx K mg) : FnOk P w K mg base (L2.CX P w) 2 T.f_f_Works_size T.d_f_Works_size ["self", "picture"] (spOf (gam K) s_f_Works_size) :=
  fn_ok (Γ := gam K) (N := N_f_Works_size) (ps := ["self", "picture"]) (k := 1) (fx := []) (body := s_f_Works_sizeB) T.F_f_Works_size sc_f_Works_size fun cdv A outer s H E hr =>
(gss_cons (gs_setF (i := 2) sc_f_Works_size.nd (ge_methV ⟨(T.mth_f_Works_row_of).1, (T.mth_f_Works_row_of).2, ok_f_Works_row_of T, b_f_Works_row_of T⟩ (hr.mono (j := 1) (by omega)) (takes_of rfl rfl rfl rfl) (ge_var 0) (ga_val (ge_var 1) ga_nil)))
(gss_one (gs_ret (ge_tup (ga_val (ge_ix (ix_any (hu65 hr)) d_ixA (ge_var 2) ge_int (fun _ _ => rfl)) (ga_val (ge_ix (ix_any (hu65 hr)) d_ixA (ge_var 2) ge_int (fun _ _ => rfl)) ga_nil))))))
theorem ok_f_Works_pictures (T : Tx K mg) : FnOk P w K mg base (L2.CX P w) 1 T.f_f_Works_pictures T.d_f_Works_pictures ["self"] (spOf (gam K) s_f_Works_pictures) :=
  fn_ok (Γ := gam K) (N := N_f_Works_pictures) (ps := ["self"]) (k := 0) (fx := []) (body := s_f_Works_picturesB) T.F_f_Works_pictures sc_f_Works_pictures fun cdv A outer s H E hr =>
(gss_one (gs_ret (ge_lc rfl sc_f_Works_pictures.nd (gi_list rfl (ge_fld T.fld_Works_kept_pictures (ge_var 0))) (blkOk_by (own := [("row", 1)]) (N := N_f_Works_pictures) (sc := (defScope st_f_Works_pictures)) (by decide +kernel)) (fun _ _ _ _ _ => (gp_name 1 sc_f_Works_pictures.nd)) (fun _ _ _ _ _ => gts_nil) (fun _ _ _ _ _ => (ge_ix (ix_any (hu65 hr)) d_ixA (ge_var 1) ge_int (fun _ _ => rfl))))))
theorem ok_f_works_shown (T : Tx K mg) : FnOk P w K mg base (L2.CX P w) 14 T.f_f_works_shown T.d_f_works_shown ["works"] (spOf (gam K) s_f_works_shown) :=
  fn_ok (Γ := gam K) (N := N_f_works_shown) (ps := ["works"]) (k := 13) (fx := []) (body := s_f_works_shownB) T.F_f_works_shown sc_f_works_shown fun cdv A outer s H E hr =>
(gss_cons (gs_set (i := 1) sc_f_works_shown.nd (ge_lst (ga_val (ge_op2 o_add d_add ge_str (ge_callTy call_str_int k_str (by rfl) T.n_str (by decide +kernel) (ga_val (ge_fld T.fld_Works_measure (ge_var 0)) ga_nil))) ga_nil)))
(gss_cons (gs_for (passes_of rfl) rfl (gi_list rfl (ge_methV0 ⟨(T.mth_f_Works_pictures).1, (T.mth_f_Works_pictures).2, ok_f_Works_pictures T, b_f_Works_pictures T⟩ (hr.mono (j := 1) (by omega)) (takes_of rfl rfl rfl rfl) (ge_var 0))) (gp_name 2 sc_f_works_shown.nd)
(gss_cons (gs_asg (ge_methV ⟨(T.mth_f_Works_size).1, (T.mth_f_Works_size).2, ok_f_Works_size T, b_f_Works_size T⟩ (hr.mono (j := 2) (by omega)) (takes_of rfl rfl rfl rfl) (ge_var 0) (ga_val (ge_var 2) ga_nil)) (gp_tup rfl rfl (gps_cons (gp_name 3 sc_f_works_shown.nd) (gps_cons (gp_name 4 sc_f_works_shown.nd) gps_nil))))
(gss_one (gs_expr (ge_meth rfl 1 md_append (pe_bm PySem.F.plainAttrs_list PySem.F.slot_list_append PySem.F.type_list_append mt_append (pv 1) (ga_val (ge_op2 o_add d_add (ge_op2 o_add d_add (ge_op2 o_add d_add (ge_op2 o_add d_add (ge_op2 o_add d_add (ge_op2 o_add d_add (ge_op2 o_add d_add ge_str (ge_var 2)) ge_str) (ge_callTy call_str_int k_str (by rfl) T.n_str (by decide +kernel) (ga_val (ge_var 3) ga_nil))) ge_str) (ge_callTy call_str_int k_str (by rfl) T.n_str (by decide +kernel) (ga_val (ge_var 4) ga_nil))) ge_str) (ge_callTy call_str_int k_str (by rfl) T.n_str (by decide +kernel) (ga_val (ge_methV ⟨(T.mth_f_Works_rim).1, (T.mth_f_Works_rim).2, ok_f_Works_rim T, b_f_Works_rim T⟩ (hr.mono (j := 2) (by omega)) (takes_of rfl rfl rfl rfl) (ge_var 0) (ga_val (ge_var 2) ga_nil)) ga_nil))) ga_nil)))))))
(gss_cons (gs_for (passes_of rfl) rfl (gi_list rfl (ge_methV0 ⟨(T.mth_f_Works_stages).1, (T.mth_f_Works_stages).2, ok_f_Works_stages T, b_f_Works_stages T⟩ (hr.mono (j := 1) (by omega)) (takes_of rfl rfl rfl rfl) (ge_var 0))) (gp_name 2 sc_f_works_shown.nd)
(gss_one (gs_expr (ge_meth rfl 1 md_append (pe_bm PySem.F.plainAttrs_list PySem.F.slot_list_append PySem.F.type_list_append mt_append (pv 1) (ga_val (ge_op2 o_add d_add (ge_op2 o_add d_add (ge_op2 o_add d_add ge_str (ge_var 2)) ge_str) (ge_call (ok_f_formula_shown T 12) (hr.mono (j := 13) (by omega)) T.m_formula_shown T.F_f_formula_shown.kp (b_f_formula_shown T) (takes_of rfl rfl rfl rfl) (ga_val (ge_methV ⟨(T.mth_f_Works_formula).1, (T.mth_f_Works_formula).2, ok_f_Works_formula T, b_f_Works_formula T⟩ (hr.mono (j := 1) (by omega)) (takes_of rfl rfl rfl rfl) (ge_var 0) (ga_val (ge_var 2) ga_nil)) ga_nil))) ga_nil))))))
(gss_one (gs_ret (ge_str1 PySem.F.slot_str_join PySem.F.type_str_join (m_join rfl) s_join ge_str (ge_var 1)))))))
theorem ok_l_whole (T : Tx K mg) : FnOk P w K mg base (L2.CX P w) 1 T.f_l_whole T.d_l_whole ["_law_found"] (spOf (gam K) s_l_whole) :=
  fn_ok (Γ := gam K) (N := N_l_whole) (ps := ["_law_found"]) (k := 0) (fx := []) (body := s_l_wholeB) T.F_l_whole sc_l_whole fun cdv A outer s H E hr =>
(gss_one (gs_ret (ge_and (ge_isi .int rfl (ge_var 0) (by rfl) T.n_isinstance (by rfl) T.n_int (by decide +kernel)) (pe_one (ge_not (ge_isi .bl rfl (ge_var 0) (by rfl) T.n_isinstance (by rfl) T.n_bool (by decide +kernel)))))))
theorem ok_l_shape (T : Tx K mg) : ∀ n : Nat, FnOk P w K mg base (L2.CX P w) (2 + n) T.f_l_shape T.d_l_shape ["_law_formula_here"] (spOf (gam K) (s_l_shape n))
  | 0 => fn_no
  | n + 1 => fn_ok (Γ := gam K) (N := N_l_shape) (ps := ["_law_formula_here"]) (k := 2 + n) (fx := []) (body := s_l_shapeB (s_l_shape n)) T.F_l_shape sc_l_shape fun cdv A outer s H E hr =>
(gss_cons (gs_if (PW.pt (gw_or (gt_not (gt_val (ge_isi .tup rfl (ge_var 0) (by rfl) T.n_isinstance (by rfl) T.n_tuple (by decide +kernel)))) (pw_or1 (gt_not (gt_val (ge_isi .str rfl (ge_ix (ix_any (hu65 hr)) d_ixA (ge_var 0) ge_int (fun _ _ => rfl)) (by rfl) T.n_isinstance (by rfl) T.n_str (by decide +kernel)))))))
(gss_one (gs_ret ge_bl)) gss_nil)
(gss_cons (gs_if (gt_cmp (o_in (hu65 hr)) d_in (ge_ix (ix_any (hu65 hr)) d_ixA (ge_var 0) ge_int (fun _ _ => rfl)) (ge_tup (ga_val ge_str (ga_val ge_str ga_nil))) (by rfl))
(gss_one (gs_ret (ge_cmp (o_eq hr.units) d_eq (ge_lc rfl sc_l_shape.nd (gi_tup rfl (ge_slice rfl (ge_var 0) (go_some ge_int) go_none)) (blkOk_by (own := [("_law_one", 1)]) (N := N_l_shape) (sc := (defScope st_l_shape)) (by decide +kernel)) (fun _ _ _ _ _ => (gp_name 1 sc_l_shape.nd)) (fun _ _ _ _ _ => (gts_one (PW.pt (gw_and (gt_not (gt_val (ge_isi .str rfl (ge_var 1) (by rfl) T.n_isinstance (by rfl) T.n_str (by decide +kernel)))) (pw_and1 (gt_not (gt_val (ge_call (ok_l_whole T) (hr.mono (j := 1) (by omega)) T.m_l_whole T.F_l_whole.kp (b_l_whole T) takes0 (ga_val (ge_var 1) ga_nil))))))))) (fun _ _ _ _ _ => (ge_var 1))) (ge_lst ga_nil) (nomark _)))) gss_nil)
(gss_one (gs_ret (ge_cmp (o_eq hr.units) d_eq (ge_lc rfl sc_l_shape.nd (gi_tup rfl (ge_slice rfl (ge_var 0) (go_some ge_int) go_none)) (blkOk_by (own := [("_law_one", 1)]) (N := N_l_shape) (sc := (defScope st_l_shape)) (by decide +kernel)) (fun _ _ _ _ _ => (gp_name 1 sc_l_shape.nd)) (fun _ _ _ _ _ => (gts_one (gt_not (gt_val (ge_call (ok_l_shape T n) (hr.mono (j := 2 + n) (by omega)) T.m_l_shape T.F_l_shape.kp (b_l_shape T) takes0 (ga_val (ge_var 1) ga_nil)))))) (fun _ _ _ _ _ => (ge_var 1))) (ge_lst ga_nil) (nomark _))))))
theorem ok_f_look_at_read (T : Tx K mg) : FnOk P w K mg base (L2.CX P w) 1 T.f_f_look_at_read T.d_f_look_at_read ["names", "formula"] (spOf (gam K) s_f_look_at_read) :=
  fn_ok (Γ := gam K) (N := N_f_look_at_read) (ps := ["names", "formula"]) (k := 0) (fx := []) (body := s_f_look_at_readB) T.F_f_look_at_read sc_f_look_at_read fun cdv A outer s H E hr =>
(gss_cons (gs_asg (ge_var 1) (gp_tup rfl rfl (gps_cons (gp_name 2 sc_f_look_at_read.nd) (gps_cons (gp_name 3 sc_f_look_at_read.nd) (gps_cons (gp_name 4 sc_f_look_at_read.nd) (gps_cons (gp_name 5 sc_f_look_at_read.nd) gps_nil))))))
(gss_cons (gs_if (gt_cmp (o_notIn (hu65 hr)) d_notIn (ge_var 3) (ge_var 0) (by rfl))
(gss_one (gs_raise rfl (takes_of rfl rfl rfl rfl) T.xr_NoStage T.x_NoStage)) gss_nil)
(gss_one (gs_if (PW.pt (gw_or (gt_cmp op_gt d_gt (ge_callB call_abs k_abs (by rfl) T.n_abs (by decide +kernel) (ga_val (ge_var 4) ga_nil)) (ge_globI T.m_FARTHEST T.r_FARTHEST) (nomark _)) (pw_or1 (gt_cmp op_gt d_gt (ge_callB call_abs k_abs (by rfl) T.n_abs (by decide +kernel) (ga_val (ge_var 5) ga_nil)) (ge_globI T.m_FARTHEST T.r_FARTHEST) (nomark _)))))
(gss_one (gs_raise rfl (takes_of rfl rfl rfl rfl) T.xr_BadStep T.x_BadStep)) gss_nil))))
theorem ok_f_look_at_number (T : Tx K mg) : FnOk P w K mg base (L2.CX P w) 1 T.f_f_look_at_number T.d_f_look_at_number ["number"] (spOf (gam K) s_f_look_at_number) :=
  fn_ok (Γ := gam K) (N := N_f_look_at_number) (ps := ["number"]) (k := 0) (fx := []) (body := s_f_look_at_numberB) T.F_f_look_at_number sc_f_look_at_number fun cdv A outer s H E hr =>
(gss_one (gs_if (PW.pt (gw_or (gt_cmp op_lt d_lt (ge_var 0) ge_int (nomark _)) (pw_or1 (gt_cmp op_ge d_ge (ge_var 0) (ge_globI T.m_GREATEST T.r_GREATEST) (nomark _)))))
(gss_one (gs_raise rfl (takes_of rfl rfl rfl rfl) T.xr_BadNumber T.x_BadNumber)) gss_nil))
theorem ok_f_wanted_behind (T : Tx K mg) : FnOk P w K mg base (L2.CX P w) 1 T.f_f_wanted_behind T.d_f_wanted_behind ["word"] (spOf (gam K) s_f_wanted_behind) :=
  fn_ok (Γ := gam K) (N := N_f_wanted_behind) (ps := ["word"]) (k := 0) (fx := []) (body := s_f_wanted_behindB) T.F_f_wanted_behind sc_f_wanted_behind fun cdv A outer s H E hr =>
(gss_cons (gs_if (gt_cmp (o_in (hu65 hr)) d_in (ge_var 0) (ge_globL rfl T.m_PAIRS T.l_PAIRS) (by rfl))
(gss_one (gs_ret ge_int)) gss_nil)
(gss_cons (gs_if (PW.pt (gw_or (gt_cmp (o_eq hr.units) d_eq (ge_var 0) ge_str (nomark _)) (pw_or1 (gt_cmp (o_eq hr.units) d_eq (ge_var 0) ge_str (nomark _)))))
(gss_one (gs_ret ge_int)) gss_nil)
(gss_cons (gs_if (gt_cmp (o_eq hr.units) d_eq (ge_var 0) ge_str (nomark _))
(gss_one (gs_ret ge_int)) gss_nil)
(gss_cons (gs_if (PW.pt (gw_or (gt_cmp (o_eq hr.units) d_eq (ge_var 0) ge_str (nomark _)) (pw_or1 (gt_cmp (o_eq hr.units) d_eq (ge_var 0) ge_str (nomark _)))))
(gss_one (gs_ret ge_int)) gss_nil)
(gss_one (gs_raise rfl (takes_of rfl rfl rfl rfl) T.xr_NoDeed T.x_NoDeed))))))
theorem ok_f_look_at_formula (T : Tx K mg) : ∀ n : Nat, FnOk P w K mg base (L2.CX P w) (2 + n) T.f_f_look_at_formula T.d_f_look_at_formula ["names", "formula"] (spOf (gam K) (s_f_look_at_formula n))
  | 0 => fn_no
  | n + 1 => fn_ok (Γ := gam K) (N := N_f_look_at_formula) (ps := ["names", "formula"]) (k := 2 + n) (fx := []) (body := s_f_look_at_formulaB (s_f_look_at_formula n)) T.F_f_look_at_formula sc_f_look_at_formula fun cdv A outer s H E hr =>
(gss_cons (gs_setF (i := 2) sc_f_look_at_formula.nd (ge_ix (ix_any (hu65 hr)) d_ixA (ge_var 1) ge_int (fun _ _ => rfl)))
(gss_cons (gs_if (gt_cmp (o_ne hr.units) d_ne (ge_op2 op_sub d_sub (ge_callB c_len k_len (by rfl) T.n_len (by decide +kernel) (ga_val (ge_var 1) ga_nil)) ge_int) (ge_call (ok_f_wanted_behind T) (hr.mono (j := 1) (by omega)) T.m_wanted_behind T.F_f_wanted_behind.kp (b_f_wanted_behind T) (takes_of rfl rfl rfl rfl) (ga_val (ge_var 2) ga_nil)) (nomark _))
(gss_one (gs_raise rfl (takes_of rfl rfl rfl rfl) T.xr_BadCount T.x_BadCount)) gss_nil)
(gss_one (gs_if (gt_cmp (o_eq hr.units) d_eq (ge_var 2) ge_str (nomark _))
(gss_one (gs_expr (ge_call (ok_f_look_at_number T) (hr.mono (j := 1) (by omega)) T.m_look_at_number T.F_f_look_at_number.kp (b_f_look_at_number T) (takes_of rfl rfl rfl rfl) (ga_val (ge_ix (ix_any (hu65 hr)) d_ixA (ge_var 1) ge_int (fun _ _ => rfl)) ga_nil)))) (gss_one (gs_if (gt_cmp (o_eq hr.units) d_eq (ge_var 2) ge_str (nomark _))
(gss_one (gs_expr (ge_call (ok_f_look_at_read T) (hr.mono (j := 1) (by omega)) T.m_look_at_read T.F_f_look_at_read.kp (b_f_look_at_read T) (takes_of rfl rfl rfl rfl) (ga_val (ge_var 0) (ga_val (ge_var 1) ga_nil))))) (gss_one (gs_for (passes_of rfl) rfl (gi_tup rfl (ge_slice rfl (ge_var 1) (go_some ge_int) go_none)) (gp_name 3 sc_f_look_at_formula.nd)
(gss_one (gs_expr (ge_call (ok_f_look_at_formula T n) (hr.mono (j := 2 + n) (by omega)) T.m_look_at_formula T.F_f_look_at_formula.kp (b_f_look_at_formula T) (takes_of rfl rfl rfl rfl) (ga_val (ge_var 0) (ga_val (ge_var 3) ga_nil)))))))))))))
theorem ok_f_all_letters (T : Tx K mg) : FnOk P w K mg base (L2.CX P w) 1 T.f_f_all_letters T.d_f_all_letters ["text"] (spOf (gam K) s_f_all_letters) :=
  fn_ok (Γ := gam K) (N := N_f_all_letters) (ps := ["text"]) (k := 0) (fx := []) (body := s_f_all_lettersB) T.F_f_all_letters sc_f_all_letters fun cdv A outer s H E hr =>
(gss_cons (gs_for (passes_of rfl) rfl (gi_str (ge_var 0)) (gp_name 1 sc_f_all_letters.nd)
(gss_one (gs_if (gt_cmp (o_notIn (hu65 hr)) d_notIn (ge_var 1) (ge_globS T.m_LETTERS T.r_LETTERS) (by rfl))
(gss_one (gs_ret ge_bl)) gss_nil)))
(gss_one (gs_ret ge_bl)))
theorem ok_f_is_name (T : Tx K mg) : FnOk P w K mg base (L2.CX P w) 2 T.f_f_is_name T.d_f_is_name ["text"] (spOf (gam K) s_f_is_name) :=
  fn_ok (Γ := gam K) (N := N_f_is_name) (ps := ["text"]) (k := 1) (fx := []) (body := s_f_is_nameB) T.F_f_is_name sc_f_is_name fun cdv A outer s H E hr =>
(gss_one (gs_ret (ge_and (ge_chain op_lt d_lt op_le d_le ge_int (ge_callB c_len k_len (by rfl) T.n_len (by decide +kernel) (ga_val (ge_var 0) ga_nil)) (ge_globI T.m_LONGEST T.r_LONGEST)) (pe_one (ge_call (ok_f_all_letters T) (hr.mono (j := 1) (by omega)) T.m_all_letters T.F_f_all_letters.kp (b_f_all_letters T) (takes_of rfl rfl rfl rfl) (ga_val (ge_var 0) ga_nil))))))
theorem ok_f_look_at_name (T : Tx K mg) : FnOk P w K mg base (L2.CX P w) 3 T.f_f_look_at_name T.d_f_look_at_name ["names", "name"] (spOf (gam K) s_f_look_at_name) :=
  fn_ok (Γ := gam K) (N := N_f_look_at_name) (ps := ["names", "name"]) (k := 2) (fx := []) (body := s_f_look_at_nameB) T.F_f_look_at_name sc_f_look_at_name fun cdv A outer s H E hr =>
(gss_cons (gs_if (gt_not (gt_val (ge_call (ok_f_is_name T) (hr.mono (j := 2) (by omega)) T.m_is_name T.F_f_is_name.kp (b_f_is_name T) (takes_of rfl rfl rfl rfl) (ga_val (ge_var 1) ga_nil))))
(gss_one (gs_raise rfl (takes_of rfl rfl rfl rfl) T.xr_BadName T.x_BadName)) gss_nil)
(gss_one (gs_if (gt_cmp (o_in (hu65 hr)) d_in (ge_var 1) (ge_var 0) (by rfl))
(gss_one (gs_raise rfl (takes_of rfl rfl rfl rfl) T.xr_Twice T.x_Twice)) gss_nil)))
theorem ok_f_look_at_stages (T : Tx K mg) : FnOk P w K mg base (L2.CX P w) 15 T.f_f_look_at_stages T.d_f_look_at_stages ["names", "stages"] (spOf (gam K) s_f_look_at_stages) :=
  fn_ok (Γ := gam K) (N := N_f_look_at_stages) (ps := ["names", "stages"]) (k := 14) (fx := [0]) (body := s_f_look_at_stagesB) T.F_f_look_at_stages sc_f_look_at_stages fun cdv A outer s H E hr =>
(gss_cons (gs_if (PW.pt (gw_or (gt_cmp op_lt d_lt (ge_callB c_len k_len (by rfl) T.n_len (by decide +kernel) (ga_val (ge_var 1) ga_nil)) ge_int (nomark _)) (pw_or1 (gt_cmp op_gt d_gt (ge_callB c_len k_len (by rfl) T.n_len (by decide +kernel) (ga_val (ge_var 1) ga_nil)) (ge_globI T.m_MOST_STAGES T.r_MOST_STAGES) (nomark _)))))
(gss_one (gs_raise rfl (takes_of rfl rfl rfl rfl) T.xr_BadCount T.x_BadCount)) gss_nil)
(gss_one (gs_for (passes_of rfl) rfl (gi_list rfl (ge_var 1)) (gp_tup rfl rfl (gps_cons (gp_name 2 sc_f_look_at_stages.nd) (gps_cons (gp_name 3 sc_f_look_at_stages.nd) gps_nil)))
(gss_cons (gs_expr (ge_view (ge_call (ok_f_look_at_name T) (hr.mono (j := 3) (by omega)) T.m_look_at_name T.F_f_look_at_name.kp (b_f_look_at_name T) (takes_of rfl rfl rfl rfl) (ga_val (ge_var 0) (ga_val (ge_var 2) ga_nil)))))
(gss_cons (gs_expr (ge_view (ge_call (ok_f_look_at_formula T 12) (hr.mono (j := 14) (by omega)) T.m_look_at_formula T.F_f_look_at_formula.kp (b_f_look_at_formula T) (takes_of rfl rfl rfl rfl) (ga_val (ge_var 0) (ga_val (ge_var 3) ga_nil)))))
(gss_one (gs_expr (ge_meth rfl 0 md_append (pe_bm PySem.F.plainAttrs_list PySem.F.slot_list_append PySem.F.type_list_append mt_append (pv 0) (ga_val (ge_var 2) ga_nil))))))))))
theorem ok_f_look_at_pictures (T : Tx K mg) : FnOk P w K mg base (L2.CX P w) 4 T.f_f_look_at_pictures T.d_f_look_at_pictures ["pictures"] (spOf (gam K) s_f_look_at_pictures) :=
  fn_ok (Γ := gam K) (N := N_f_look_at_pictures) (ps := ["pictures"]) (k := 3) (fx := []) (body := s_f_look_at_picturesB) T.F_f_look_at_pictures sc_f_look_at_pictures fun cdv A outer s H E hr =>
(gss_cons (gs_if (PW.pt (gw_or (gt_cmp op_lt d_lt (ge_callB c_len k_len (by rfl) T.n_len (by decide +kernel) (ga_val (ge_var 0) ga_nil)) ge_int (nomark _)) (pw_or1 (gt_cmp op_gt d_gt (ge_callB c_len k_len (by rfl) T.n_len (by decide +kernel) (ga_val (ge_var 0) ga_nil)) (ge_globI T.m_MOST_PICTURES T.r_MOST_PICTURES) (nomark _)))))
(gss_one (gs_raise rfl (takes_of rfl rfl rfl rfl) T.xr_BadCount T.x_BadCount)) gss_nil)
(gss_cons (gs_set (i := 1) sc_f_look_at_pictures.nd (ge_lst ga_nil))
(gss_cons (gs_for (passes_of rfl) rfl (gi_list rfl (ge_var 0)) (gp_tup rfl rfl (gps_cons (gp_name 2 sc_f_look_at_pictures.nd) (gps_cons (gp_name 3 sc_f_look_at_pictures.nd) (gps_cons (gp_name 4 sc_f_look_at_pictures.nd) (gps_cons (gp_name 5 sc_f_look_at_pictures.nd) gps_nil)))))
(gss_cons (gs_expr (ge_view (ge_call (ok_f_look_at_name T) (hr.mono (j := 3) (by omega)) T.m_look_at_name T.F_f_look_at_name.kp (b_f_look_at_name T) (takes_of rfl rfl rfl rfl) (ga_val (ge_var 1) (ga_val (ge_var 2) ga_nil)))))
(gss_cons (gs_if (PW.pt (gw_or (gt_cmp op_lt d_lt (ge_var 3) ge_int (nomark _)) (gw_or (gt_cmp op_gt d_gt (ge_var 3) (ge_globI T.m_WIDEST T.r_WIDEST) (nomark _)) (gw_or (gt_cmp op_lt d_lt (ge_var 4) ge_int (nomark _)) (pw_or1 (gt_cmp op_gt d_gt (ge_var 4) (ge_globI T.m_WIDEST T.r_WIDEST) (nomark _)))))))
(gss_one (gs_raise rfl (takes_of rfl rfl rfl rfl) T.xr_BadSize T.x_BadSize)) gss_nil)
(gss_cons (gs_expr (ge_call (ok_f_look_at_number T) (hr.mono (j := 1) (by omega)) T.m_look_at_number T.F_f_look_at_number.kp (b_f_look_at_number T) (takes_of rfl rfl rfl rfl) (ga_val (ge_var 5) ga_nil)))
(gss_one (gs_expr (ge_meth rfl 1 md_append (pe_bm PySem.F.plainAttrs_list PySem.F.slot_list_append PySem.F.type_list_append mt_append (pv 1) (ga_val (ge_var 2) ga_nil)))))))))
(gss_one (gs_ret (ge_mv 1))))))
theorem ok_f_Works__init (T : Tx K mg) : FnOk P w K mg base (L2.CX P w) 16 T.f_f_Works__init T.d_f_Works__init ["self", "measure", "pictures", "stages"] (spOf (gam K) s_f_Works__init) :=
  fn_ok (Γ := gam K) (N := N_f_Works__init) (ps := ["self", "measure", "pictures", "stages"]) (k := 15) (fx := [0]) (body := s_f_Works__initB) T.F_f_Works__init sc_f_Works__init fun cdv A outer s H E hr =>
(gss_cons (gs_if (PW.pt (gw_or (gt_cmp op_lt d_lt (ge_var 1) ge_int (nomark _)) (pw_or1 (gt_cmp op_gt d_gt (ge_var 1) (ge_globI T.m_GREATEST T.r_GREATEST) (nomark _)))))
(gss_one (gs_raise rfl (takes_of rfl rfl rfl rfl) T.xr_NoMeasure T.x_NoMeasure)) gss_nil)
(gss_cons (gs_expr (ge_call (ok_f_look_at_stages T) (hr.mono (j := 15) (by omega)) T.m_look_at_stages T.F_f_look_at_stages.kp (b_f_look_at_stages T) (takes_of rfl rfl rfl rfl) (ga_val (ge_call (ok_f_look_at_pictures T) (hr.mono (j := 4) (by omega)) T.m_look_at_pictures T.F_f_look_at_pictures.kp (b_f_look_at_pictures T) (takes_of rfl rfl rfl rfl) (ga_val (ge_var 2) ga_nil)) (ga_val (ge_var 3) ga_nil))))
(gss_cons (gs_stF rfl T.fld_Works_measure (ge_var 1) (gp_root 0))
(gss_cons (gs_stF rfl T.fld_Works_kept_pictures (ge_lc rfl sc_f_Works__init.nd (gi_list rfl (ge_var 2)) (blkOk_by (own := [("name", 4), ("width", 5), ("height", 6), ("rim", 7)]) (N := N_f_Works__init) (sc := (defScope st_f_Works__init)) (by decide +kernel)) (fun _ _ _ _ _ => (gp_tup rfl rfl (gps_cons (gp_name 4 sc_f_Works__init.nd) (gps_cons (gp_name 5 sc_f_Works__init.nd) (gps_cons (gp_name 6 sc_f_Works__init.nd) (gps_cons (gp_name 7 sc_f_Works__init.nd) gps_nil)))))) (fun _ _ _ _ _ => gts_nil) (fun _ _ _ _ _ => (ge_tup (ga_val (ge_var 4) (ga_val (ge_var 5) (ga_val (ge_var 6) (ga_val (ge_var 7) ga_nil))))))) (gp_root 0))
(gss_cons (gs_stF rfl T.fld_Works_kept_formulas ge_dctK (gp_root 0))
(gss_one (gs_for (passes_of rfl) rfl (gi_list rfl (ge_var 3)) (gp_tup rfl rfl (gps_cons (gp_name 4 sc_f_Works__init.nd) (gps_cons (gp_name 8 sc_f_Works__init.nd) gps_nil)))
(gss_one (gs_stI rfl (hu65 hr) (ge_var 8) (gp_fld T.fld_Works_kept_formulas (gp_root 0)) (ge_var 4))))))))))
theorem ok_f_word_of (T : Tx K mg) : FnOk P w K mg base (L2.CX P w) 3 T.f_f_word_of T.d_f_word_of ["text", "row"] (spOf (gam K) s_f_word_of) :=
  fn_ok (Γ := gam K) (N := N_f_word_of) (ps := ["text", "row"]) (k := 2) (fx := []) (body := s_f_word_ofB) T.F_f_word_of sc_f_word_of fun cdv A outer s H E hr =>
(gss_cons (gs_if (PW.pt (gw_or (gt_cmp (o_eq hr.units) d_eq (ge_var 0) ge_str (nomark _)) (pw_or1 (gt_not (gt_val (ge_call (ok_f_all_letters T) (hr.mono (j := 1) (by omega)) T.m_all_letters T.F_f_all_letters.kp (b_f_all_letters T) (takes_of rfl rfl rfl rfl) (ga_val (ge_var 0) ga_nil)))))))
(gss_one (gs_raiseF rfl rfl (takes_of rfl rfl rfl rfl) T.xf_BadText fitI_ok (okx_BadText T) (hr.mono (j := 2) (by omega)) (bx_BadText T) T.x_BadText (ge_var 1))) gss_nil)
(gss_one (gs_ret (ge_var 0))))
theorem ok_f_behind_sign (T : Tx K mg) : FnOk P w K mg base (L2.CX P w) 3 T.f_f_behind_sign T.d_f_behind_sign ["text", "at", "sign", "row"] (spOf (gam K) s_f_behind_sign) :=
  fn_ok (Γ := gam K) (N := N_f_behind_sign) (ps := ["text", "at", "sign", "row"]) (k := 2) (fx := []) (body := s_f_behind_signB) T.F_f_behind_sign sc_f_behind_sign fun cdv A outer s H E hr =>
(gss_cons (gs_if (gt_cmp (o_ne hr.units) d_ne (ge_slice rfl (ge_var 0) (go_some (ge_var 1)) (go_some (ge_op2 o_add d_add (ge_var 1) ge_int))) (ge_var 2) (nomark _))
(gss_one (gs_raiseF rfl rfl (takes_of rfl rfl rfl rfl) T.xf_BadText fitI_ok (okx_BadText T) (hr.mono (j := 2) (by omega)) (bx_BadText T) T.x_BadText (ge_var 3))) gss_nil)
(gss_one (gs_ret (ge_op2 o_add d_add (ge_var 1) ge_int))))
theorem ok_f_is_figures (T : Tx K mg) : FnOk P w K mg base (L2.CX P w) 1 T.f_f_is_figures T.d_f_is_figures ["text", "most"] (spOf (gam K) s_f_is_figures) :=
  fn_ok (Γ := gam K) (N := N_f_is_figures) (ps := ["text", "most"]) (k := 0) (fx := []) (body := s_f_is_figuresB) T.F_f_is_figures sc_f_is_figures fun cdv A outer s H E hr =>
(gss_cons (gs_for (passes_of rfl) rfl (gi_str (ge_var 0)) (gp_name 2 sc_f_is_figures.nd)
(gss_one (gs_if (gt_cmp (o_notIn (hu65 hr)) d_notIn (ge_var 2) (ge_globS T.m_FIGURES T.r_FIGURES) (by rfl))
(gss_one (gs_ret ge_bl)) gss_nil)))
(gss_one (gs_ret (ge_and (ge_chain op_lt d_lt op_le d_le ge_int (ge_callB c_len k_len (by rfl) T.n_len (by decide +kernel) (ga_val (ge_var 0) ga_nil)) (ge_var 1)) (pe_one (ge_or (ge_cmp (o_eq hr.units) d_eq (ge_var 0) ge_str (nomark _)) (pe_one (ge_cmp (o_ne hr.units) d_ne (ge_ix (ix_any (hu65 hr)) d_ixA (ge_var 0) ge_int (fun _ _ => rfl)) ge_str (nomark _)))))))))
theorem ok_f_step_of (T : Tx K mg) : FnOk P w K mg base (L2.CX P w) 3 T.f_f_step_of T.d_f_step_of ["text", "row"] (spOf (gam K) s_f_step_of) :=
  fn_ok (Γ := gam K) (N := N_f_step_of) (ps := ["text", "row"]) (k := 2) (fx := []) (body := s_f_step_ofB) T.F_f_step_of sc_f_step_of fun cdv A outer s H E hr =>
(gss_cons (gs_if (PW.pt (gw_and (gt_val (ge_str1 PySem.F.slot_str_startswith PySem.F.type_str_startswith mt_startswith s_starts (ge_var 0) ge_str)) (gw_and (gt_cmp (o_ne hr.units) d_ne (ge_var 0) ge_str (nomark _)) (pw_and1 (gt_val (ge_call (ok_f_is_figures T) (hr.mono (j := 1) (by omega)) T.m_is_figures T.F_f_is_figures.kp (b_f_is_figures T) (takes_of rfl rfl rfl rfl) (ga_val (ge_slice rfl (ge_var 0) (go_some ge_int) go_none) (ga_val (ge_globI T.m_STEP_FIGURES T.r_STEP_FIGURES) ga_nil))))))))
(gss_one (gs_ret (ge_op2 op_sub d_sub ge_int (ge_callTy call_int_str k_intS (by rfl) T.n_int (by decide +kernel) (ga_val (ge_slice rfl (ge_var 0) (go_some ge_int) go_none) ga_nil))))) gss_nil)
(gss_cons (gs_if (gt_not (gt_val (ge_call (ok_f_is_figures T) (hr.mono (j := 1) (by omega)) T.m_is_figures T.F_f_is_figures.kp (b_f_is_figures T) (takes_of rfl rfl rfl rfl) (ga_val (ge_var 0) (ga_val (ge_globI T.m_STEP_FIGURES T.r_STEP_FIGURES) ga_nil)))))
(gss_one (gs_raiseF rfl rfl (takes_of rfl rfl rfl rfl) T.xf_BadText fitI_ok (okx_BadText T) (hr.mono (j := 2) (by omega)) (bx_BadText T) T.x_BadText (ge_var 1))) gss_nil)
(gss_one (gs_ret (ge_callTy call_int_str k_intS (by rfl) T.n_int (by decide +kernel) (ga_val (ge_var 0) ga_nil))))))
theorem ok_f_number_of (T : Tx K mg) : FnOk P w K mg base (L2.CX P w) 3 T.f_f_number_of T.d_f_number_of ["text", "row"] (spOf (gam K) s_f_number_of) :=
  fn_ok (Γ := gam K) (N := N_f_number_of) (ps := ["text", "row"]) (k := 2) (fx := []) (body := s_f_number_ofB) T.F_f_number_of sc_f_number_of fun cdv A outer s H E hr =>
(gss_cons (gs_if (gt_not (gt_val (ge_call (ok_f_is_figures T) (hr.mono (j := 1) (by omega)) T.m_is_figures T.F_f_is_figures.kp (b_f_is_figures T) (takes_of rfl rfl rfl rfl) (ga_val (ge_var 0) (ga_val (ge_globI T.m_MOST_FIGURES T.r_MOST_FIGURES) ga_nil)))))
(gss_one (gs_raiseF rfl rfl (takes_of rfl rfl rfl rfl) T.xf_BadText fitI_ok (okx_BadText T) (hr.mono (j := 2) (by omega)) (bx_BadText T) T.x_BadText (ge_var 1))) gss_nil)
(gss_one (gs_ret (ge_callTy call_int_str k_intS (by rfl) T.n_int (by decide +kernel) (ga_val (ge_var 0) ga_nil)))))
theorem ok_f_plain_value (T : Tx K mg) : FnOk P w K mg base (L2.CX P w) 4 T.f_f_plain_value T.d_f_plain_value ["word", "k", "text", "row"] (spOf (gam K) s_f_plain_value) :=
  fn_ok (Γ := gam K) (N := N_f_plain_value) (ps := ["word", "k", "text", "row"]) (k := 3) (fx := []) (body := s_f_plain_valueB) T.F_f_plain_value sc_f_plain_value fun cdv A outer s H E hr =>
(gss_cons (gs_if (gt_cmp (o_eq hr.units) d_eq (ge_var 0) ge_str (nomark _))
(gss_one (gs_ret (ge_call (ok_f_number_of T) (hr.mono (j := 3) (by omega)) T.m_number_of T.F_f_number_of.kp (b_f_number_of T) (takes_of rfl rfl rfl rfl) (ga_val (ge_var 2) (ga_val (ge_var 3) ga_nil))))) gss_nil)
(gss_cons (gs_if (gt_cmp (o_eq hr.units) d_eq (ge_var 1) ge_int (nomark _))
(gss_one (gs_ret (ge_call (ok_f_word_of T) (hr.mono (j := 3) (by omega)) T.m_word_of T.F_f_word_of.kp (b_f_word_of T) (takes_of rfl rfl rfl rfl) (ga_val (ge_var 2) (ga_val (ge_var 3) ga_nil))))) gss_nil)
(gss_one (gs_ret (ge_call (ok_f_step_of T) (hr.mono (j := 3) (by omega)) T.m_step_of T.F_f_step_of.kp (b_f_step_of T) (takes_of rfl rfl rfl rfl) (ga_val (ge_var 2) (ga_val (ge_var 3) ga_nil)))))))
theorem ok_f_part_at (T : Tx K mg) : FnOk P w K mg base (L2.CX P w) 1 T.f_f_part_at T.d_f_part_at ["text", "at"] (spOf (gam K) s_f_part_at) :=
  fn_ok (Γ := gam K) (N := N_f_part_at) (ps := ["text", "at"]) (k := 0) (fx := []) (body := s_f_part_atB) T.F_f_part_at sc_f_part_at fun cdv A outer s H E hr =>
(gss_cons (gs_setF (i := 2) sc_f_part_at.nd (ge_var 1))
(gss_cons (gs_while 100000 (passes_of rfl) (PW.pt (gw_and (gt_cmp op_lt d_lt (ge_var 2) (ge_callB c_len k_len (by rfl) T.n_len (by decide +kernel) (ga_val (ge_var 0) ga_nil)) (nomark _)) (pw_and1 (gt_cmp (o_notIn (hu65 hr)) d_notIn (ge_ix (ix_any (hu65 hr)) d_ixA (ge_var 0) (ge_var 2) (fun _ _ => rfl)) ge_str (by rfl)))))
(gss_one (gs_aug sc_f_part_at.nd ip_add i_add ge_int)))
(gss_one (gs_ret (ge_tup (ga_val (ge_slice rfl (ge_var 0) (go_some (ge_var 1)) (go_some (ge_var 2))) (ga_val (ge_var 2) ga_nil)))))))
theorem ok_f_formula_at (T : Tx K mg) : ∀ n : Nat, FnOk P w K mg base (L2.CX P w) (5 + n) T.f_f_formula_at T.d_f_formula_at ["text", "at", "row"] (spOf (gam K) (s_f_formula_at n))
  | 0 => fn_no
  | n + 1 => fn_ok (Γ := gam K) (N := N_f_formula_at) (ps := ["text", "at", "row"]) (k := 5 + n) (fx := []) (body := s_f_formula_atB (s_f_formula_at n)) T.F_f_formula_at sc_f_formula_at fun cdv A outer s H E hr =>
(gss_cons (gs_asg (ge_call (ok_f_part_at T) (hr.mono (j := 1) (by omega)) T.m_part_at T.F_f_part_at.kp (b_f_part_at T) (takes_of rfl rfl rfl rfl) (ga_val (ge_var 0) (ga_val (ge_call (ok_f_behind_sign T) (hr.mono (j := 3) (by omega)) T.m_behind_sign T.F_f_behind_sign.kp (b_f_behind_sign T) (takes_of rfl rfl rfl rfl) (ga_val (ge_var 0) (ga_val (ge_var 1) (ga_val ge_str (ga_val (ge_var 2) ga_nil))))) ga_nil))) (gp_tup rfl rfl (gps_cons (gp_name 3 sc_f_formula_at.nd) (gps_cons (gp_name 1 sc_f_formula_at.nd) gps_nil))))
(gss_cons (gs_if (gt_cmp (o_notIn (hu65 hr)) d_notIn (ge_var 3) (ge_globL rfl T.m_WORDS T.l_WORDS) (by rfl))
(gss_one (gs_raiseF rfl rfl (takes_of rfl rfl rfl rfl) T.xf_BadText fitI_ok (okx_BadText T) (hr.mono (j := 2) (by omega)) (bx_BadText T) T.x_BadText (ge_var 2))) gss_nil)
(gss_cons (gs_set (i := 4) sc_f_formula_at.nd (ge_lst (ga_val (ge_var 3) ga_nil)))
(gss_cons (gs_for (passes_of rfl) rfl (gi_range1 (by rfl) T.n_range (ga_val (ge_call (ok_f_wanted_behind T) (hr.mono (j := 1) (by omega)) T.m_wanted_behind T.F_f_wanted_behind.kp (b_f_wanted_behind T) (takes_of rfl rfl rfl rfl) (ga_val (ge_var 3) ga_nil)) ga_nil)) (gp_name 5 sc_f_formula_at.nd)
(gss_cons (gs_setF (i := 1) sc_f_formula_at.nd (ge_call (ok_f_behind_sign T) (hr.mono (j := 3) (by omega)) T.m_behind_sign T.F_f_behind_sign.kp (b_f_behind_sign T) (takes_of rfl rfl rfl rfl) (ga_val (ge_var 0) (ga_val (ge_var 1) (ga_val ge_str (ga_val (ge_var 2) ga_nil))))))
(gss_cons (gs_if (PW.pt (gw_or (gt_cmp (o_in (hu65 hr)) d_in (ge_var 3) (ge_globL rfl T.m_PAIRS T.l_PAIRS) (by rfl)) (pw_or1 (gt_cmp (o_eq hr.units) d_eq (ge_var 3) ge_str (nomark _)))))
(gss_one (gs_asg (ge_call (ok_f_formula_at T n) (hr.mono (j := 5 + n) (by omega)) T.m_formula_at T.F_f_formula_at.kp (b_f_formula_at T) (takes_of rfl rfl rfl rfl) (ga_val (ge_var 0) (ga_val (ge_var 1) (ga_val (ge_var 2) ga_nil)))) (gp_tup rfl rfl (gps_cons (gp_name 6 sc_f_formula_at.nd) (gps_cons (gp_name 1 sc_f_formula_at.nd) gps_nil))))) (gss_cons (gs_asg (ge_call (ok_f_part_at T) (hr.mono (j := 1) (by omega)) T.m_part_at T.F_f_part_at.kp (b_f_part_at T) (takes_of rfl rfl rfl rfl) (ga_val (ge_var 0) (ga_val (ge_var 1) ga_nil))) (gp_tup rfl rfl (gps_cons (gp_name 6 sc_f_formula_at.nd) (gps_cons (gp_name 1 sc_f_formula_at.nd) gps_nil))))
(gss_one (gs_setF (i := 6) sc_f_formula_at.nd (ge_call (ok_f_plain_value T) (hr.mono (j := 4) (by omega)) T.m_plain_value T.F_f_plain_value.kp (b_f_plain_value T) (takes_of rfl rfl rfl rfl) (ga_val (ge_var 3) (ga_val (ge_var 5) (ga_val (ge_var 6) (ga_val (ge_var 2) ga_nil)))))))))
(gss_one (gs_expr (ge_meth rfl 4 md_append (pe_bm PySem.F.plainAttrs_list PySem.F.slot_list_append PySem.F.type_list_append mt_append (pv 4) (ga_val (ge_var 6) ga_nil))))))))
(gss_one (gs_ret (ge_tup (ga_val (ge_callTy call_tuple_of k_tuple (by rfl) T.n_tuple (by decide +kernel) (ga_val (ge_var 4) ga_nil)) (ga_val (ge_call (ok_f_behind_sign T) (hr.mono (j := 3) (by omega)) T.m_behind_sign T.F_f_behind_sign.kp (b_f_behind_sign T) (takes_of rfl rfl rfl rfl) (ga_val (ge_var 0) (ga_val (ge_var 1) (ga_val ge_str (ga_val (ge_var 2) ga_nil))))) ga_nil)))))))))
theorem ok_f_stage_of (T : Tx K mg) : FnOk P w K mg base (L2.CX P w) 18 T.f_f_stage_of T.d_f_stage_of ["line", "row"] (spOf (gam K) s_f_stage_of) :=
  fn_ok (Γ := gam K) (N := N_f_stage_of) (ps := ["line", "row"]) (k := 17) (fx := []) (body := s_f_stage_ofB) T.F_f_stage_of sc_f_stage_of fun cdv A outer s H E hr =>
(gss_cons (gs_asg (ge_str1 PySem.F.slot_str_partition PySem.F.type_str_partition mt_partition s_part (ge_var 0) ge_str) (gp_tup rfl rfl (gps_cons (gp_name 2 sc_f_stage_of.nd) (gps_cons (gp_name 3 sc_f_stage_of.nd) (gps_cons (gp_name 4 sc_f_stage_of.nd) gps_nil)))))
(gss_cons (gs_setF (i := 5) sc_f_stage_of.nd (ge_str1 PySem.F.slot_str_split PySem.F.type_str_split mt_split s_split (ge_var 2) ge_str))
(gss_cons (gs_if (PW.pt (gw_or (gt_cmp (o_eq hr.units) d_eq (ge_var 3) ge_str (nomark _)) (gw_or (gt_cmp (o_ne hr.units) d_ne (ge_callB c_len k_len (by rfl) T.n_len (by decide +kernel) (ga_val (ge_var 5) ga_nil)) ge_int (nomark _)) (pw_or1 (gt_cmp (o_ne hr.units) d_ne (ge_ix (ix_any (hu65 hr)) d_ixA (ge_var 5) ge_int (fun _ _ => rfl)) ge_str (nomark _))))))
(gss_one (gs_raiseF rfl rfl (takes_of rfl rfl rfl rfl) T.xf_BadText fitI_ok (okx_BadText T) (hr.mono (j := 2) (by omega)) (bx_BadText T) T.x_BadText (ge_var 1))) gss_nil)
(gss_cons (gs_asg (ge_call (ok_f_formula_at T 12) (hr.mono (j := 17) (by omega)) T.m_formula_at T.F_f_formula_at.kp (b_f_formula_at T) (takes_of rfl rfl rfl rfl) (ga_val (ge_var 4) (ga_val ge_int (ga_val (ge_var 1) ga_nil)))) (gp_tup rfl rfl (gps_cons (gp_name 6 sc_f_stage_of.nd) (gps_cons (gp_name 7 sc_f_stage_of.nd) gps_nil))))
(gss_cons (gs_if (gt_cmp (o_ne hr.units) d_ne (ge_var 7) (ge_callB c_len k_len (by rfl) T.n_len (by decide +kernel) (ga_val (ge_var 4) ga_nil)) (nomark _))
(gss_one (gs_raiseF rfl rfl (takes_of rfl rfl rfl rfl) T.xf_BadText fitI_ok (okx_BadText T) (hr.mono (j := 2) (by omega)) (bx_BadText T) T.x_BadText (ge_var 1))) gss_nil)
(gss_one (gs_ret (ge_tup (ga_val (ge_call (ok_f_word_of T) (hr.mono (j := 3) (by omega)) T.m_word_of T.F_f_word_of.kp (b_f_word_of T) (takes_of rfl rfl rfl rfl) (ga_val (ge_ix (ix_any (hu65 hr)) d_ixA (ge_var 5) ge_int (fun _ _ => rfl)) (ga_val (ge_var 1) ga_nil))) (ga_val (ge_var 6) ga_nil))))))))))
theorem ok_f_picture_of (T : Tx K mg) : FnOk P w K mg base (L2.CX P w) 4 T.f_f_picture_of T.d_f_picture_of ["line", "row"] (spOf (gam K) s_f_picture_of) :=
  fn_ok (Γ := gam K) (N := N_f_picture_of) (ps := ["line", "row"]) (k := 3) (fx := []) (body := s_f_picture_ofB) T.F_f_picture_of sc_f_picture_of fun cdv A outer s H E hr =>
(gss_cons (gs_setF (i := 2) sc_f_picture_of.nd (ge_str1 PySem.F.slot_str_split PySem.F.type_str_split mt_split s_split (ge_var 0) ge_str))
(gss_cons (gs_if (PW.pt (gw_or (gt_cmp (o_ne hr.units) d_ne (ge_callB c_len k_len (by rfl) T.n_len (by decide +kernel) (ga_val (ge_var 2) ga_nil)) ge_int (nomark _)) (pw_or1 (gt_cmp (o_ne hr.units) d_ne (ge_ix (ix_any (hu65 hr)) d_ixA (ge_var 2) ge_int (fun _ _ => rfl)) ge_str (nomark _)))))
(gss_one (gs_raiseF rfl rfl (takes_of rfl rfl rfl rfl) T.xf_BadText fitI_ok (okx_BadText T) (hr.mono (j := 2) (by omega)) (bx_BadText T) T.x_BadText (ge_var 1))) gss_nil)
(gss_cons (gs_setLcF (i := 3) rfl sc_f_picture_of.nd (gi_list rfl (ge_slice rfl (ge_var 2) (go_some ge_int) go_none)) (blkOk_by (own := [("part", 4)]) (N := N_f_picture_of) (sc := (defScope st_f_picture_of)) (by decide +kernel)) (fun _ _ _ _ _ => (gp_name 4 sc_f_picture_of.nd)) (fun _ _ _ _ _ => gts_nil) (fun _ _ _ _ _ => (ge_call (ok_f_number_of T) (hr.mono (j := 3) (by omega)) T.m_number_of T.F_f_number_of.kp (b_f_number_of T) takes0 (ga_val (ge_var 4) (ga_val (ge_var 1) ga_nil)))) (sw_true rfl rfl rfl (by decide +kernel)))
(gss_one (gs_ret (ge_tup (ga_val (ge_call (ok_f_word_of T) (hr.mono (j := 3) (by omega)) T.m_word_of T.F_f_word_of.kp (b_f_word_of T) (takes_of rfl rfl rfl rfl) (ga_val (ge_ix (ix_any (hu65 hr)) d_ixA (ge_var 2) ge_int (fun _ _ => rfl)) (ga_val (ge_var 1) ga_nil))) (ga_val (ge_ix (ix_any (hu65 hr)) d_ixA (ge_var 3) ge_int (fun _ _ => rfl)) (ga_val (ge_ix (ix_any (hu65 hr)) d_ixA (ge_var 3) ge_int (fun _ _ => rfl)) (ga_val (ge_ix (ix_any (hu65 hr)) d_ixA (ge_var 3) ge_int (fun _ _ => rfl)) ga_nil))))))))))
theorem ok_f_works_read (T : Tx K mg) : FnOk P w K mg base (L2.CX P w) 19 T.f_f_works_read T.d_f_works_read ["text"] (spOf (gam K) s_f_works_read) :=
  fn_ok (Γ := gam K) (N := N_f_works_read) (ps := ["text"]) (k := 18) (fx := []) (body := s_f_works_readB) T.F_f_works_read sc_f_works_read fun cdv A outer s H E hr =>
(gss_cons (gs_setF (i := 1) sc_f_works_read.nd (ge_str1 PySem.F.slot_str_split PySem.F.type_str_split mt_split s_split (ge_var 0) ge_str))
(gss_cons (gs_setF (i := 2) sc_f_works_read.nd (ge_str1 PySem.F.slot_str_split PySem.F.type_str_split mt_split s_split (ge_ix (ix_any (hu65 hr)) d_ixA (ge_var 1) ge_int (fun _ _ => rfl)) ge_str))
(gss_cons (gs_if (PW.pt (gw_or (gt_cmp (o_ne hr.units) d_ne (ge_callB c_len k_len (by rfl) T.n_len (by decide +kernel) (ga_val (ge_var 2) ga_nil)) ge_int (nomark _)) (pw_or1 (gt_cmp (o_ne hr.units) d_ne (ge_ix (ix_any (hu65 hr)) d_ixA (ge_var 2) ge_int (fun _ _ => rfl)) ge_str (nomark _)))))
(gss_one (gs_raiseF rfl rfl (takes_of rfl rfl rfl rfl) T.xf_BadText fitI_ok (okx_BadText T) (hr.mono (j := 2) (by omega)) (bx_BadText T) T.x_BadText ge_int)) gss_nil)
(gss_cons (gs_setF (i := 3) sc_f_works_read.nd (ge_call (ok_f_number_of T) (hr.mono (j := 3) (by omega)) T.m_number_of T.F_f_number_of.kp (b_f_number_of T) (takes_of rfl rfl rfl rfl) (ga_val (ge_ix (ix_any (hu65 hr)) d_ixA (ge_var 2) ge_int (fun _ _ => rfl)) (ga_val ge_int ga_nil))))
(gss_cons (gs_set (i := 4) sc_f_works_read.nd (ge_lst ga_nil))
(gss_cons (gs_set (i := 5) sc_f_works_read.nd (ge_lst ga_nil))
(gss_cons (gs_for (passes_of rfl) rfl (gi_enum rfl (by rfl) T.n_enumerate (ge_var 1)) (gp_tup rfl rfl (gps_cons (gp_name 6 sc_f_works_read.nd) (gps_cons (gp_name 7 sc_f_works_read.nd) gps_nil)))
(gss_one (gs_if (gt_view (PW.pt (gw_and (gt_cmp op_gt d_gt (ge_var 6) ge_int (nomark _)) (gw_and (gt_cmp (o_eq hr.units) d_eq (ge_var 5) (ge_lst ga_nil) (nomark _)) (pw_and1 (gt_val (ge_str1 PySem.F.slot_str_startswith PySem.F.type_str_startswith mt_startswith s_starts (ge_var 7) ge_str)))))))
(gss_one (gs_expr (ge_meth rfl 4 md_append (pe_bm PySem.F.plainAttrs_list PySem.F.slot_list_append PySem.F.type_list_append mt_append (pv 4) (ga_val (ge_call (ok_f_picture_of T) (hr.mono (j := 4) (by omega)) T.m_picture_of T.F_f_picture_of.kp (b_f_picture_of T) (takes_of rfl rfl rfl rfl) (ga_val (ge_var 7) (ga_val (ge_var 6) ga_nil))) ga_nil))))) (gss_one (gs_if (gt_cmp op_gt d_gt (ge_var 6) ge_int (nomark _))
(gss_one (gs_expr (ge_meth rfl 5 md_append (pe_bm PySem.F.plainAttrs_list PySem.F.slot_list_append PySem.F.type_list_append mt_append (pv 5) (ga_val (ge_call (ok_f_stage_of T) (hr.mono (j := 18) (by omega)) T.m_stage_of T.F_f_stage_of.kp (b_f_stage_of T) (takes_of rfl rfl rfl rfl) (ga_val (ge_var 7) (ga_val (ge_var 6) ga_nil))) ga_nil))))) gss_nil)))))
(gss_one (gs_ret (ge_make T.mk_Works (ok_f_Works__init T) (hr.mono (j := 16 + 1) (by omega)) T.m_Works (b_f_Works__init T) (takes_of rfl rfl rfl rfl) (ga_val (ge_var 3) (ga_val (ge_var 4) (ga_val (ge_var 5) ga_nil)))))))))))))
theorem ok_l_formula_text (T : Tx K mg) : ∀ n : Nat, FnOk P w K mg base (L2.CX P w) (1 + n) T.f_l_formula_text T.d_l_formula_text ["_law_formula_here"] (spOf (gam K) (s_l_formula_text n))
  | 0 => fn_no
  | n + 1 => fn_ok (Γ := gam K) (N := N_l_formula_text) (ps := ["_law_formula_here"]) (k := 1 + n) (fx := []) (body := s_l_formula_textB (s_l_formula_text n)) T.F_l_formula_text sc_l_formula_text fun cdv A outer s H E hr =>
(gss_cons (gs_if (gt_cmp (o_in (hu65 hr)) d_in (ge_ix (ix_any (hu65 hr)) d_ixA (ge_var 0) ge_int (fun _ _ => rfl)) (ge_tup (ga_val ge_str (ga_val ge_str ga_nil))) (by rfl))
(gss_one (gs_ret (ge_op2 o_add d_add (ge_op2 o_add d_add ge_str (ge_ix (ix_any (hu65 hr)) d_ixA (ge_var 0) ge_int (fun _ _ => rfl))) ge_str))) gss_nil)
(gss_cons (gs_if (gt_cmp (o_eq hr.units) d_eq (ge_ix (ix_any (hu65 hr)) d_ixA (ge_var 0) ge_int (fun _ _ => rfl)) ge_str (nomark _))
(gss_one (gs_ret (ge_op2 o_add d_add (ge_op2 o_add d_add ge_str (ge_callTy call_str_int k_str (by rfl) T.n_str (by decide +kernel) (ga_val (ge_ix (ix_any (hu65 hr)) d_ixA (ge_var 0) ge_int (fun _ _ => rfl)) ga_nil))) ge_str))) gss_nil)
(gss_cons (gs_if (gt_cmp (o_eq hr.units) d_eq (ge_ix (ix_any (hu65 hr)) d_ixA (ge_var 0) ge_int (fun _ _ => rfl)) ge_str (nomark _))
(gss_one (gs_ret (ge_op2 o_add d_add (ge_op2 o_add d_add (ge_op2 o_add d_add (ge_op2 o_add d_add (ge_op2 o_add d_add (ge_op2 o_add d_add ge_str (ge_ix (ix_any (hu65 hr)) d_ixA (ge_var 0) ge_int (fun _ _ => rfl))) ge_str) (ge_callTy call_str_int k_str (by rfl) T.n_str (by decide +kernel) (ga_val (ge_ix (ix_any (hu65 hr)) d_ixA (ge_var 0) ge_int (fun _ _ => rfl)) ga_nil))) ge_str) (ge_callTy call_str_int k_str (by rfl) T.n_str (by decide +kernel) (ga_val (ge_ix (ix_any (hu65 hr)) d_ixA (ge_var 0) ge_int (fun _ _ => rfl)) ga_nil))) ge_str))) gss_nil)
(gss_one (gs_ret (ge_op2 o_add d_add (ge_op2 o_add d_add (ge_op2 o_add d_add (ge_op2 o_add d_add ge_str (ge_ix (ix_any (hu65 hr)) d_ixA (ge_var 0) ge_int (fun _ _ => rfl))) ge_str) (ge_str1 PySem.F.slot_str_join PySem.F.type_str_join (m_join rfl) s_join ge_str (ge_lc rfl sc_l_formula_text.nd (gi_tup rfl (ge_slice rfl (ge_var 0) (go_some ge_int) go_none)) (blkOk_by (own := [("_law_one", 1)]) (N := N_l_formula_text) (sc := (defScope st_l_formula_text)) (by decide +kernel)) (fun _ _ _ _ _ => (gp_name 1 sc_l_formula_text.nd)) (fun _ _ _ _ _ => gts_nil) (fun _ _ _ _ _ => (ge_call (ok_l_formula_text T n) (hr.mono (j := 1 + n) (by omega)) T.m_l_formula_text T.F_l_formula_text.kp (b_l_formula_text T) takes0 (ga_val (ge_var 1) ga_nil)))))) ge_str))))))
theorem ok_l_text (T : Tx K mg) : FnOk P w K mg base (L2.CX P w) 14 T.f_l_text T.d_l_text ["_law_parts_here"] (spOf (gam K) s_l_text2) :=
  fn_ok (Γ := gam K) (N := N_l_text) (ps := ["_law_parts_here"]) (k := 13) (fx := []) (body := s_l_text2B) T.F_l_text sc_l_text fun cdv A outer s H E hr =>
(gss_cons (gs_set (i := 1) sc_l_text.nd (ge_lst (ga_val (ge_op2 o_add d_add ge_str (ge_callTy call_str_int k_str (by rfl) T.n_str (by decide +kernel) (ga_val (ge_ix (ix_any (hu65 hr)) d_ixA (ge_var 0) ge_int (fun _ _ => rfl)) ga_nil))) ga_nil)))
(gss_cons (gs_for (passes_of rfl) rfl (gi_list rfl (ge_ix (ix_any (hu65 hr)) d_ixA (ge_var 0) ge_int (fun _ _ => rfl))) (gp_tup rfl rfl (gps_cons (gp_name 2 sc_l_text.nd) (gps_cons (gp_name 3 sc_l_text.nd) (gps_cons (gp_name 4 sc_l_text.nd) (gps_cons (gp_name 5 sc_l_text.nd) gps_nil)))))
(gss_one (gs_expr (ge_meth rfl 1 md_append (pe_bm PySem.F.plainAttrs_list PySem.F.slot_list_append PySem.F.type_list_append mt_append (pv 1) (ga_val (ge_op2 o_add d_add (ge_op2 o_add d_add (ge_op2 o_add d_add (ge_op2 o_add d_add (ge_op2 o_add d_add (ge_op2 o_add d_add (ge_op2 o_add d_add ge_str (ge_var 2)) ge_str) (ge_callTy call_str_int k_str (by rfl) T.n_str (by decide +kernel) (ga_val (ge_var 3) ga_nil))) ge_str) (ge_callTy call_str_int k_str (by rfl) T.n_str (by decide +kernel) (ga_val (ge_var 4) ga_nil))) ge_str) (ge_callTy call_str_int k_str (by rfl) T.n_str (by decide +kernel) (ga_val (ge_var 5) ga_nil))) ga_nil))))))
(gss_cons (gs_for (passes_of rfl) rfl (gi_list rfl (ge_ix (ix_any (hu65 hr)) d_ixA (ge_var 0) ge_int (fun _ _ => rfl))) (gp_tup rfl rfl (gps_cons (gp_name 2 sc_l_text.nd) (gps_cons (gp_name 6 sc_l_text.nd) gps_nil)))
(gss_one (gs_expr (ge_meth rfl 1 md_append (pe_bm PySem.F.plainAttrs_list PySem.F.slot_list_append PySem.F.type_list_append mt_append (pv 1) (ga_val (ge_op2 o_add d_add (ge_op2 o_add d_add (ge_op2 o_add d_add ge_str (ge_var 2)) ge_str) (ge_call (ok_l_formula_text T 12) (hr.mono (j := 13) (by omega)) T.m_l_formula_text T.F_l_formula_text.kp (b_l_formula_text T) (takes_of rfl rfl rfl rfl) (ga_val (ge_var 6) ga_nil))) ga_nil))))))
(gss_one (gs_ret (ge_str1 PySem.F.slot_str_join PySem.F.type_str_join (m_join rfl) s_join ge_str (ge_var 1)))))))
theorem ok_l_measure (T : Tx K mg) : FnOk P w K mg base (L2.CX P w) 1 T.f_l_measure T.d_l_measure ["_law_drawn"] (spOf (gam K) s_l_measure) :=
  fn_ok (Γ := gam K) (N := N_l_measure) (ps := ["_law_drawn"]) (k := 0) (fx := []) (body := s_l_measureB) T.F_l_measure sc_l_measure fun cdv A outer s H E hr =>
(gss_cons (gs_setF (i := 1) sc_l_measure.nd (ge_lst (ga_val ge_int (ga_val ge_int (ga_val ge_int (ga_val (ge_op2 op_pow d_pow ge_int ge_int) (ga_val (ge_op2 op_sub d_sub (ge_op2 op_pow d_pow ge_int ge_int) ge_int) (ga_val (ge_op2 op_pow d_pow ge_int ge_int) ga_nil))))))))
(gss_cons (gs_if (gt_cmp op_gt d_gt (ge_op2 op_mod d_mod (ge_var 0) ge_int) ge_int (nomark _))
(gss_one (gs_ret (ge_ix (ix_any (hu65 hr)) d_ixA (ge_var 1) (ge_op2 op_mod d_mod (ge_op2 o_fdiv d_div (ge_var 0) ge_int) ge_int) (fun _ _ => rfl)))) gss_nil)
(gss_cons (gs_if (gt_cmp (o_eq hr.units) d_eq (ge_op2 op_mod d_mod (ge_var 0) ge_int) ge_int (nomark _))
(gss_one (gs_ret (ge_op2 o_add d_add ge_int (ge_op2 op_mod d_mod (ge_op2 o_fdiv d_div (ge_var 0) ge_int) (ge_op2 op_sub d_sub (ge_op2 op_pow d_pow ge_int ge_int) ge_int))))) gss_nil)
(gss_one (gs_ret (ge_op2 o_add d_add ge_int (ge_op2 op_mod d_mod (ge_op2 o_mulA d_mul (ge_op2 o_add d_add (ge_op2 o_mulA d_mul (ge_var 0) (ge_var 0)) (ge_var 0)) ge_int) (ge_op2 op_sub d_sub (ge_op2 op_pow d_pow ge_int ge_int) ge_int))))))))
theorem ok_l_drawn_at (T : Tx K mg) : FnOk P w K mg base (L2.CX P w) 1 T.f_l_drawn_at T.d_l_drawn_at ["_law_script", "_law_k"] (spOf (gam K) s_l_drawn_at) :=
  fn_ok (Γ := gam K) (N := N_l_drawn_at) (ps := ["_law_script", "_law_k"]) (k := 0) (fx := []) (body := s_l_drawn_atB) T.F_l_drawn_at sc_l_drawn_at fun cdv A outer s H E hr =>
(gss_cons (gs_if (gt_cmp op_lt d_lt (ge_var 1) (ge_callB c_len k_len (by rfl) T.n_len (by decide +kernel) (ga_val (ge_var 0) ga_nil)) (nomark _))
(gss_one (gs_ret (ge_ix (ix_any (hu65 hr)) d_ixA (ge_var 0) (ge_var 1) (fun _ _ => rfl)))) gss_nil)
(gss_one (gs_ret ge_int)))
theorem ok_l_number (T : Tx K mg) : FnOk P w K mg base (L2.CX P w) 1 T.f_l_number T.d_l_number ["_law_drawn"] (spOf (gam K) s_l_number) :=
  fn_ok (Γ := gam K) (N := N_l_number) (ps := ["_law_drawn"]) (k := 0) (fx := []) (body := s_l_numberB) T.F_l_number sc_l_number fun cdv A outer s H E hr =>
(gss_cons (gs_if (gt_cmp (o_eq hr.units) d_eq (ge_op2 op_mod d_mod (ge_var 0) ge_int) ge_int (nomark _))
(gss_one (gs_ret (ge_op2 op_mod d_mod (ge_op2 o_fdiv d_div (ge_var 0) ge_int) ge_int))) gss_nil)
(gss_cons (gs_if (gt_cmp (o_eq hr.units) d_eq (ge_op2 op_mod d_mod (ge_var 0) ge_int) ge_int (nomark _))
(gss_one (gs_ret (ge_op2 op_mod d_mod (ge_op2 o_fdiv d_div (ge_var 0) ge_int) (ge_op2 op_pow d_pow ge_int ge_int)))) gss_nil)
(gss_cons (gs_setF (i := 1) sc_l_number.nd (ge_op2 op_mod d_mod (ge_op2 o_mulA d_mul (ge_op2 o_add d_add (ge_op2 o_add d_add (ge_op2 o_mulA d_mul (ge_var 0) (ge_var 0)) (ge_var 0)) ge_int) ge_int) (ge_op2 o_add d_add (ge_op2 op_pow d_pow ge_int ge_int) ge_int)))
(gss_one (gs_ret (ge_op2 op_mod d_mod (ge_op2 o_mulA d_mul (ge_op2 o_mulA d_mul (ge_op2 o_mulA d_mul (ge_var 1) (ge_var 1)) (ge_var 1)) ge_int) (ge_op2 op_pow d_pow ge_int ge_int)))))))
theorem ok_l_leaf (T : Tx K mg) : FnOk P w K mg base (L2.CX P w) 2 T.f_l_leaf T.d_l_leaf ["_law_names_here", "_law_digit", "_law_purse"] (spOf (gam K) s_l_leaf) :=
  fn_ok (Γ := gam K) (N := N_l_leaf) (ps := ["_law_names_here", "_law_digit", "_law_purse"]) (k := 1) (fx := [2]) (body := s_l_leafB) T.F_l_leaf sc_l_leaf fun cdv A outer s H E hr =>
(gss_cons (gs_setF (i := 3) sc_l_leaf.nd (ge_op2 op_mod d_mod (ge_var 1) ge_int))
(gss_cons (gs_if (gt_view (PW.pt (gw_and (gt_cmp (o_eq hr.units) d_eq (ge_var 3) ge_int (nomark _)) (gw_and (gt_cmp (o_eq hr.units) d_eq (ge_op2 op_mod d_mod (ge_op2 o_fdiv d_div (ge_var 1) ge_int) ge_int) ge_int (nomark _)) (pw_and1 (gt_cmp op_gt d_gt (ge_callB c_len k_len (by rfl) T.n_len (by decide +kernel) (ga_val (ge_var 2) ga_nil)) ge_int (nomark _)))))))
(gss_cons (gs_setF (i := 4) sc_l_leaf.nd ge_int)
(gss_cons (gs_for (passes_of rfl) rfl (gi_range1 (by rfl) T.n_range (ga_val ge_int ga_nil)) (gp_name 5 sc_l_leaf.nd)
(gss_one (gs_setF (i := 4) sc_l_leaf.nd (ge_op2 o_add d_add (ge_op2 o_mulA d_mul (ge_var 4) ge_int) (ge_meth0 rfl 2 md_pop (pe_bm0 PySem.F.plainAttrs_list PySem.F.slot_list_pop PySem.F.type_list_pop mt_pop (pv 2)))))))
(gss_one (gs_ret (ge_tup (ga_val ge_str (ga_val (ge_op2 op_mod d_mod (ge_var 4) (ge_op2 op_pow d_pow ge_int ge_int)) ga_nil))))))) gss_nil)
(gss_cons (gs_if (gt_cmp (o_eq hr.units) d_eq (ge_var 3) ge_int (nomark _))
(gss_one (gs_ret (ge_tup (ga_val ge_str (ga_val (ge_call (ok_l_number T) (hr.mono (j := 1) (by omega)) T.m_l_number T.F_l_number.kp (b_l_number T) (takes_of rfl rfl rfl rfl) (ga_val (ge_op2 o_fdiv d_div (ge_var 1) ge_int) ga_nil)) ga_nil))))) gss_nil)
(gss_cons (gs_if (gt_cmp op_lt d_lt (ge_var 3) ge_int (nomark _))
(gss_one (gs_ret (ge_ix (ix_any (hu65 hr)) d_ixA (ge_lst (ga_val (ge_tup (ga_val ge_str ga_nil)) (ga_val (ge_tup (ga_val ge_str ga_nil)) ga_nil))) (ge_op2 op_sub d_sub (ge_var 3) ge_int) (fun _ _ => rfl)))) gss_nil)
(gss_cons (gs_setF (i := 6) sc_l_leaf.nd (ge_ix (ix_any (hu65 hr)) d_ixA (ge_var 0) (ge_op2 op_sub d_sub (ge_un un_neg d_neg ge_int) (ge_op2 op_mod d_mod (ge_op2 o_fdiv d_div (ge_var 1) ge_int) (ge_callB c_len k_len (by rfl) T.n_len (by decide +kernel) (ga_val (ge_var 0) ga_nil)))) (fun _ _ => rfl)))
(gss_cons (gs_if (gt_cmp op_lt d_lt (ge_var 3) ge_int (nomark _))
(gss_one (gs_setF (i := 6) sc_l_leaf.nd (ge_ix (ix_any (hu65 hr)) d_ixA (ge_var 0) (ge_op2 op_sub d_sub (ge_un un_neg d_neg ge_int) (ge_op2 op_mod d_mod (ge_op2 o_fdiv d_div (ge_var 1) ge_int) (ge_callB (call_min2 rfl) k_min2 (by rfl) T.n_min (by decide +kernel) (ga_val ge_int (ga_val (ge_callB c_len k_len (by rfl) T.n_len (by decide +kernel) (ga_val (ge_var 0) ga_nil)) ga_nil))))) (fun _ _ => rfl)))) gss_nil)
(gss_one (gs_ret (ge_tup (ga_val ge_str (ga_val (ge_var 6) (ga_val (ge_op2 op_sub d_sub (ge_op2 op_mod d_mod (ge_op2 o_fdiv d_div (ge_var 1) ge_int) ge_int) ge_int) (ga_val (ge_op2 op_sub d_sub (ge_op2 op_mod d_mod (ge_op2 o_fdiv d_div (ge_var 1) ge_int) ge_int) ge_int) ga_nil)))))))))))))
theorem ok_l_formula (T : Tx K mg) : ∀ n : Nat, FnOk P w K mg base (L2.CX P w) (3 + n) T.f_l_formula T.d_l_formula ["_law_names_here", "_law_purse", "_law_down"] (spOf (gam K) (s_l_formula n))
  | 0 => fn_no
  | n + 1 => fn_ok (Γ := gam K) (N := N_l_formula) (ps := ["_law_names_here", "_law_purse", "_law_down"]) (k := 3 + n) (fx := [1]) (body := s_l_formulaB (s_l_formula n)) T.F_l_formula sc_l_formula fun cdv A outer s H E hr =>
(gss_cons (gs_setF (i := 3) sc_l_formula.nd (ge_meth0 rfl 1 md_pop (pe_bm0 PySem.F.plainAttrs_list PySem.F.slot_list_pop PySem.F.type_list_pop mt_pop (pv 1))))
(gss_cons (gs_if (PW.pt (gw_or (gt_cmp (o_eq hr.units) d_eq (ge_var 2) ge_int (nomark _)) (pw_or1 (gt_cmp op_lt d_lt (ge_op2 op_mod d_mod (ge_var 3) ge_int) ge_int (nomark _)))))
(gss_one (gs_ret (ge_call (ok_l_leaf T) (hr.mono (j := 2) (by omega)) T.m_l_leaf T.F_l_leaf.kp (b_l_leaf T) (takes_of rfl rfl rfl rfl) (ga_val (ge_var 0) (ga_val (ge_op2 o_fdiv d_div (ge_var 3) ge_int) (ga_lend 1 ga_nil)))))) gss_nil)
(gss_cons (gs_setF (i := 4) sc_l_formula.nd (ge_ix (ix_any (hu65 hr)) d_ixA (ge_lst (ga_val ge_str (ga_val ge_str (ga_val ge_str (ga_val ge_str (ga_val ge_str (ga_val ge_str ga_nil))))))) (ge_op2 op_mod d_mod (ge_op2 o_fdiv d_div (ge_var 3) ge_int) ge_int) (fun _ _ => rfl)))
(gss_cons (gs_set (i := 5) sc_l_formula.nd (ge_lst ga_nil))
(gss_cons (gs_for (passes_of rfl) rfl (gi_range1 (by rfl) T.n_range (ga_val (ge_op2 o_add d_add ge_int (ge_callTy call_int1 k_int (by rfl) T.n_int (by decide +kernel) (ga_val (ge_cmp (o_eq hr.units) d_eq (ge_var 4) ge_str (nomark _)) ga_nil))) ga_nil)) (gp_name 6 sc_l_formula.nd)
(gss_one (gs_expr (ge_meth rfl 5 md_append (pe_bm PySem.F.plainAttrs_list PySem.F.slot_list_append PySem.F.type_list_append mt_append (pv 5) (ga_val (ge_call (ok_l_formula T n) (hr.mono (j := 3 + n) (by omega)) T.m_l_formula T.F_l_formula.kp (b_l_formula T) (takes_of rfl rfl rfl rfl) (ga_val (ge_var 0) (ga_lend 1 (ga_val (ge_op2 op_sub d_sub (ge_var 2) ge_int) ga_nil)))) ga_nil))))))
(gss_one (gs_ret (ge_op2 o_add d_add (ge_tup (ga_val (ge_var 4) ga_nil)) (ge_callTy call_tuple_of k_tuple (by rfl) T.n_tuple (by decide +kernel) (ga_val (ge_var 5) ga_nil))))))))))
theorem ok_l_grown (T : Tx K mg) : FnOk P w K mg base (L2.CX P w) 16 T.f_l_grown T.d_l_grown ["_law_names_here", "_law_purse"] (spOf (gam K) s_l_grown) :=
  fn_ok (Γ := gam K) (N := N_l_grown) (ps := ["_law_names_here", "_law_purse"]) (k := 15) (fx := [1]) (body := s_l_grownB) T.F_l_grown sc_l_grown fun cdv A outer s H E hr =>
(gss_cons (gs_setF (i := 2) sc_l_grown.nd (ge_call (ok_l_formula T 12) (hr.mono (j := 15) (by omega)) T.m_l_formula T.F_l_formula.kp (b_l_formula T) (takes_of rfl rfl rfl rfl) (ga_val (ge_var 0) (ga_lend 1 (ga_val ge_int ga_nil)))))
(gss_cons (gs_for (passes_of rfl) rfl (gi_range1 (by rfl) T.n_range (ga_val (ge_op2 op_mod d_mod (ge_meth0 rfl 1 md_pop (pe_bm0 PySem.F.plainAttrs_list PySem.F.slot_list_pop PySem.F.type_list_pop mt_pop (pv 1))) ge_int) ga_nil)) (gp_name 3 sc_l_grown.nd)
(gss_cons (gs_setF (i := 4) sc_l_grown.nd (ge_meth0 rfl 1 md_pop (pe_bm0 PySem.F.plainAttrs_list PySem.F.slot_list_pop PySem.F.type_list_pop mt_pop (pv 1))))
(gss_cons (gs_setF (i := 5) sc_l_grown.nd (ge_call (ok_l_leaf T) (hr.mono (j := 2) (by omega)) T.m_l_leaf T.F_l_leaf.kp (b_l_leaf T) (takes_of rfl rfl rfl rfl) (ga_val (ge_var 0) (ga_val (ge_op2 o_fdiv d_div (ge_var 4) ge_int) (ga_lend 1 ga_nil)))))
(gss_cons (gs_setF (i := 6) sc_l_grown.nd (ge_ix (ix_any (hu65 hr)) d_ixA (ge_lst (ga_val ge_str (ga_val ge_str (ga_val ge_str (ga_val ge_str (ga_val ge_str ga_nil)))))) (ge_op2 op_mod d_mod (ge_var 4) ge_int) (fun _ _ => rfl)))
(gss_one (gs_setF (i := 2) sc_l_grown.nd (ge_ix (ix_any (hu65 hr)) d_ixA (ge_lst (ga_val (ge_tup (ga_val (ge_var 6) (ga_val (ge_var 5) (ga_val (ge_var 2) ga_nil)))) (ga_val (ge_tup (ga_val (ge_var 6) (ga_val (ge_var 2) (ga_val (ge_var 5) ga_nil)))) ga_nil))) (ge_op2 op_mod d_mod (ge_op2 o_fdiv d_div (ge_var 4) ge_int) ge_int) (fun _ _ => rfl))))))))
(gss_one (gs_ret (ge_var 2)))))
theorem ok_l_digits (T : Tx K mg) : FnOk P w K mg base (L2.CX P w) 1 T.f_l_digits T.d_l_digits ["_law_script", "_law_at", "_law_parts_here"] (spOf (gam K) s_l_digits2) :=
  fn_ok (Γ := gam K) (N := N_l_digits) (ps := ["_law_script", "_law_at", "_law_parts_here"]) (k := 0) (fx := []) (body := s_l_digits2B) T.F_l_digits sc_l_digits fun cdv A outer s H E hr =>
(gss_cons (gs_setF (i := 3) sc_l_digits.nd (ge_callB (cr_sum rfl) k_sum (by rfl) T.n_sum (by decide +kernel) (ga_val (ge_lc rfl sc_l_digits.nd (gi_range3 (by rfl) T.n_range (ga_val (ge_var 1) (ga_val (ge_callB (call_min2 rfl) k_min2 (by rfl) T.n_min (by decide +kernel) (ga_val (ge_callB c_len k_len (by rfl) T.n_len (by decide +kernel) (ga_val (ge_var 0) ga_nil)) (ga_val ge_int ga_nil))) (ga_val (ge_var 2) ga_nil)))) (blkOk_by (own := [("_law_k", 4)]) (N := N_l_digits) (sc := (defScope st_l_digits)) (by decide +kernel)) (fun _ _ _ _ _ => (gp_name 4 sc_l_digits.nd)) (fun _ _ _ _ _ => gts_nil) (fun _ _ _ _ _ => (ge_ix (ix_any (hu65 hr)) d_ixA (ge_var 0) (ge_var 4) (fun _ _ => rfl)))) ga_nil)))
(gss_cons (gs_set (i := 5) sc_l_digits.nd (ge_lst ga_nil))
(gss_cons (gs_setF (i := 6) sc_l_digits.nd (ge_op2 op_mod d_mod (ge_var 3) ge_int))
(gss_cons (gs_setF (i := 7) sc_l_digits.nd (ge_op2 o_fdiv d_div (ge_var 3) ge_int))
(gss_cons (gs_for (passes_of rfl) rfl (gi_range1 (by rfl) T.n_range (ga_val ge_int ga_nil)) (gp_name 4 sc_l_digits.nd)
(gss_cons (gs_setF (i := 6) sc_l_digits.nd (ge_op2 op_mod d_mod (ge_op2 o_add d_add (ge_op2 o_add d_add (ge_op2 o_mulA d_mul (ge_var 6) (ge_var 6)) (ge_var 3)) (ge_var 4)) ge_int))
(gss_cons (gs_expr (ge_meth rfl 5 md_append (pe_bm PySem.F.plainAttrs_list PySem.F.slot_list_append PySem.F.type_list_append mt_append (pv 5) (ga_val (ge_op2 op_mod d_mod (ge_ix (ix_any (hu65 hr)) d_ixA (ge_lst (ga_val (ge_var 7) (ga_val (ge_op2 op_mod d_mod (ge_op2 o_mulA d_mul (ge_var 6) (ge_var 6)) ge_int) ga_nil))) (ge_op2 op_mod d_mod (ge_var 3) ge_int) (fun _ _ => rfl)) ge_int) ga_nil))))
(gss_one (gs_setF (i := 7) sc_l_digits.nd (ge_op2 o_fdiv d_div (ge_var 7) ge_int))))))
(gss_one (gs_ret (ge_listRev rfl rfl (by rfl) T.n_list (by rfl) T.n_reversed (ge_var 5)))))))))
theorem ok_l_mixed (T : Tx K mg) : FnOk P w K mg base (L2.CX P w) 1 T.f_l_mixed T.d_l_mixed ["_law_script", "_law_at", "_law_parts_here"] (spOf (gam K) s_l_mixed) :=
  fn_ok (Γ := gam K) (N := N_l_mixed) (ps := ["_law_script", "_law_at", "_law_parts_here"]) (k := 0) (fx := []) (body := s_l_mixedB) T.F_l_mixed sc_l_mixed fun cdv A outer s H E hr =>
(gss_cons (gs_setF (i := 3) sc_l_mixed.nd (ge_callB (cr_sum rfl) k_sum (by rfl) T.n_sum (by decide +kernel) (ga_val (ge_lc rfl sc_l_mixed.nd (gi_range3 (by rfl) T.n_range (ga_val (ge_var 1) (ga_val (ge_callB (call_min2 rfl) k_min2 (by rfl) T.n_min (by decide +kernel) (ga_val (ge_callB c_len k_len (by rfl) T.n_len (by decide +kernel) (ga_val (ge_var 0) ga_nil)) (ga_val ge_int ga_nil))) (ga_val (ge_var 2) ga_nil)))) (blkOk_by (own := [("_law_k", 4)]) (N := N_l_mixed) (sc := (defScope st_l_mixed)) (by decide +kernel)) (fun _ _ _ _ _ => (gp_name 4 sc_l_mixed.nd)) (fun _ _ _ _ _ => gts_nil) (fun _ _ _ _ _ => (ge_ix (ix_any (hu65 hr)) d_ixA (ge_var 0) (ge_var 4) (fun _ _ => rfl)))) ga_nil)))
(gss_cons (gs_if (gt_cmp (o_eq hr.units) d_eq (ge_op2 op_mod d_mod (ge_var 3) ge_int) ge_int (nomark _))
(gss_one (gs_ret (ge_op2 op_mod d_mod (ge_op2 o_fdiv d_div (ge_var 3) ge_int) (ge_op2 op_pow d_pow ge_int ge_int)))) gss_nil)
(gss_cons (gs_setF (i := 5) sc_l_mixed.nd (ge_op2 o_mulA d_mul (ge_op2 o_add d_add (ge_op2 o_add d_add (ge_op2 o_add d_add (ge_op2 o_mulA d_mul (ge_var 3) (ge_var 3)) (ge_var 3)) (ge_var 1)) ge_int) ge_int))
(gss_one (gs_ret (ge_op2 o_mulA d_mul (ge_op2 op_mod d_mod (ge_op2 o_mulA d_mul (ge_var 5) (ge_var 5)) (ge_op2 o_add d_add (ge_op2 op_pow d_pow ge_int ge_int) ge_int)) (ge_op2 o_add d_add (ge_op2 op_mod d_mod (ge_var 5) ge_int) ge_int)))))))
theorem ok_l_pictures (T : Tx K mg) : FnOk P w K mg base (L2.CX P w) 2 T.f_l_pictures T.d_l_pictures ["_law_script", "_law_names_here", "_law_count"] (spOf (gam K) s_l_pictures) :=
  fn_ok (Γ := gam K) (N := N_l_pictures) (ps := ["_law_script", "_law_names_here", "_law_count"]) (k := 1) (fx := []) (body := s_l_picturesB) T.F_l_pictures sc_l_pictures fun cdv A outer s H E hr =>
(gss_cons (gs_set (i := 3) sc_l_pictures.nd (ge_lst ga_nil))
(gss_cons (gs_for (passes_of rfl) rfl (gi_range1 (by rfl) T.n_range (ga_val (ge_var 2) ga_nil)) (gp_name 4 sc_l_pictures.nd)
(gss_cons (gs_setF (i := 5) sc_l_pictures.nd (ge_op2 o_fdiv d_div (ge_call (ok_l_mixed T) (hr.mono (j := 1) (by omega)) T.m_l_mixed T.F_l_mixed.kp (b_l_mixed T) (takes_of rfl rfl rfl rfl) (ga_val (ge_var 0) (ga_val (ge_op2 o_add d_add ge_int (ge_var 4)) (ga_val ge_int ga_nil)))) ge_int))
(gss_cons (gs_setF (i := 6) sc_l_pictures.nd (ge_op2 o_add d_add ge_int (ge_op2 op_mod d_mod (ge_var 5) ge_int)))
(gss_cons (gs_setF (i := 7) sc_l_pictures.nd (ge_op2 o_add d_add ge_int (ge_op2 op_mod d_mod (ge_op2 o_fdiv d_div (ge_var 5) ge_int) ge_int)))
(gss_cons (gs_if (gt_cmp (o_eq hr.units) d_eq (ge_op2 op_mod d_mod (ge_op2 o_fdiv d_div (ge_var 5) ge_int) ge_int) ge_int (nomark _))
(gss_cons (gs_setF (i := 6) sc_l_pictures.nd ge_int)
(gss_one (gs_setF (i := 7) sc_l_pictures.nd ge_int))) gss_nil)
(gss_cons (gs_if (gt_cmp (o_eq hr.units) d_eq (ge_op2 op_mod d_mod (ge_op2 o_fdiv d_div (ge_var 5) ge_int) ge_int) ge_int (nomark _))
(gss_cons (gs_setF (i := 6) sc_l_pictures.nd ge_int)
(gss_one (gs_setF (i := 7) sc_l_pictures.nd ge_int))) gss_nil)
(gss_one (gs_expr (ge_meth rfl 3 md_append (pe_bm PySem.F.plainAttrs_list PySem.F.slot_list_append PySem.F.type_list_append mt_append (pv 3) (ga_val (ge_tup (ga_val (ge_ix (ix_any (hu65 hr)) d_ixA (ge_var 1) (ge_var 4) (fun _ _ => rfl)) (ga_val (ge_var 6) (ga_val (ge_var 7) (ga_val (ge_call (ok_l_number T) (hr.mono (j := 1) (by omega)) T.m_l_number T.F_l_number.kp (b_l_number T) (takes_of rfl rfl rfl rfl) (ga_val (ge_op2 o_fdiv d_div (ge_var 5) ge_int) ga_nil)) ga_nil))))) ga_nil)))))))))))
(gss_one (gs_ret (ge_mv 3)))))
theorem ok_l_names (T : Tx K mg) : FnOk P w K mg base (L2.CX P w) 1 T.f_l_names T.d_l_names ["_law_drawn", "_law_count"] (spOf (gam K) s_l_names) :=
  fn_ok (Γ := gam K) (N := N_l_names) (ps := ["_law_drawn", "_law_count"]) (k := 0) (fx := []) (body := s_l_namesB) T.F_l_names sc_l_names fun cdv A outer s H E hr =>
(gss_cons (gs_setF (i := 2) sc_l_names.nd ge_str)
(gss_cons (gs_setF (i := 3) sc_l_names.nd (ge_op2 o_mulA d_mul (ge_op2 o_add d_add (ge_op2 o_add d_add (ge_op2 o_mulA d_mul (ge_var 0) (ge_var 0)) (ge_var 0)) ge_int) ge_int))
(gss_cons (gs_setF (i := 4) sc_l_names.nd (ge_op2 o_add d_add ge_int (ge_op2 op_mod d_mod (ge_var 3) ge_int)))
(gss_cons (gs_setF (i := 5) sc_l_names.nd (ge_op2 op_mod d_mod (ge_op2 o_fdiv d_div (ge_var 3) ge_int) (ge_var 4)))
(gss_cons (gs_setLcF (i := 6) rfl sc_l_names.nd (gi_range1 (by rfl) T.n_range (ga_val (ge_var 4) ga_nil)) (blkOk_by (own := [("_law_k", 7)]) (N := N_l_names) (sc := (defScope st_l_names)) (by decide +kernel)) (fun _ _ _ _ _ => (gp_name 7 sc_l_names.nd)) (fun _ _ _ _ _ => gts_nil) (fun _ _ _ _ _ => (ge_ix (ix_any (hu65 hr)) d_ixA (ge_var 2) (ge_op2 op_mod d_mod (ge_op2 o_add d_add (ge_op2 o_fdiv d_div (ge_var 3) (ge_op2 o_add d_add (ge_var 7) ge_int)) (ge_op2 o_mulA d_mul (ge_var 7) (ge_var 7))) ge_int) (fun _ _ => rfl))) (sw_true rfl rfl rfl (by decide +kernel)))
(gss_cons (gs_setF (i := 8) sc_l_names.nd (ge_ix (ix_any (hu65 hr)) d_ixA (ge_lst (ga_val ge_int (ga_val ge_int (ga_val ge_int (ga_val ge_int (ga_val ge_int (ga_val ge_int ga_nil))))))) (ge_op2 op_mod d_mod (ge_op2 o_fdiv d_div (ge_var 3) ge_int) ge_int) (fun _ _ => rfl)))
(gss_cons (gs_set (i := 9) sc_l_names.nd (ge_lst ga_nil))
(gss_cons (gs_for (passes_of rfl) rfl (gi_range1 (by rfl) T.n_range (ga_val (ge_var 1) ga_nil)) (gp_name 7 sc_l_names.nd)
(gss_cons (gs_setF (i := 10) sc_l_names.nd (ge_ix (ix_any (hu65 hr)) d_ixA (ge_var 2) (ge_op2 op_mod d_mod (ge_op2 o_add d_add (ge_op2 o_fdiv d_div (ge_var 3) ge_int) (ge_op2 o_mulA d_mul (ge_var 7) (ge_var 8))) ge_int) (fun _ _ => rfl)))
(gss_one (gs_if (gt_cmp (o_eq hr.units) d_eq (ge_op2 op_mod d_mod (ge_op2 o_fdiv d_div (ge_var 3) ge_int) ge_int) ge_int (nomark _))
(gss_one (gs_expr (ge_meth rfl 9 md_append (pe_bm PySem.F.plainAttrs_list PySem.F.slot_list_append PySem.F.type_list_append mt_append (pv 9) (ga_val (ge_op2 o_mulA d_mul (ge_ix (ix_any (hu65 hr)) d_ixA (ge_var 6) ge_int (fun _ _ => rfl)) (ge_op2 o_add d_add (ge_op2 op_mod d_mod (ge_op2 o_add d_add (ge_var 7) (ge_op2 o_fdiv d_div (ge_var 3) ge_int)) ge_int) ge_int)) ga_nil))))) (gss_one (gs_expr (ge_meth rfl 9 md_append (pe_bm PySem.F.plainAttrs_list PySem.F.slot_list_append PySem.F.type_list_append mt_append (pv 9) (ga_val (ge_op2 o_add d_add (ge_op2 o_add d_add (ge_str1 PySem.F.slot_str_join PySem.F.type_str_join (m_join rfl) s_join ge_str (ge_slice rfl (ge_var 6) go_none (go_some (ge_var 5)))) (ge_var 10)) (ge_str1 PySem.F.slot_str_join PySem.F.type_str_join (m_join rfl) s_join ge_str (ge_slice rfl (ge_var 6) (go_some (ge_op2 o_add d_add (ge_var 5) ge_int)) go_none))) ga_nil)))))))))
(gss_one (gs_ret (ge_mv 9)))))))))))
theorem ok_l_parts (T : Tx K mg) : FnOk P w K mg base (L2.CX P w) 17 T.f_l_parts T.d_l_parts ["_law_script"] (spOf (gam K) s_l_parts5) :=
  fn_ok (Γ := gam K) (N := N_l_parts) (ps := ["_law_script"]) (k := 16) (fx := []) (body := s_l_parts5B) T.F_l_parts sc_l_parts fun cdv A outer s H E hr =>
(gss_cons (gs_setF (i := 1) sc_l_parts.nd (ge_ix (ix_any (hu65 hr)) d_ixA (ge_lst (ga_val ge_int (ga_val ge_int (ga_val ge_int (ga_val ge_int (ga_val ge_int (ga_val ge_int ga_nil))))))) (ge_op2 op_mod d_mod (ge_op2 o_fdiv d_div (ge_call (ok_l_drawn_at T) (hr.mono (j := 1) (by omega)) T.m_l_drawn_at T.F_l_drawn_at.kp (b_l_drawn_at T) (takes_of rfl rfl rfl rfl) (ga_val (ge_var 0) (ga_val ge_int ga_nil))) ge_int) ge_int) (fun _ _ => rfl)))
(gss_cons (gs_setF (i := 2) sc_l_parts.nd (ge_call (ok_l_names T) (hr.mono (j := 1) (by omega)) T.m_l_names T.F_l_names.kp (b_l_names T) (takes_of rfl rfl rfl rfl) (ga_val (ge_call (ok_l_drawn_at T) (hr.mono (j := 1) (by omega)) T.m_l_drawn_at T.F_l_drawn_at.kp (b_l_drawn_at T) (takes_of rfl rfl rfl rfl) (ga_val (ge_var 0) (ga_val ge_int ga_nil))) (ga_val (ge_op2 o_add d_add (ge_var 1) ge_int) ga_nil))))
(gss_cons (gs_setF (i := 3) sc_l_parts.nd (ge_call (ok_l_pictures T) (hr.mono (j := 2) (by omega)) T.m_l_pictures T.F_l_pictures.kp (b_l_pictures T) (takes_of rfl rfl rfl rfl) (ga_val (ge_var 0) (ga_val (ge_var 2) (ga_val (ge_var 1) ga_nil)))))
(gss_cons (gs_set (i := 4) sc_l_parts.nd (ge_lst ga_nil))
(gss_cons (gs_for (passes_of rfl) rfl (gi_range1 (by rfl) T.n_range (ga_val (ge_op2 o_add d_add ge_int (ge_op2 op_mod d_mod (ge_op2 o_fdiv d_div (ge_call (ok_l_drawn_at T) (hr.mono (j := 1) (by omega)) T.m_l_drawn_at T.F_l_drawn_at.kp (b_l_drawn_at T) (takes_of rfl rfl rfl rfl) (ga_val (ge_var 0) (ga_val ge_int ga_nil))) ge_int) ge_int)) ga_nil)) (gp_name 5 sc_l_parts.nd)
(gss_cons (gs_set (i := 6) sc_l_parts.nd (ge_call (ok_l_digits T) (hr.mono (j := 1) (by omega)) T.m_l_digits T.F_l_digits.kp (b_l_digits T) (takes_of rfl rfl rfl rfl) (ga_val (ge_var 0) (ga_val (ge_op2 o_add d_add ge_int (ge_var 5)) (ga_val ge_int ga_nil)))))
(gss_cons (gs_setF (i := 7) sc_l_parts.nd (ge_call (ok_l_leaf T) (hr.mono (j := 2) (by omega)) T.m_l_leaf T.F_l_leaf.kp (b_l_leaf T) (takes_of rfl rfl rfl rfl) (ga_val (ge_slice rfl (ge_var 2) go_none (go_some (ge_op2 o_add d_add (ge_var 1) (ge_var 5)))) (ga_val (ge_meth0 rfl 6 md_pop (pe_bm0 PySem.F.plainAttrs_list PySem.F.slot_list_pop PySem.F.type_list_pop mt_pop (pv 6))) (ga_lend 6 ga_nil)))))
(gss_cons (gs_if (gt_cmp op_lt d_lt (ge_var 5) ge_int (nomark _))
(gss_one (gs_setF (i := 7) sc_l_parts.nd (ge_call (ok_l_grown T) (hr.mono (j := 16) (by omega)) T.m_l_grown T.F_l_grown.kp (b_l_grown T) (takes_of rfl rfl rfl rfl) (ga_val (ge_slice rfl (ge_var 2) go_none (go_some (ge_op2 o_add d_add (ge_var 1) (ge_var 5)))) (ga_lend 6 ga_nil))))) gss_nil)
(gss_one (gs_expr (ge_meth rfl 4 md_append (pe_bm PySem.F.plainAttrs_list PySem.F.slot_list_append PySem.F.type_list_append mt_append (pv 4) (ga_val (ge_tup (ga_val (ge_ix (ix_any (hu65 hr)) d_ixA (ge_var 2) (ge_op2 o_add d_add (ge_var 1) (ge_var 5)) (fun _ _ => rfl)) (ga_val (ge_var 7) ga_nil))) ga_nil)))))))))
(gss_one (gs_ret (ge_tup (ga_val (ge_call (ok_l_measure T) (hr.mono (j := 1) (by omega)) T.m_l_measure T.F_l_measure.kp (b_l_measure T) (takes_of rfl rfl rfl rfl) (ga_val (ge_call (ok_l_drawn_at T) (hr.mono (j := 1) (by omega)) T.m_l_drawn_at T.F_l_drawn_at.kp (b_l_drawn_at T) (takes_of rfl rfl rfl rfl) (ga_val (ge_var 0) (ga_val ge_int ga_nil))) ga_nil)) (ga_val (ge_var 3) (ga_val (ge_var 4) ga_nil)))))))))))
theorem ok_l_law (T : Tx K mg) : FnOk P w K mg base (L2.CX P w) 20 T.f_l_law T.d_l_law ["_law_script"] (spOf (gam K) s_l_law28) :=
  fn_ok (Γ := gam K) (N := N_l_law) (ps := ["_law_script"]) (k := 19) (fx := []) (body := s_l_law28B) T.F_l_law sc_l_law fun cdv A outer s H E hr =>
(gss_cons (gs_setF (i := 1) sc_l_law.nd (ge_call (ok_l_parts T) (hr.mono (j := 17) (by omega)) T.m_l_parts T.F_l_parts.kp (b_l_parts T) (takes_of rfl rfl rfl rfl) (ga_val (ge_var 0) ga_nil)))
(gss_cons (gs_setF (i := 2) sc_l_law.nd (ge_call (ok_l_text T) (hr.mono (j := 14) (by omega)) T.m_l_text T.F_l_text.kp (b_l_text T) (takes_of rfl rfl rfl rfl) (ga_val (ge_var 1) ga_nil)))
(gss_cons (gs_setF (i := 3) sc_l_law.nd (ge_call (ok_f_works_shown T) (hr.mono (j := 14) (by omega)) T.m_works_shown T.F_f_works_shown.kp (b_f_works_shown T) (takes_of rfl rfl rfl rfl) (ga_val (ge_make T.mk_Works (ok_f_Works__init T) (hr.mono (j := 16 + 1) (by omega)) T.m_Works (b_f_Works__init T) (takes_of rfl rfl rfl rfl) (ga_val (ge_ix (ix_any (hu65 hr)) d_ixA (ge_var 1) ge_int (fun _ _ => rfl)) (ga_val (ge_ix (ix_any (hu65 hr)) d_ixA (ge_var 1) ge_int (fun _ _ => rfl)) (ga_val (ge_ix (ix_any (hu65 hr)) d_ixA (ge_var 1) ge_int (fun _ _ => rfl)) ga_nil)))) ga_nil)))
(gss_cons (gs_if (PW.pt (gw_or (gt_not (gt_val (ge_isi .str rfl (ge_var 3) (by rfl) T.n_isinstance (by rfl) T.n_str (by decide +kernel)))) (pw_or1 (gt_cmp (o_ne hr.units) d_ne (ge_var 3) (ge_var 2) (nomark _)))))
(gss_one (gs_ret ge_bl)) gss_nil)
(gss_cons (gs_setF (i := 4) sc_l_law.nd (ge_call (ok_f_works_read T) (hr.mono (j := 19) (by omega)) T.m_works_read T.F_f_works_read.kp (b_f_works_read T) (takes_of rfl rfl rfl rfl) (ga_val (ge_var 2) ga_nil)))
(gss_cons (gs_if (PW.pt (gw_or (gt_not (gt_val (ge_isC rfl T.isC_Works (ge_var 4) (by rfl) T.n_isinstance (by rfl) T.m_Works))) (gw_or (gt_not (gt_val (ge_call (ok_l_whole T) (hr.mono (j := 1) (by omega)) T.m_l_whole T.F_l_whole.kp (b_l_whole T) (takes_of rfl rfl rfl rfl) (ga_val (ge_fld T.fld_Works_measure (ge_var 4)) ga_nil)))) (pw_or1 (gt_cmp (o_ne hr.units) d_ne (ge_fld T.fld_Works_measure (ge_var 4)) (ge_ix (ix_any (hu65 hr)) d_ixA (ge_var 1) ge_int (fun _ _ => rfl)) (nomark _))))))
(gss_one (gs_ret ge_bl)) gss_nil)
(gss_cons (gs_if (PW.pt (gw_or (gt_cmp (o_ne hr.units) d_ne (ge_methV0 ⟨(T.mth_f_Works_pictures).1, (T.mth_f_Works_pictures).2, ok_f_Works_pictures T, b_f_Works_pictures T⟩ (hr.mono (j := 1) (by omega)) (takes_of rfl rfl rfl rfl) (ge_var 4)) (ge_lc rfl sc_l_law.nd (gi_list rfl (ge_ix (ix_any (hu65 hr)) d_ixA (ge_var 1) ge_int (fun _ _ => rfl))) (blkOk_by (own := [("_law_row", 5)]) (N := N_l_law) (sc := (defScope st_l_law)) (by decide +kernel)) (fun _ _ _ _ _ => (gp_name 5 sc_l_law.nd)) (fun _ _ _ _ _ => gts_nil) (fun _ _ _ _ _ => (ge_ix (ix_any (hu65 hr)) d_ixA (ge_var 5) ge_int (fun _ _ => rfl)))) (nomark _)) (pw_or1 (gt_cmp (o_ne hr.units) d_ne (ge_methV0 ⟨(T.mth_f_Works_stages).1, (T.mth_f_Works_stages).2, ok_f_Works_stages T, b_f_Works_stages T⟩ (hr.mono (j := 1) (by omega)) (takes_of rfl rfl rfl rfl) (ge_var 4)) (ge_lc rfl sc_l_law.nd (gi_list rfl (ge_ix (ix_any (hu65 hr)) d_ixA (ge_var 1) ge_int (fun _ _ => rfl))) (blkOk_by (own := [("_law_row", 5)]) (N := N_l_law) (sc := (defScope st_l_law)) (by decide +kernel)) (fun _ _ _ _ _ => (gp_name 5 sc_l_law.nd)) (fun _ _ _ _ _ => gts_nil) (fun _ _ _ _ _ => (ge_ix (ix_any (hu65 hr)) d_ixA (ge_var 5) ge_int (fun _ _ => rfl)))) (nomark _)))))
(gss_one (gs_ret ge_bl)) gss_nil)
(gss_cons (gs_for (passes_of rfl) rfl (gi_list rfl (ge_ix (ix_any (hu65 hr)) d_ixA (ge_var 1) ge_int (fun _ _ => rfl))) (gp_tup rfl rfl (gps_cons (gp_name 6 sc_l_law.nd) (gps_cons (gp_name 7 sc_l_law.nd) (gps_cons (gp_name 8 sc_l_law.nd) (gps_cons (gp_name 9 sc_l_law.nd) gps_nil)))))
(gss_one (gs_if (PW.pt (gw_or (gt_cmp (o_ne hr.units) d_ne (ge_methV ⟨(T.mth_f_Works_size).1, (T.mth_f_Works_size).2, ok_f_Works_size T, b_f_Works_size T⟩ (hr.mono (j := 2) (by omega)) (takes_of rfl rfl rfl rfl) (ge_var 4) (ga_val (ge_var 6) ga_nil)) (ge_tup (ga_val (ge_var 7) (ga_val (ge_var 8) ga_nil))) (nomark _)) (gw_or (gt_not (gt_val (ge_call (ok_l_whole T) (hr.mono (j := 1) (by omega)) T.m_l_whole T.F_l_whole.kp (b_l_whole T) (takes_of rfl rfl rfl rfl) (ga_val (ge_methV ⟨(T.mth_f_Works_rim).1, (T.mth_f_Works_rim).2, ok_f_Works_rim T, b_f_Works_rim T⟩ (hr.mono (j := 2) (by omega)) (takes_of rfl rfl rfl rfl) (ge_var 4) (ga_val (ge_var 6) ga_nil)) ga_nil)))) (pw_or1 (gt_cmp (o_ne hr.units) d_ne (ge_methV ⟨(T.mth_f_Works_rim).1, (T.mth_f_Works_rim).2, ok_f_Works_rim T, b_f_Works_rim T⟩ (hr.mono (j := 2) (by omega)) (takes_of rfl rfl rfl rfl) (ge_var 4) (ga_val (ge_var 6) ga_nil)) (ge_var 9) (nomark _))))))
(gss_one (gs_ret ge_bl)) gss_nil)))
(gss_cons (gs_for (passes_of rfl) rfl (gi_list rfl (ge_ix (ix_any (hu65 hr)) d_ixA (ge_var 1) ge_int (fun _ _ => rfl))) (gp_tup rfl rfl (gps_cons (gp_name 6 sc_l_law.nd) (gps_cons (gp_name 10 sc_l_law.nd) gps_nil)))
(gss_one (gs_if (PW.pt (gw_or (gt_not (gt_val (ge_call (ok_l_shape T 12) (hr.mono (j := 14) (by omega)) T.m_l_shape T.F_l_shape.kp (b_l_shape T) (takes_of rfl rfl rfl rfl) (ga_val (ge_methV ⟨(T.mth_f_Works_formula).1, (T.mth_f_Works_formula).2, ok_f_Works_formula T, b_f_Works_formula T⟩ (hr.mono (j := 1) (by omega)) (takes_of rfl rfl rfl rfl) (ge_var 4) (ga_val (ge_var 6) ga_nil)) ga_nil)))) (pw_or1 (gt_cmp (o_ne hr.units) d_ne (ge_methV ⟨(T.mth_f_Works_formula).1, (T.mth_f_Works_formula).2, ok_f_Works_formula T, b_f_Works_formula T⟩ (hr.mono (j := 1) (by omega)) (takes_of rfl rfl rfl rfl) (ge_var 4) (ga_val (ge_var 6) ga_nil)) (ge_var 10) (nomark _)))))
(gss_one (gs_ret ge_bl)) gss_nil)))
(gss_one (gs_ret (ge_cmp (o_eq hr.units) d_eq (ge_call (ok_f_works_shown T) (hr.mono (j := 14) (by omega)) T.m_works_shown T.F_f_works_shown.kp (b_f_works_shown T) (takes_of rfl rfl rfl rfl) (ga_val (ge_var 4) ga_nil)) (ge_var 2) (nomark _)))))))))))))
end
theorem all_mk {l : PySem.W.OpenLaw} {w : World} {K : PySem.W.Frag} {h : Heap} {mg : Str → Option Value} {fa : Addr} (X : K.In h) (G : h.Ns mainGlobals mg) (hfa : mg "law" = some (.ref fa))
    {C_Works : Addr} (aC_Works : PySem.W.nsIn K mainGlobals "Works" = some (some (.ref C_Works))) (pg_Works : PySem.W.plainGet K C_Works Str.empty = true) (hd_Works : PySem.W.hasDictIn K C_Works = true) (po_Works : PySem.W.plainOver K C_Works = true) (sa_Works : PySem.W.findIn K (.ref C_Works) "__setattr__" = some (some (.builtin "object.__setattr__")))
    (mk_Works : PySem.W.makesIn K C_Works = true) (kc_Works : PySem.W.keepIn K (.ref C_Works) = true)
    (nf_Works_kept_formulas : PySem.W.findIn K (.ref C_Works) "kept_formulas" = some none)
    (nf_Works_kept_pictures : PySem.W.findIn K (.ref C_Works) "kept_pictures" = some none)
    (nf_Works_measure : PySem.W.findIn K (.ref C_Works) "measure" = some none)
    {t_FARTHEST : Tok} (a_FARTHEST : PySem.W.nsIn K mainGlobals "FARTHEST" = some (some (.int 3 t_FARTHEST)))
    {t_FIGURES : Tok} (a_FIGURES : PySem.W.nsIn K mainGlobals "FIGURES" = some (some (.str "0123456789" t_FIGURES)))
    {t_GREATEST : Tok} (a_GREATEST : PySem.W.nsIn K mainGlobals "GREATEST" = some (some (.int 1000000000000000000000000000000000000000000000000000000000000 t_GREATEST)))
    {t_LETTERS : Tok} (a_LETTERS : PySem.W.nsIn K mainGlobals "LETTERS" = some (some (.str "abcdefghijklmnopqrstuvwxyz" t_LETTERS)))
    {t_LONGEST : Tok} (a_LONGEST : PySem.W.nsIn K mainGlobals "LONGEST" = some (some (.int 12 t_LONGEST)))
    {t_MOST_FIGURES : Tok} (a_MOST_FIGURES : PySem.W.nsIn K mainGlobals "MOST_FIGURES" = some (some (.int 61 t_MOST_FIGURES)))
    {t_MOST_PICTURES : Tok} (a_MOST_PICTURES : PySem.W.nsIn K mainGlobals "MOST_PICTURES" = some (some (.int 4 t_MOST_PICTURES)))
    {t_MOST_STAGES : Tok} (a_MOST_STAGES : PySem.W.nsIn K mainGlobals "MOST_STAGES" = some (some (.int 8 t_MOST_STAGES)))
    {p_PAIRS : Addr} {its_PAIRS : Array Value} {n_PAIRS : Nat} {sl_PAIRS : Array (Option Value)} (a_PAIRS : PySem.W.nsIn K mainGlobals "PAIRS" = some (some (.ref p_PAIRS))) (l_PAIRS : K.lookup p_PAIRS = some ⟨.type "list", none, .seq its_PAIRS n_PAIRS, sl_PAIRS⟩) (v_PAIRS : Vals ((["sum", "less", "times", "least", "most"] : List Str).map V.str) its_PAIRS.toList) (w_PAIRS : its_PAIRS.size ≤ 1000)
    {t_STEP_FIGURES : Tok} (a_STEP_FIGURES : PySem.W.nsIn K mainGlobals "STEP_FIGURES" = some (some (.int 3 t_STEP_FIGURES)))
    {t_WIDEST : Tok} (a_WIDEST : PySem.W.nsIn K mainGlobals "WIDEST" = some (some (.int 40 t_WIDEST)))
    {p_WORDS : Addr} {its_WORDS : Array Value} {n_WORDS : Nat} {sl_WORDS : Array (Option Value)} (a_WORDS : PySem.W.nsIn K mainGlobals "WORDS" = some (some (.ref p_WORDS))) (l_WORDS : K.lookup p_WORDS = some ⟨.type "list", none, .seq its_WORDS n_WORDS, sl_WORDS⟩) (v_WORDS : Vals ((["number", "x", "y", "read", "sum", "less", "times", "least", "most", "pick"] : List Str).map V.str) its_WORDS.toList) (w_WORDS : its_WORDS.size ≤ 1000)
    {E_MillError : Addr}
    {E_NoMeasure : Addr}
    {E_BadCount : Addr}
    {E_BadName : Addr}
    {E_Twice : Addr}
    {E_BadSize : Addr}
    {E_BadNumber : Addr}
    {E_NoDeed : Addr}
    {E_NoStage : Addr}
    {E_BadStep : Addr}
    {E_BadText : Addr}
    (aE_MillError : PySem.W.nsIn K mainGlobals "MillError" = some (some (.ref E_MillError)))
    (aE_NoMeasure : PySem.W.nsIn K mainGlobals "NoMeasure" = some (some (.ref E_NoMeasure)))
    (aE_BadCount : PySem.W.nsIn K mainGlobals "BadCount" = some (some (.ref E_BadCount)))
    (aE_BadName : PySem.W.nsIn K mainGlobals "BadName" = some (some (.ref E_BadName)))
    (aE_Twice : PySem.W.nsIn K mainGlobals "Twice" = some (some (.ref E_Twice)))
    (aE_BadSize : PySem.W.nsIn K mainGlobals "BadSize" = some (some (.ref E_BadSize)))
    (aE_BadNumber : PySem.W.nsIn K mainGlobals "BadNumber" = some (some (.ref E_BadNumber)))
    (aE_NoDeed : PySem.W.nsIn K mainGlobals "NoDeed" = some (some (.ref E_NoDeed)))
    (aE_NoStage : PySem.W.nsIn K mainGlobals "NoStage" = some (some (.ref E_NoStage)))
    (aE_BadStep : PySem.W.nsIn K mainGlobals "BadStep" = some (some (.ref E_BadStep)))
    (aE_BadText : PySem.W.nsIn K mainGlobals "BadText" = some (some (.ref E_BadText)))
    (xq_BadCount : PySem.W.excIn K E_BadCount [.type "ValueError", .type "Exception", .type "BaseException", .type "object"] "ValueError.__new__" = true)
    (kE_BadCount : PySem.W.keepIn K (.ref E_BadCount) = true)
    (bE_BadCount : PySem.W.subIn K (.ref E_BadCount) (.type "BaseException") = some true)
    (tE_BadCount : PySem.W.typeIn K (.ref E_BadCount) = some (.type "type"))
    (xq_BadName : PySem.W.excIn K E_BadName [.type "ValueError", .type "Exception", .type "BaseException", .type "object"] "ValueError.__new__" = true)
    (kE_BadName : PySem.W.keepIn K (.ref E_BadName) = true)
    (bE_BadName : PySem.W.subIn K (.ref E_BadName) (.type "BaseException") = some true)
    (tE_BadName : PySem.W.typeIn K (.ref E_BadName) = some (.type "type"))
    (xq_BadNumber : PySem.W.excIn K E_BadNumber [.type "ValueError", .type "Exception", .type "BaseException", .type "object"] "ValueError.__new__" = true)
    (kE_BadNumber : PySem.W.keepIn K (.ref E_BadNumber) = true)
    (bE_BadNumber : PySem.W.subIn K (.ref E_BadNumber) (.type "BaseException") = some true)
    (tE_BadNumber : PySem.W.typeIn K (.ref E_BadNumber) = some (.type "type"))
    (xq_BadSize : PySem.W.excIn K E_BadSize [.type "ValueError", .type "Exception", .type "BaseException", .type "object"] "ValueError.__new__" = true)
    (kE_BadSize : PySem.W.keepIn K (.ref E_BadSize) = true)
    (bE_BadSize : PySem.W.subIn K (.ref E_BadSize) (.type "BaseException") = some true)
    (tE_BadSize : PySem.W.typeIn K (.ref E_BadSize) = some (.type "type"))
    (xq_BadStep : PySem.W.excIn K E_BadStep [.type "ValueError", .type "Exception", .type "BaseException", .type "object"] "ValueError.__new__" = true)
    (kE_BadStep : PySem.W.keepIn K (.ref E_BadStep) = true)
    (bE_BadStep : PySem.W.subIn K (.ref E_BadStep) (.type "BaseException") = some true)
    (tE_BadStep : PySem.W.typeIn K (.ref E_BadStep) = some (.type "type"))
    (xq_NoDeed : PySem.W.excIn K E_NoDeed [.type "ValueError", .type "Exception", .type "BaseException", .type "object"] "ValueError.__new__" = true)
    (kE_NoDeed : PySem.W.keepIn K (.ref E_NoDeed) = true)
    (bE_NoDeed : PySem.W.subIn K (.ref E_NoDeed) (.type "BaseException") = some true)
    (tE_NoDeed : PySem.W.typeIn K (.ref E_NoDeed) = some (.type "type"))
    (xq_NoMeasure : PySem.W.excIn K E_NoMeasure [.type "ValueError", .type "Exception", .type "BaseException", .type "object"] "ValueError.__new__" = true)
    (kE_NoMeasure : PySem.W.keepIn K (.ref E_NoMeasure) = true)
    (bE_NoMeasure : PySem.W.subIn K (.ref E_NoMeasure) (.type "BaseException") = some true)
    (tE_NoMeasure : PySem.W.typeIn K (.ref E_NoMeasure) = some (.type "type"))
    (xq_NoStage : PySem.W.excIn K E_NoStage [.type "ValueError", .type "Exception", .type "BaseException", .type "object"] "ValueError.__new__" = true)
    (kE_NoStage : PySem.W.keepIn K (.ref E_NoStage) = true)
    (bE_NoStage : PySem.W.subIn K (.ref E_NoStage) (.type "BaseException") = some true)
    (tE_NoStage : PySem.W.typeIn K (.ref E_NoStage) = some (.type "type"))
    (xq_Twice : PySem.W.excIn K E_Twice [.type "ValueError", .type "Exception", .type "BaseException", .type "object"] "ValueError.__new__" = true)
    (kE_Twice : PySem.W.keepIn K (.ref E_Twice) = true)
    (bE_Twice : PySem.W.subIn K (.ref E_Twice) (.type "BaseException") = some true)
    (tE_Twice : PySem.W.typeIn K (.ref E_Twice) = some (.type "type"))
    (cnE : PySem.W.specialIn K (.builtin "object.__class__") "__get__" = some (some (.builtin "getset_descriptor.__get__")))
    (ckE : PySem.W.takesIn K (.builtin "object.__class__") = some true)
    (caC_Works : PySem.W.findIn K (.ref C_Works) "__class__" = some (some (.builtin "object.__class__")))
    (cmC_Works : PySem.W.mroIn K C_Works (.type "object") = some true)
    (sC_Works : PySem.W.subIn K (.ref C_Works) (.ref C_Works) = some true)
    (iC_Works : PySem.W.isClsIn K C_Works = true)
    (tC_Works : PySem.W.typeIn K (.ref C_Works) = some (.type "type"))
    (fE_BadText : PySem.W.findIn K (.ref E_BadText) "row" = some none)
    {nmE_BadText qE_BadText : Str} {NE_BadText : Addr} {bsE_BadText bmE_BadText : List Value} {snE_BadText : List Str} {subE_BadText : List Value} {abE_BadText : Bool} {colE_BadText : Option Bool} {ddE_BadText : Option Addr} {k0E_BadText k1E_BadText k2E_BadText k3E_BadText k5E_BadText : Option Value}
    (lE_BadText : K.lookup E_BadText = some (excClassObj nmE_BadText qE_BadText E_BadText NE_BadText bsE_BadText bmE_BadText true snE_BadText subE_BadText abE_BadText colE_BadText ddE_BadText k0E_BadText k1E_BadText k2E_BadText k3E_BadText k5E_BadText "ValueError.__new__"))
    (rE_BadText : PySem.HandSPX.refsVE bmE_BadText = true)
    (saE_BadText : PySem.W.findIn K (.ref E_BadText) "__setattr__" = some (some (.builtin "object.__setattr__")))
    {fX_BadText : Addr} {odX_BadText anX_BadText : Option Addr} {slX_BadText : Array (Option Value)} {ocX_BadText kVX_BadText dcX_BadText pmX_BadText cdX_BadText ctX_BadText : Value}
    (jE_BadText : PySem.W.findIn K (.ref E_BadText) "__init__" = some (some (.ref fX_BadText)))
    (jt_BadText : PySem.W.typeIn K (.ref fX_BadText) = some (.type "function"))
    (jl_BadText : K.lookup fX_BadText = some ⟨ocX_BadText, odX_BadText, .func (PySem.W.fnOf "__init__" "BadText.__init__" (defArgs st_f_BadText__init) (defBody st_f_BadText__init) (defScope st_f_BadText__init) .none kVX_BadText dcX_BadText pmX_BadText anX_BadText cdX_BadText ctX_BadText), slX_BadText⟩)
    (jc_BadText : PySem.W.codeIn K cdX_BadText "BadText.__init__" = true)
    (jk_BadText : PySem.W.keepIn K (.ref fX_BadText) = true)
    (bE_BadText : PySem.W.subIn K (.ref E_BadText) (.type "BaseException") = some true)
    (tE_BadText : PySem.W.typeIn K (.ref E_BadText) = some (.type "type"))
    (kE_BadText : PySem.W.keepIn K (.ref E_BadText) = true)
    (gaM : PySem.W.specialIn K (.ref E_MillError) "__getattribute__" = some (some (.builtin "type.__getattribute__")))
    (rdM : PySem.W.readsIn K E_MillError (.type "type") = true)
    (inM : PySem.W.findCls K (.ref E_MillError) (.type "type") "__init__" = some (.val (.builtin "ValueError.__init__")))
    {f0 : Addr} {od0 an0 : Option Addr} {sl0 : Array (Option Value)} {oc0 kV0 dc0 pm0 cd0 ct0 : Value}
    {f1 : Addr} {od1 an1 : Option Addr} {sl1 : Array (Option Value)} {oc1 kV1 dc1 pm1 cd1 ct1 : Value}
    {f2 : Addr} {od2 an2 : Option Addr} {sl2 : Array (Option Value)} {oc2 kV2 dc2 pm2 cd2 ct2 : Value}
    {f3 : Addr} {od3 an3 : Option Addr} {sl3 : Array (Option Value)} {oc3 kV3 dc3 pm3 cd3 ct3 : Value}
    {f4 : Addr} {od4 an4 : Option Addr} {sl4 : Array (Option Value)} {oc4 kV4 dc4 pm4 cd4 ct4 : Value}
    {f5 : Addr} {od5 an5 : Option Addr} {sl5 : Array (Option Value)} {oc5 kV5 dc5 pm5 cd5 ct5 : Value}
    {f6 : Addr} {od6 an6 : Option Addr} {sl6 : Array (Option Value)} {oc6 kV6 dc6 pm6 cd6 ct6 : Value}
    {f7 : Addr} {od7 an7 : Option Addr} {sl7 : Array (Option Value)} {oc7 kV7 dc7 pm7 cd7 ct7 : Value}
    {f8 : Addr} {od8 an8 : Option Addr} {sl8 : Array (Option Value)} {oc8 kV8 dc8 pm8 cd8 ct8 : Value}
    {f9 : Addr} {od9 an9 : Option Addr} {sl9 : Array (Option Value)} {oc9 kV9 dc9 pm9 cd9 ct9 : Value}
    {f10 : Addr} {od10 an10 : Option Addr} {sl10 : Array (Option Value)} {oc10 kV10 dc10 pm10 cd10 ct10 : Value}
    {f11 : Addr} {od11 an11 : Option Addr} {sl11 : Array (Option Value)} {oc11 kV11 dc11 pm11 cd11 ct11 : Value}
    {f12 : Addr} {od12 an12 : Option Addr} {sl12 : Array (Option Value)} {oc12 kV12 dc12 pm12 cd12 ct12 : Value}
    {f13 : Addr} {od13 an13 : Option Addr} {sl13 : Array (Option Value)} {oc13 kV13 dc13 pm13 cd13 ct13 : Value}
    {f14 : Addr} {od14 an14 : Option Addr} {sl14 : Array (Option Value)} {oc14 kV14 dc14 pm14 cd14 ct14 : Value}
    {f15 : Addr} {od15 an15 : Option Addr} {sl15 : Array (Option Value)} {oc15 kV15 dc15 pm15 cd15 ct15 : Value}
    {f16 : Addr} {od16 an16 : Option Addr} {sl16 : Array (Option Value)} {oc16 kV16 dc16 pm16 cd16 ct16 : Value}
    {f17 : Addr} {od17 an17 : Option Addr} {sl17 : Array (Option Value)} {oc17 kV17 dc17 pm17 cd17 ct17 : Value}
    {f18 : Addr} {od18 an18 : Option Addr} {sl18 : Array (Option Value)} {oc18 kV18 dc18 pm18 cd18 ct18 : Value}
    {f19 : Addr} {od19 an19 : Option Addr} {sl19 : Array (Option Value)} {oc19 kV19 dc19 pm19 cd19 ct19 : Value}
    {f20 : Addr} {od20 an20 : Option Addr} {sl20 : Array (Option Value)} {oc20 kV20 dc20 pm20 cd20 ct20 : Value}
    {f21 : Addr} {od21 an21 : Option Addr} {sl21 : Array (Option Value)} {oc21 kV21 dc21 pm21 cd21 ct21 : Value}
    {f22 : Addr} {od22 an22 : Option Addr} {sl22 : Array (Option Value)} {oc22 kV22 dc22 pm22 cd22 ct22 : Value}
    {f23 : Addr} {od23 an23 : Option Addr} {sl23 : Array (Option Value)} {oc23 kV23 dc23 pm23 cd23 ct23 : Value}
    {f24 : Addr} {od24 an24 : Option Addr} {sl24 : Array (Option Value)} {oc24 kV24 dc24 pm24 cd24 ct24 : Value}
    {f25 : Addr} {od25 an25 : Option Addr} {sl25 : Array (Option Value)} {oc25 kV25 dc25 pm25 cd25 ct25 : Value}
    {f26 : Addr} {od26 an26 : Option Addr} {sl26 : Array (Option Value)} {oc26 kV26 dc26 pm26 cd26 ct26 : Value}
    {f27 : Addr} {od27 an27 : Option Addr} {sl27 : Array (Option Value)} {oc27 kV27 dc27 pm27 cd27 ct27 : Value}
    {f28 : Addr} {od28 an28 : Option Addr} {sl28 : Array (Option Value)} {oc28 kV28 dc28 pm28 cd28 ct28 : Value}
    {f29 : Addr} {od29 an29 : Option Addr} {sl29 : Array (Option Value)} {oc29 kV29 dc29 pm29 cd29 ct29 : Value}
    {f30 : Addr} {od30 an30 : Option Addr} {sl30 : Array (Option Value)} {oc30 kV30 dc30 pm30 cd30 ct30 : Value}
    {f31 : Addr} {od31 an31 : Option Addr} {sl31 : Array (Option Value)} {oc31 kV31 dc31 pm31 cd31 ct31 : Value}
    {f32 : Addr} {od32 an32 : Option Addr} {sl32 : Array (Option Value)} {oc32 kV32 dc32 pm32 cd32 ct32 : Value}
    {f33 : Addr} {od33 an33 : Option Addr} {sl33 : Array (Option Value)} {oc33 kV33 dc33 pm33 cd33 ct33 : Value}
    {f34 : Addr} {od34 an34 : Option Addr} {sl34 : Array (Option Value)} {oc34 kV34 dc34 pm34 cd34 ct34 : Value}
    {f35 : Addr} {od35 an35 : Option Addr} {sl35 : Array (Option Value)} {oc35 kV35 dc35 pm35 cd35 ct35 : Value}
    {f36 : Addr} {od36 an36 : Option Addr} {sl36 : Array (Option Value)} {oc36 kV36 dc36 pm36 cd36 ct36 : Value}
    {f37 : Addr} {od37 an37 : Option Addr} {sl37 : Array (Option Value)} {oc37 kV37 dc37 pm37 cd37 ct37 : Value}
    {f38 : Addr} {od38 an38 : Option Addr} {sl38 : Array (Option Value)} {oc38 kV38 dc38 pm38 cd38 ct38 : Value}
    {f39 : Addr} {od39 an39 : Option Addr} {sl39 : Array (Option Value)} {oc39 kV39 dc39 pm39 cd39 ct39 : Value}
    {f40 : Addr} {od40 an40 : Option Addr} {sl40 : Array (Option Value)} {oc40 kV40 dc40 pm40 cd40 ct40 : Value}
    {f41 : Addr} {od41 an41 : Option Addr} {sl41 : Array (Option Value)} {oc41 kV41 dc41 pm41 cd41 ct41 : Value}
    {f42 : Addr} {od42 an42 : Option Addr} {sl42 : Array (Option Value)} {oc42 kV42 dc42 pm42 cd42 ct42 : Value}
    {f43 : Addr} {od43 an43 : Option Addr} {sl43 : Array (Option Value)} {oc43 kV43 dc43 pm43 cd43 ct43 : Value}
    {f44 : Addr} {od44 an44 : Option Addr} {sl44 : Array (Option Value)} {oc44 kV44 dc44 pm44 cd44 ct44 : Value}
    (a0 : PySem.W.nsIn K mainGlobals "formula_shown" = some (some (.ref f0)))
    (l0 : K.lookup f0 = some ⟨oc0, od0, .func (PySem.W.fnOf "formula_shown" "formula_shown" (defArgs st_f_formula_shown) (defBody st_f_formula_shown) (defScope st_f_formula_shown) .none kV0 dc0 pm0 an0 cd0 ct0), sl0⟩) (c0 : PySem.W.codeIn K cd0 "formula_shown" = true) (k0 : PySem.W.keepIn K (.ref f0) = true)
    (a1 : PySem.W.findIn K (.ref C_Works) "formula" = some (some (.ref f1))) (i1 : PySem.W.isFn K (.ref f1) = true)
    (l1 : K.lookup f1 = some ⟨oc1, od1, .func (PySem.W.fnOf "formula" "Works.formula" (defArgs st_f_Works_formula) (defBody st_f_Works_formula) (defScope st_f_Works_formula) .none kV1 dc1 pm1 an1 cd1 ct1), sl1⟩) (c1 : PySem.W.codeIn K cd1 "Works.formula" = true) (k1 : PySem.W.keepIn K (.ref f1) = true)
    (a2 : PySem.W.findIn K (.ref C_Works) "stages" = some (some (.ref f2))) (i2 : PySem.W.isFn K (.ref f2) = true)
    (l2 : K.lookup f2 = some ⟨oc2, od2, .func (PySem.W.fnOf "stages" "Works.stages" (defArgs st_f_Works_stages) (defBody st_f_Works_stages) (defScope st_f_Works_stages) .none kV2 dc2 pm2 an2 cd2 ct2), sl2⟩) (c2 : PySem.W.codeIn K cd2 "Works.stages" = true) (k2 : PySem.W.keepIn K (.ref f2) = true)
    (a3 : PySem.W.findIn K (.ref C_Works) "row_of" = some (some (.ref f3))) (i3 : PySem.W.isFn K (.ref f3) = true)
    (l3 : K.lookup f3 = some ⟨oc3, od3, .func (PySem.W.fnOf "row_of" "Works.row_of" (defArgs st_f_Works_row_of) (defBody st_f_Works_row_of) (defScope st_f_Works_row_of) .none kV3 dc3 pm3 an3 cd3 ct3), sl3⟩) (c3 : PySem.W.codeIn K cd3 "Works.row_of" = true) (k3 : PySem.W.keepIn K (.ref f3) = true)
    (a4 : PySem.W.findIn K (.ref C_Works) "rim" = some (some (.ref f4))) (i4 : PySem.W.isFn K (.ref f4) = true)
    (l4 : K.lookup f4 = some ⟨oc4, od4, .func (PySem.W.fnOf "rim" "Works.rim" (defArgs st_f_Works_rim) (defBody st_f_Works_rim) (defScope st_f_Works_rim) .none kV4 dc4 pm4 an4 cd4 ct4), sl4⟩) (c4 : PySem.W.codeIn K cd4 "Works.rim" = true) (k4 : PySem.W.keepIn K (.ref f4) = true)
    (a5 : PySem.W.findIn K (.ref C_Works) "size" = some (some (.ref f5))) (i5 : PySem.W.isFn K (.ref f5) = true)
    (l5 : K.lookup f5 = some ⟨oc5, od5, .func (PySem.W.fnOf "size" "Works.size" (defArgs st_f_Works_size) (defBody st_f_Works_size) (defScope st_f_Works_size) .none kV5 dc5 pm5 an5 cd5 ct5), sl5⟩) (c5 : PySem.W.codeIn K cd5 "Works.size" = true) (k5 : PySem.W.keepIn K (.ref f5) = true)
    (a6 : PySem.W.findIn K (.ref C_Works) "pictures" = some (some (.ref f6))) (i6 : PySem.W.isFn K (.ref f6) = true)
    (l6 : K.lookup f6 = some ⟨oc6, od6, .func (PySem.W.fnOf "pictures" "Works.pictures" (defArgs st_f_Works_pictures) (defBody st_f_Works_pictures) (defScope st_f_Works_pictures) .none kV6 dc6 pm6 an6 cd6 ct6), sl6⟩) (c6 : PySem.W.codeIn K cd6 "Works.pictures" = true) (k6 : PySem.W.keepIn K (.ref f6) = true)
    (a7 : PySem.W.nsIn K mainGlobals "works_shown" = some (some (.ref f7)))
    (l7 : K.lookup f7 = some ⟨oc7, od7, .func (PySem.W.fnOf "works_shown" "works_shown" (defArgs st_f_works_shown) (defBody st_f_works_shown) (defScope st_f_works_shown) .none kV7 dc7 pm7 an7 cd7 ct7), sl7⟩) (c7 : PySem.W.codeIn K cd7 "works_shown" = true) (k7 : PySem.W.keepIn K (.ref f7) = true)
    (a8 : PySem.W.nsIn K mainGlobals "_law_whole" = some (some (.ref f8)))
    (l8 : K.lookup f8 = some ⟨oc8, od8, .func (PySem.W.fnOf "_law_whole" "_law_whole" (defArgs st_l_whole) (defBody st_l_whole) (defScope st_l_whole) .none kV8 dc8 pm8 an8 cd8 ct8), sl8⟩) (c8 : PySem.W.codeIn K cd8 "_law_whole" = true) (k8 : PySem.W.keepIn K (.ref f8) = true)
    (a9 : PySem.W.nsIn K mainGlobals "_law_shape" = some (some (.ref f9)))
    (l9 : K.lookup f9 = some ⟨oc9, od9, .func (PySem.W.fnOf "_law_shape" "_law_shape" (defArgs st_l_shape) (defBody st_l_shape) (defScope st_l_shape) .none kV9 dc9 pm9 an9 cd9 ct9), sl9⟩) (c9 : PySem.W.codeIn K cd9 "_law_shape" = true) (k9 : PySem.W.keepIn K (.ref f9) = true)
    (a10 : PySem.W.nsIn K mainGlobals "look_at_read" = some (some (.ref f10)))
    (l10 : K.lookup f10 = some ⟨oc10, od10, .func (PySem.W.fnOf "look_at_read" "look_at_read" (defArgs st_f_look_at_read) (defBody st_f_look_at_read) (defScope st_f_look_at_read) .none kV10 dc10 pm10 an10 cd10 ct10), sl10⟩) (c10 : PySem.W.codeIn K cd10 "look_at_read" = true) (k10 : PySem.W.keepIn K (.ref f10) = true)
    (a11 : PySem.W.nsIn K mainGlobals "look_at_number" = some (some (.ref f11)))
    (l11 : K.lookup f11 = some ⟨oc11, od11, .func (PySem.W.fnOf "look_at_number" "look_at_number" (defArgs st_f_look_at_number) (defBody st_f_look_at_number) (defScope st_f_look_at_number) .none kV11 dc11 pm11 an11 cd11 ct11), sl11⟩) (c11 : PySem.W.codeIn K cd11 "look_at_number" = true) (k11 : PySem.W.keepIn K (.ref f11) = true)
    (a12 : PySem.W.nsIn K mainGlobals "wanted_behind" = some (some (.ref f12)))
    (l12 : K.lookup f12 = some ⟨oc12, od12, .func (PySem.W.fnOf "wanted_behind" "wanted_behind" (defArgs st_f_wanted_behind) (defBody st_f_wanted_behind) (defScope st_f_wanted_behind) .none kV12 dc12 pm12 an12 cd12 ct12), sl12⟩) (c12 : PySem.W.codeIn K cd12 "wanted_behind" = true) (k12 : PySem.W.keepIn K (.ref f12) = true)
    (a13 : PySem.W.nsIn K mainGlobals "look_at_formula" = some (some (.ref f13)))
    (l13 : K.lookup f13 = some ⟨oc13, od13, .func (PySem.W.fnOf "look_at_formula" "look_at_formula" (defArgs st_f_look_at_formula) (defBody st_f_look_at_formula) (defScope st_f_look_at_formula) .none kV13 dc13 pm13 an13 cd13 ct13), sl13⟩) (c13 : PySem.W.codeIn K cd13 "look_at_formula" = true) (k13 : PySem.W.keepIn K (.ref f13) = true)
    (a14 : PySem.W.nsIn K mainGlobals "all_letters" = some (some (.ref f14)))
    (l14 : K.lookup f14 = some ⟨oc14, od14, .func (PySem.W.fnOf "all_letters" "all_letters" (defArgs st_f_all_letters) (defBody st_f_all_letters) (defScope st_f_all_letters) .none kV14 dc14 pm14 an14 cd14 ct14), sl14⟩) (c14 : PySem.W.codeIn K cd14 "all_letters" = true) (k14 : PySem.W.keepIn K (.ref f14) = true)
    (a15 : PySem.W.nsIn K mainGlobals "is_name" = some (some (.ref f15)))
    (l15 : K.lookup f15 = some ⟨oc15, od15, .func (PySem.W.fnOf "is_name" "is_name" (defArgs st_f_is_name) (defBody st_f_is_name) (defScope st_f_is_name) .none kV15 dc15 pm15 an15 cd15 ct15), sl15⟩) (c15 : PySem.W.codeIn K cd15 "is_name" = true) (k15 : PySem.W.keepIn K (.ref f15) = true)
    (a16 : PySem.W.nsIn K mainGlobals "look_at_name" = some (some (.ref f16)))
    (l16 : K.lookup f16 = some ⟨oc16, od16, .func (PySem.W.fnOf "look_at_name" "look_at_name" (defArgs st_f_look_at_name) (defBody st_f_look_at_name) (defScope st_f_look_at_name) .none kV16 dc16 pm16 an16 cd16 ct16), sl16⟩) (c16 : PySem.W.codeIn K cd16 "look_at_name" = true) (k16 : PySem.W.keepIn K (.ref f16) = true)
    (a17 : PySem.W.nsIn K mainGlobals "look_at_stages" = some (some (.ref f17)))
    (l17 : K.lookup f17 = some ⟨oc17, od17, .func (PySem.W.fnOf "look_at_stages" "look_at_stages" (defArgs st_f_look_at_stages) (defBody st_f_look_at_stages) (defScope st_f_look_at_stages) .none kV17 dc17 pm17 an17 cd17 ct17), sl17⟩) (c17 : PySem.W.codeIn K cd17 "look_at_stages" = true) (k17 : PySem.W.keepIn K (.ref f17) = true)
    (a18 : PySem.W.nsIn K mainGlobals "look_at_pictures" = some (some (.ref f18)))
    (l18 : K.lookup f18 = some ⟨oc18, od18, .func (PySem.W.fnOf "look_at_pictures" "look_at_pictures" (defArgs st_f_look_at_pictures) (defBody st_f_look_at_pictures) (defScope st_f_look_at_pictures) .none kV18 dc18 pm18 an18 cd18 ct18), sl18⟩) (c18 : PySem.W.codeIn K cd18 "look_at_pictures" = true) (k18 : PySem.W.keepIn K (.ref f18) = true)
    (a19 : PySem.W.findIn K (.ref C_Works) "__init__" = some (some (.ref f19))) (i19 : PySem.W.isFn K (.ref f19) = true)
    (l19 : K.lookup f19 = some ⟨oc19, od19, .func (PySem.W.fnOf "__init__" "Works.__init__" (defArgs st_f_Works__init) (defBody st_f_Works__init) (defScope st_f_Works__init) .none kV19 dc19 pm19 an19 cd19 ct19), sl19⟩) (c19 : PySem.W.codeIn K cd19 "Works.__init__" = true) (k19 : PySem.W.keepIn K (.ref f19) = true)
    (a20 : PySem.W.nsIn K mainGlobals "word_of" = some (some (.ref f20)))
    (l20 : K.lookup f20 = some ⟨oc20, od20, .func (PySem.W.fnOf "word_of" "word_of" (defArgs st_f_word_of) (defBody st_f_word_of) (defScope st_f_word_of) .none kV20 dc20 pm20 an20 cd20 ct20), sl20⟩) (c20 : PySem.W.codeIn K cd20 "word_of" = true) (k20 : PySem.W.keepIn K (.ref f20) = true)
    (a21 : PySem.W.nsIn K mainGlobals "behind_sign" = some (some (.ref f21)))
    (l21 : K.lookup f21 = some ⟨oc21, od21, .func (PySem.W.fnOf "behind_sign" "behind_sign" (defArgs st_f_behind_sign) (defBody st_f_behind_sign) (defScope st_f_behind_sign) .none kV21 dc21 pm21 an21 cd21 ct21), sl21⟩) (c21 : PySem.W.codeIn K cd21 "behind_sign" = true) (k21 : PySem.W.keepIn K (.ref f21) = true)
    (a22 : PySem.W.nsIn K mainGlobals "is_figures" = some (some (.ref f22)))
    (l22 : K.lookup f22 = some ⟨oc22, od22, .func (PySem.W.fnOf "is_figures" "is_figures" (defArgs st_f_is_figures) (defBody st_f_is_figures) (defScope st_f_is_figures) .none kV22 dc22 pm22 an22 cd22 ct22), sl22⟩) (c22 : PySem.W.codeIn K cd22 "is_figures" = true) (k22 : PySem.W.keepIn K (.ref f22) = true)
    (a23 : PySem.W.nsIn K mainGlobals "step_of" = some (some (.ref f23)))
    (l23 : K.lookup f23 = some ⟨oc23, od23, .func (PySem.W.fnOf "step_of" "step_of" (defArgs st_f_step_of) (defBody st_f_step_of) (defScope st_f_step_of) .none kV23 dc23 pm23 an23 cd23 ct23), sl23⟩) (c23 : PySem.W.codeIn K cd23 "step_of" = true) (k23 : PySem.W.keepIn K (.ref f23) = true)
    (a24 : PySem.W.nsIn K mainGlobals "number_of" = some (some (.ref f24)))
    (l24 : K.lookup f24 = some ⟨oc24, od24, .func (PySem.W.fnOf "number_of" "number_of" (defArgs st_f_number_of) (defBody st_f_number_of) (defScope st_f_number_of) .none kV24 dc24 pm24 an24 cd24 ct24), sl24⟩) (c24 : PySem.W.codeIn K cd24 "number_of" = true) (k24 : PySem.W.keepIn K (.ref f24) = true)
    (a25 : PySem.W.nsIn K mainGlobals "plain_value" = some (some (.ref f25)))
    (l25 : K.lookup f25 = some ⟨oc25, od25, .func (PySem.W.fnOf "plain_value" "plain_value" (defArgs st_f_plain_value) (defBody st_f_plain_value) (defScope st_f_plain_value) .none kV25 dc25 pm25 an25 cd25 ct25), sl25⟩) (c25 : PySem.W.codeIn K cd25 "plain_value" = true) (k25 : PySem.W.keepIn K (.ref f25) = true)
    (a26 : PySem.W.nsIn K mainGlobals "part_at" = some (some (.ref f26)))
    (l26 : K.lookup f26 = some ⟨oc26, od26, .func (PySem.W.fnOf "part_at" "part_at" (defArgs st_f_part_at) (defBody st_f_part_at) (defScope st_f_part_at) .none kV26 dc26 pm26 an26 cd26 ct26), sl26⟩) (c26 : PySem.W.codeIn K cd26 "part_at" = true) (k26 : PySem.W.keepIn K (.ref f26) = true)
    (a27 : PySem.W.nsIn K mainGlobals "formula_at" = some (some (.ref f27)))
    (l27 : K.lookup f27 = some ⟨oc27, od27, .func (PySem.W.fnOf "formula_at" "formula_at" (defArgs st_f_formula_at) (defBody st_f_formula_at) (defScope st_f_formula_at) .none kV27 dc27 pm27 an27 cd27 ct27), sl27⟩) (c27 : PySem.W.codeIn K cd27 "formula_at" = true) (k27 : PySem.W.keepIn K (.ref f27) = true)
    (a28 : PySem.W.nsIn K mainGlobals "stage_of" = some (some (.ref f28)))
    (l28 : K.lookup f28 = some ⟨oc28, od28, .func (PySem.W.fnOf "stage_of" "stage_of" (defArgs st_f_stage_of) (defBody st_f_stage_of) (defScope st_f_stage_of) .none kV28 dc28 pm28 an28 cd28 ct28), sl28⟩) (c28 : PySem.W.codeIn K cd28 "stage_of" = true) (k28 : PySem.W.keepIn K (.ref f28) = true)
    (a29 : PySem.W.nsIn K mainGlobals "picture_of" = some (some (.ref f29)))
    (l29 : K.lookup f29 = some ⟨oc29, od29, .func (PySem.W.fnOf "picture_of" "picture_of" (defArgs st_f_picture_of) (defBody st_f_picture_of) (defScope st_f_picture_of) .none kV29 dc29 pm29 an29 cd29 ct29), sl29⟩) (c29 : PySem.W.codeIn K cd29 "picture_of" = true) (k29 : PySem.W.keepIn K (.ref f29) = true)
    (a30 : PySem.W.nsIn K mainGlobals "works_read" = some (some (.ref f30)))
    (l30 : K.lookup f30 = some ⟨oc30, od30, .func (PySem.W.fnOf "works_read" "works_read" (defArgs st_f_works_read) (defBody st_f_works_read) (defScope st_f_works_read) .none kV30 dc30 pm30 an30 cd30 ct30), sl30⟩) (c30 : PySem.W.codeIn K cd30 "works_read" = true) (k30 : PySem.W.keepIn K (.ref f30) = true)
    (a31 : PySem.W.nsIn K mainGlobals "_law_formula_text" = some (some (.ref f31)))
    (l31 : K.lookup f31 = some ⟨oc31, od31, .func (PySem.W.fnOf "_law_formula_text" "_law_formula_text" (defArgs st_l_formula_text) (defBody st_l_formula_text) (defScope st_l_formula_text) .none kV31 dc31 pm31 an31 cd31 ct31), sl31⟩) (c31 : PySem.W.codeIn K cd31 "_law_formula_text" = true) (k31 : PySem.W.keepIn K (.ref f31) = true)
    (a32 : PySem.W.nsIn K mainGlobals "_law_text" = some (some (.ref f32)))
    (l32 : K.lookup f32 = some ⟨oc32, od32, .func (PySem.W.fnOf "_law_text" "_law_text" (defArgs st_l_text) (defBody st_l_text) (defScope st_l_text) .none kV32 dc32 pm32 an32 cd32 ct32), sl32⟩) (c32 : PySem.W.codeIn K cd32 "_law_text" = true) (k32 : PySem.W.keepIn K (.ref f32) = true)
    (a33 : PySem.W.nsIn K mainGlobals "_law_measure" = some (some (.ref f33)))
    (l33 : K.lookup f33 = some ⟨oc33, od33, .func (PySem.W.fnOf "_law_measure" "_law_measure" (defArgs st_l_measure) (defBody st_l_measure) (defScope st_l_measure) .none kV33 dc33 pm33 an33 cd33 ct33), sl33⟩) (c33 : PySem.W.codeIn K cd33 "_law_measure" = true) (k33 : PySem.W.keepIn K (.ref f33) = true)
    (a34 : PySem.W.nsIn K mainGlobals "_law_drawn_at" = some (some (.ref f34)))
    (l34 : K.lookup f34 = some ⟨oc34, od34, .func (PySem.W.fnOf "_law_drawn_at" "_law_drawn_at" (defArgs st_l_drawn_at) (defBody st_l_drawn_at) (defScope st_l_drawn_at) .none kV34 dc34 pm34 an34 cd34 ct34), sl34⟩) (c34 : PySem.W.codeIn K cd34 "_law_drawn_at" = true) (k34 : PySem.W.keepIn K (.ref f34) = true)
    (a35 : PySem.W.nsIn K mainGlobals "_law_number" = some (some (.ref f35)))
    (l35 : K.lookup f35 = some ⟨oc35, od35, .func (PySem.W.fnOf "_law_number" "_law_number" (defArgs st_l_number) (defBody st_l_number) (defScope st_l_number) .none kV35 dc35 pm35 an35 cd35 ct35), sl35⟩) (c35 : PySem.W.codeIn K cd35 "_law_number" = true) (k35 : PySem.W.keepIn K (.ref f35) = true)
    (a36 : PySem.W.nsIn K mainGlobals "_law_leaf" = some (some (.ref f36)))
    (l36 : K.lookup f36 = some ⟨oc36, od36, .func (PySem.W.fnOf "_law_leaf" "_law_leaf" (defArgs st_l_leaf) (defBody st_l_leaf) (defScope st_l_leaf) .none kV36 dc36 pm36 an36 cd36 ct36), sl36⟩) (c36 : PySem.W.codeIn K cd36 "_law_leaf" = true) (k36 : PySem.W.keepIn K (.ref f36) = true)
    (a37 : PySem.W.nsIn K mainGlobals "_law_formula" = some (some (.ref f37)))
    (l37 : K.lookup f37 = some ⟨oc37, od37, .func (PySem.W.fnOf "_law_formula" "_law_formula" (defArgs st_l_formula) (defBody st_l_formula) (defScope st_l_formula) .none kV37 dc37 pm37 an37 cd37 ct37), sl37⟩) (c37 : PySem.W.codeIn K cd37 "_law_formula" = true) (k37 : PySem.W.keepIn K (.ref f37) = true)
    (a38 : PySem.W.nsIn K mainGlobals "_law_grown" = some (some (.ref f38)))
    (l38 : K.lookup f38 = some ⟨oc38, od38, .func (PySem.W.fnOf "_law_grown" "_law_grown" (defArgs st_l_grown) (defBody st_l_grown) (defScope st_l_grown) .none kV38 dc38 pm38 an38 cd38 ct38), sl38⟩) (c38 : PySem.W.codeIn K cd38 "_law_grown" = true) (k38 : PySem.W.keepIn K (.ref f38) = true)
    (a39 : PySem.W.nsIn K mainGlobals "_law_digits" = some (some (.ref f39)))
    (l39 : K.lookup f39 = some ⟨oc39, od39, .func (PySem.W.fnOf "_law_digits" "_law_digits" (defArgs st_l_digits) (defBody st_l_digits) (defScope st_l_digits) .none kV39 dc39 pm39 an39 cd39 ct39), sl39⟩) (c39 : PySem.W.codeIn K cd39 "_law_digits" = true) (k39 : PySem.W.keepIn K (.ref f39) = true)
    (a40 : PySem.W.nsIn K mainGlobals "_law_mixed" = some (some (.ref f40)))
    (l40 : K.lookup f40 = some ⟨oc40, od40, .func (PySem.W.fnOf "_law_mixed" "_law_mixed" (defArgs st_l_mixed) (defBody st_l_mixed) (defScope st_l_mixed) .none kV40 dc40 pm40 an40 cd40 ct40), sl40⟩) (c40 : PySem.W.codeIn K cd40 "_law_mixed" = true) (k40 : PySem.W.keepIn K (.ref f40) = true)
    (a41 : PySem.W.nsIn K mainGlobals "_law_pictures" = some (some (.ref f41)))
    (l41 : K.lookup f41 = some ⟨oc41, od41, .func (PySem.W.fnOf "_law_pictures" "_law_pictures" (defArgs st_l_pictures) (defBody st_l_pictures) (defScope st_l_pictures) .none kV41 dc41 pm41 an41 cd41 ct41), sl41⟩) (c41 : PySem.W.codeIn K cd41 "_law_pictures" = true) (k41 : PySem.W.keepIn K (.ref f41) = true)
    (a42 : PySem.W.nsIn K mainGlobals "_law_names" = some (some (.ref f42)))
    (l42 : K.lookup f42 = some ⟨oc42, od42, .func (PySem.W.fnOf "_law_names" "_law_names" (defArgs st_l_names) (defBody st_l_names) (defScope st_l_names) .none kV42 dc42 pm42 an42 cd42 ct42), sl42⟩) (c42 : PySem.W.codeIn K cd42 "_law_names" = true) (k42 : PySem.W.keepIn K (.ref f42) = true)
    (a43 : PySem.W.nsIn K mainGlobals "_law_parts" = some (some (.ref f43)))
    (l43 : K.lookup f43 = some ⟨oc43, od43, .func (PySem.W.fnOf "_law_parts" "_law_parts" (defArgs st_l_parts) (defBody st_l_parts) (defScope st_l_parts) .none kV43 dc43 pm43 an43 cd43 ct43), sl43⟩) (c43 : PySem.W.codeIn K cd43 "_law_parts" = true) (k43 : PySem.W.keepIn K (.ref f43) = true)
    (a44 : PySem.W.nsIn K mainGlobals "law" = some (some (.ref f44)))
    (l44 : K.lookup f44 = some ⟨oc44, od44, .func (PySem.W.fnOf "law" "law" (defArgs st_l_law) (defBody st_l_law) (defScope st_l_law) .none kV44 dc44 pm44 an44 cd44 ct44), sl44⟩) (c44 : PySem.W.codeIn K cd44 "law" = true) (k44 : PySem.W.keepIn K (.ref f44) = true)
    (z_abs : PySem.W.nsIn K mainGlobals "abs" = some none)
    (z_bool : PySem.W.nsIn K mainGlobals "bool" = some none)
    (z_enumerate : PySem.W.nsIn K mainGlobals "enumerate" = some none)
    (z_int : PySem.W.nsIn K mainGlobals "int" = some none)
    (z_isinstance : PySem.W.nsIn K mainGlobals "isinstance" = some none)
    (z_len : PySem.W.nsIn K mainGlobals "len" = some none)
    (z_list : PySem.W.nsIn K mainGlobals "list" = some none)
    (z_min : PySem.W.nsIn K mainGlobals "min" = some none)
    (z_range : PySem.W.nsIn K mainGlobals "range" = some none)
    (z_reversed : PySem.W.nsIn K mainGlobals "reversed" = some none)
    (z_str : PySem.W.nsIn K mainGlobals "str" = some none)
    (z_sum : PySem.W.nsIn K mainGlobals "sum" = some none)
    (z_tuple : PySem.W.nsIn K mainGlobals "tuple" = some none)
    : ∃ fd : FuncData, (∀ (s : Shared) (v : Value), BindsTo s fd ⟨[v], []⟩ [("_law_script", v)]) ∧ ∀ base : Heap, K.In base → base.Ns mainGlobals mg → FnOk l.prog w K mg base (L2.CX l.prog w) 20 fa fd ["_law_script"] (spOf (gam K) s_l_law28) := by
  have e := hfa.symm.trans (PySem.W.mg_of X G a44)
  cases e
  have hC_Works : (gam K).cl 0 = C_Works := by
    show (match PySem.W.nsIn K mainGlobals "Works" with | some (some (.ref a)) => a | _ => 0) = C_Works
    rw [aC_Works]
  have cls_Works : Cls K C_Works := ⟨pg_Works, hd_Works, po_Works, sa_Works⟩
  have hX_MillError : (gam K).xc 0 = E_MillError := by
    show (match PySem.W.nsIn K mainGlobals "MillError" with | some (some (.ref a)) => a | _ => 0) = E_MillError
    rw [aE_MillError]
  have hX_NoMeasure : (gam K).xc 1 = E_NoMeasure := by
    show (match PySem.W.nsIn K mainGlobals "NoMeasure" with | some (some (.ref a)) => a | _ => 0) = E_NoMeasure
    rw [aE_NoMeasure]
  have hX_BadCount : (gam K).xc 2 = E_BadCount := by
    show (match PySem.W.nsIn K mainGlobals "BadCount" with | some (some (.ref a)) => a | _ => 0) = E_BadCount
    rw [aE_BadCount]
  have hX_BadName : (gam K).xc 3 = E_BadName := by
    show (match PySem.W.nsIn K mainGlobals "BadName" with | some (some (.ref a)) => a | _ => 0) = E_BadName
    rw [aE_BadName]
  have hX_Twice : (gam K).xc 4 = E_Twice := by
    show (match PySem.W.nsIn K mainGlobals "Twice" with | some (some (.ref a)) => a | _ => 0) = E_Twice
    rw [aE_Twice]
  have hX_BadSize : (gam K).xc 5 = E_BadSize := by
    show (match PySem.W.nsIn K mainGlobals "BadSize" with | some (some (.ref a)) => a | _ => 0) = E_BadSize
    rw [aE_BadSize]
  have hX_BadNumber : (gam K).xc 6 = E_BadNumber := by
    show (match PySem.W.nsIn K mainGlobals "BadNumber" with | some (some (.ref a)) => a | _ => 0) = E_BadNumber
    rw [aE_BadNumber]
  have hX_NoDeed : (gam K).xc 7 = E_NoDeed := by
    show (match PySem.W.nsIn K mainGlobals "NoDeed" with | some (some (.ref a)) => a | _ => 0) = E_NoDeed
    rw [aE_NoDeed]
  have hX_NoStage : (gam K).xc 8 = E_NoStage := by
    show (match PySem.W.nsIn K mainGlobals "NoStage" with | some (some (.ref a)) => a | _ => 0) = E_NoStage
    rw [aE_NoStage]
  have hX_BadStep : (gam K).xc 9 = E_BadStep := by
    show (match PySem.W.nsIn K mainGlobals "BadStep" with | some (some (.ref a)) => a | _ => 0) = E_BadStep
    rw [aE_BadStep]
  have hX_BadText : (gam K).xc 12 = E_BadText := by
    show (match PySem.W.nsIn K mainGlobals "BadText" with | some (some (.ref a)) => a | _ => 0) = E_BadText
    rw [aE_BadText]
  let T : Tx K mg := {
    f_f_formula_shown := _, d_f_formula_shown := _, F_f_formula_shown := fun_mk (st := st_f_formula_shown) l0 c0 k0,
    f_f_Works_formula := _, d_f_Works_formula := _, F_f_Works_formula := fun_mk (st := st_f_Works_formula) l1 c1 k1,
    f_f_Works_stages := _, d_f_Works_stages := _, F_f_Works_stages := fun_mk (st := st_f_Works_stages) l2 c2 k2,
    f_f_Works_row_of := _, d_f_Works_row_of := _, F_f_Works_row_of := fun_mk (st := st_f_Works_row_of) l3 c3 k3,
    f_f_Works_rim := _, d_f_Works_rim := _, F_f_Works_rim := fun_mk (st := st_f_Works_rim) l4 c4 k4,
    f_f_Works_size := _, d_f_Works_size := _, F_f_Works_size := fun_mk (st := st_f_Works_size) l5 c5 k5,
    f_f_Works_pictures := _, d_f_Works_pictures := _, F_f_Works_pictures := fun_mk (st := st_f_Works_pictures) l6 c6 k6,
    f_f_works_shown := _, d_f_works_shown := _, F_f_works_shown := fun_mk (st := st_f_works_shown) l7 c7 k7,
    f_l_whole := _, d_l_whole := _, F_l_whole := fun_mk (st := st_l_whole) l8 c8 k8,
    f_l_shape := _, d_l_shape := _, F_l_shape := fun_mk (st := st_l_shape) l9 c9 k9,
    f_f_look_at_read := _, d_f_look_at_read := _, F_f_look_at_read := fun_mk (st := st_f_look_at_read) l10 c10 k10,
    f_f_look_at_number := _, d_f_look_at_number := _, F_f_look_at_number := fun_mk (st := st_f_look_at_number) l11 c11 k11,
    f_f_wanted_behind := _, d_f_wanted_behind := _, F_f_wanted_behind := fun_mk (st := st_f_wanted_behind) l12 c12 k12,
    f_f_look_at_formula := _, d_f_look_at_formula := _, F_f_look_at_formula := fun_mk (st := st_f_look_at_formula) l13 c13 k13,
    f_f_all_letters := _, d_f_all_letters := _, F_f_all_letters := fun_mk (st := st_f_all_letters) l14 c14 k14,
    f_f_is_name := _, d_f_is_name := _, F_f_is_name := fun_mk (st := st_f_is_name) l15 c15 k15,
    f_f_look_at_name := _, d_f_look_at_name := _, F_f_look_at_name := fun_mk (st := st_f_look_at_name) l16 c16 k16,
    f_f_look_at_stages := _, d_f_look_at_stages := _, F_f_look_at_stages := fun_mk (st := st_f_look_at_stages) l17 c17 k17,
    f_f_look_at_pictures := _, d_f_look_at_pictures := _, F_f_look_at_pictures := fun_mk (st := st_f_look_at_pictures) l18 c18 k18,
    f_f_Works__init := _, d_f_Works__init := _, F_f_Works__init := fun_mk (st := st_f_Works__init) l19 c19 k19,
    f_f_word_of := _, d_f_word_of := _, F_f_word_of := fun_mk (st := st_f_word_of) l20 c20 k20,
    f_f_behind_sign := _, d_f_behind_sign := _, F_f_behind_sign := fun_mk (st := st_f_behind_sign) l21 c21 k21,
    f_f_is_figures := _, d_f_is_figures := _, F_f_is_figures := fun_mk (st := st_f_is_figures) l22 c22 k22,
    f_f_step_of := _, d_f_step_of := _, F_f_step_of := fun_mk (st := st_f_step_of) l23 c23 k23,
    f_f_number_of := _, d_f_number_of := _, F_f_number_of := fun_mk (st := st_f_number_of) l24 c24 k24,
    f_f_plain_value := _, d_f_plain_value := _, F_f_plain_value := fun_mk (st := st_f_plain_value) l25 c25 k25,
    f_f_part_at := _, d_f_part_at := _, F_f_part_at := fun_mk (st := st_f_part_at) l26 c26 k26,
    f_f_formula_at := _, d_f_formula_at := _, F_f_formula_at := fun_mk (st := st_f_formula_at) l27 c27 k27,
    f_f_stage_of := _, d_f_stage_of := _, F_f_stage_of := fun_mk (st := st_f_stage_of) l28 c28 k28,
    f_f_picture_of := _, d_f_picture_of := _, F_f_picture_of := fun_mk (st := st_f_picture_of) l29 c29 k29,
    f_f_works_read := _, d_f_works_read := _, F_f_works_read := fun_mk (st := st_f_works_read) l30 c30 k30,
    f_l_formula_text := _, d_l_formula_text := _, F_l_formula_text := fun_mk (st := st_l_formula_text) l31 c31 k31,
    f_l_text := _, d_l_text := _, F_l_text := fun_mk (st := st_l_text) l32 c32 k32,
    f_l_measure := _, d_l_measure := _, F_l_measure := fun_mk (st := st_l_measure) l33 c33 k33,
    f_l_drawn_at := _, d_l_drawn_at := _, F_l_drawn_at := fun_mk (st := st_l_drawn_at) l34 c34 k34,
    f_l_number := _, d_l_number := _, F_l_number := fun_mk (st := st_l_number) l35 c35 k35,
    f_l_leaf := _, d_l_leaf := _, F_l_leaf := fun_mk (st := st_l_leaf) l36 c36 k36,
    f_l_formula := _, d_l_formula := _, F_l_formula := fun_mk (st := st_l_formula) l37 c37 k37,
    f_l_grown := _, d_l_grown := _, F_l_grown := fun_mk (st := st_l_grown) l38 c38 k38,
    f_l_digits := _, d_l_digits := _, F_l_digits := fun_mk (st := st_l_digits) l39 c39 k39,
    f_l_mixed := _, d_l_mixed := _, F_l_mixed := fun_mk (st := st_l_mixed) l40 c40 k40,
    f_l_pictures := _, d_l_pictures := _, F_l_pictures := fun_mk (st := st_l_pictures) l41 c41 k41,
    f_l_names := _, d_l_names := _, F_l_names := fun_mk (st := st_l_names) l42 c42 k42,
    f_l_parts := _, d_l_parts := _, F_l_parts := fun_mk (st := st_l_parts) l43 c43 k43,
    f_l_law := _, d_l_law := _, F_l_law := fun_mk (st := st_l_law) l44 c44 k44,
    m_l_digits := PySem.W.mg_of X G a39,
    m_l_drawn_at := PySem.W.mg_of X G a34,
    m_l_formula := PySem.W.mg_of X G a37,
    m_l_formula_text := PySem.W.mg_of X G a31,
    m_l_grown := PySem.W.mg_of X G a38,
    m_l_leaf := PySem.W.mg_of X G a36,
    m_l_measure := PySem.W.mg_of X G a33,
    m_l_mixed := PySem.W.mg_of X G a40,
    m_l_names := PySem.W.mg_of X G a42,
    m_l_number := PySem.W.mg_of X G a35,
    m_l_parts := PySem.W.mg_of X G a43,
    m_l_pictures := PySem.W.mg_of X G a41,
    m_l_shape := PySem.W.mg_of X G a9,
    m_l_text := PySem.W.mg_of X G a32,
    m_l_whole := PySem.W.mg_of X G a8,
    m_all_letters := PySem.W.mg_of X G a14,
    m_behind_sign := PySem.W.mg_of X G a21,
    m_formula_at := PySem.W.mg_of X G a27,
    m_formula_shown := PySem.W.mg_of X G a0,
    m_is_figures := PySem.W.mg_of X G a22,
    m_is_name := PySem.W.mg_of X G a15,
    m_look_at_formula := PySem.W.mg_of X G a13,
    m_look_at_name := PySem.W.mg_of X G a16,
    m_look_at_number := PySem.W.mg_of X G a11,
    m_look_at_pictures := PySem.W.mg_of X G a18,
    m_look_at_read := PySem.W.mg_of X G a10,
    m_look_at_stages := PySem.W.mg_of X G a17,
    m_number_of := PySem.W.mg_of X G a24,
    m_part_at := PySem.W.mg_of X G a26,
    m_picture_of := PySem.W.mg_of X G a29,
    m_plain_value := PySem.W.mg_of X G a25,
    m_stage_of := PySem.W.mg_of X G a28,
    m_step_of := PySem.W.mg_of X G a23,
    m_wanted_behind := PySem.W.mg_of X G a12,
    m_word_of := PySem.W.mg_of X G a20,
    m_works_read := PySem.W.mg_of X G a30,
    m_works_shown := PySem.W.mg_of X G a7,
    mk_Works := by rw [hC_Works]; exact ⟨mk_Works, a19, i19, kc_Works⟩,
    m_Works := by rw [hC_Works]; exact PySem.W.mg_of X G aC_Works,
    fld_Works_kept_formulas := by intro c hc; rw [List.mem_singleton.mp hc, hC_Works]; exact ⟨cls_Works, nf_Works_kept_formulas⟩,
    fld_Works_kept_pictures := by intro c hc; rw [List.mem_singleton.mp hc, hC_Works]; exact ⟨cls_Works, nf_Works_kept_pictures⟩,
    fld_Works_measure := by intro c hc; rw [List.mem_singleton.mp hc, hC_Works]; exact ⟨cls_Works, nf_Works_measure⟩,
    mth_f_Works_formula := by rw [hC_Works]; exact ⟨cls_Works, a1, i1, k1⟩,
    mth_f_Works_pictures := by rw [hC_Works]; exact ⟨cls_Works, a6, i6, k6⟩,
    mth_f_Works_rim := by rw [hC_Works]; exact ⟨cls_Works, a4, i4, k4⟩,
    mth_f_Works_row_of := by rw [hC_Works]; exact ⟨cls_Works, a3, i3, k3⟩,
    mth_f_Works_size := by rw [hC_Works]; exact ⟨cls_Works, a5, i5, k5⟩,
    mth_f_Works_stages := by rw [hC_Works]; exact ⟨cls_Works, a2, i2, k2⟩,
    u_FARTHEST := _, m_FARTHEST := PySem.W.mg_of X G a_FARTHEST, r_FARTHEST := ⟨_, rfl⟩,
    u_FIGURES := _, m_FIGURES := PySem.W.mg_of X G a_FIGURES, r_FIGURES := ⟨_, rfl⟩,
    u_GREATEST := _, m_GREATEST := PySem.W.mg_of X G a_GREATEST, r_GREATEST := ⟨_, rfl⟩,
    u_LETTERS := _, m_LETTERS := PySem.W.mg_of X G a_LETTERS, r_LETTERS := ⟨_, rfl⟩,
    u_LONGEST := _, m_LONGEST := PySem.W.mg_of X G a_LONGEST, r_LONGEST := ⟨_, rfl⟩,
    u_MOST_FIGURES := _, m_MOST_FIGURES := PySem.W.mg_of X G a_MOST_FIGURES, r_MOST_FIGURES := ⟨_, rfl⟩,
    u_MOST_PICTURES := _, m_MOST_PICTURES := PySem.W.mg_of X G a_MOST_PICTURES, r_MOST_PICTURES := ⟨_, rfl⟩,
    u_MOST_STAGES := _, m_MOST_STAGES := PySem.W.mg_of X G a_MOST_STAGES, r_MOST_STAGES := ⟨_, rfl⟩,
    a_PAIRS := _, m_PAIRS := PySem.W.mg_of X G a_PAIRS, l_PAIRS := LstS.mk' l_PAIRS v_PAIRS w_PAIRS,
    u_STEP_FIGURES := _, m_STEP_FIGURES := PySem.W.mg_of X G a_STEP_FIGURES, r_STEP_FIGURES := ⟨_, rfl⟩,
    u_WIDEST := _, m_WIDEST := PySem.W.mg_of X G a_WIDEST, r_WIDEST := ⟨_, rfl⟩,
    a_WORDS := _, m_WORDS := PySem.W.mg_of X G a_WORDS, l_WORDS := LstS.mk' l_WORDS v_WORDS w_WORDS,
    n_abs := PySem.W.mg_none_of X G z_abs,
    n_bool := PySem.W.mg_none_of X G z_bool,
    n_enumerate := PySem.W.mg_none_of X G z_enumerate,
    n_int := PySem.W.mg_none_of X G z_int,
    n_isinstance := PySem.W.mg_none_of X G z_isinstance,
    n_len := PySem.W.mg_none_of X G z_len,
    n_list := PySem.W.mg_none_of X G z_list,
    n_min := PySem.W.mg_none_of X G z_min,
    n_range := PySem.W.mg_none_of X G z_range,
    n_reversed := PySem.W.mg_none_of X G z_reversed,
    n_str := PySem.W.mg_none_of X G z_str,
    n_sum := PySem.W.mg_none_of X G z_sum,
    n_tuple := PySem.W.mg_none_of X G z_tuple,
    x_MillError := by rw [hX_MillError]; exact PySem.W.mg_of X G aE_MillError,
    x_NoMeasure := by rw [hX_NoMeasure]; exact PySem.W.mg_of X G aE_NoMeasure,
    x_BadCount := by rw [hX_BadCount]; exact PySem.W.mg_of X G aE_BadCount,
    x_BadName := by rw [hX_BadName]; exact PySem.W.mg_of X G aE_BadName,
    x_Twice := by rw [hX_Twice]; exact PySem.W.mg_of X G aE_Twice,
    x_BadSize := by rw [hX_BadSize]; exact PySem.W.mg_of X G aE_BadSize,
    x_BadNumber := by rw [hX_BadNumber]; exact PySem.W.mg_of X G aE_BadNumber,
    x_NoDeed := by rw [hX_NoDeed]; exact PySem.W.mg_of X G aE_NoDeed,
    x_NoStage := by rw [hX_NoStage]; exact PySem.W.mg_of X G aE_NoStage,
    x_BadStep := by rw [hX_BadStep]; exact PySem.W.mg_of X G aE_BadStep,
    x_BadText := by rw [hX_BadText]; exact PySem.W.mg_of X G aE_BadText,
    xr_BadCount := by rw [hX_BadCount]; exact ⟨xq_BadCount, kE_BadCount, bE_BadCount, tE_BadCount⟩,
    xr_BadName := by rw [hX_BadName]; exact ⟨xq_BadName, kE_BadName, bE_BadName, tE_BadName⟩,
    xr_BadNumber := by rw [hX_BadNumber]; exact ⟨xq_BadNumber, kE_BadNumber, bE_BadNumber, tE_BadNumber⟩,
    xr_BadSize := by rw [hX_BadSize]; exact ⟨xq_BadSize, kE_BadSize, bE_BadSize, tE_BadSize⟩,
    xr_BadStep := by rw [hX_BadStep]; exact ⟨xq_BadStep, kE_BadStep, bE_BadStep, tE_BadStep⟩,
    xr_NoDeed := by rw [hX_NoDeed]; exact ⟨xq_NoDeed, kE_NoDeed, bE_NoDeed, tE_NoDeed⟩,
    xr_NoMeasure := by rw [hX_NoMeasure]; exact ⟨xq_NoMeasure, kE_NoMeasure, bE_NoMeasure, tE_NoMeasure⟩,
    xr_NoStage := by rw [hX_NoStage]; exact ⟨xq_NoStage, kE_NoStage, bE_NoStage, tE_NoStage⟩,
    xr_Twice := by rw [hX_Twice]; exact ⟨xq_Twice, kE_Twice, bE_Twice, tE_Twice⟩,
    isC_Works := by rw [hC_Works]; exact ⟨cls_Works, caC_Works, cnE, ckE, cmC_Works, kit_own sC_Works sC_Works iC_Works tC_Works⟩,
    f_f_BadText__init := _,
    d_f_BadText__init := _,
    F_f_BadText__init := fun_mk (st := st_f_BadText__init) jl_BadText jc_BadText jk_BadText,
    xf_BadText := by rw [hX_BadText]; exact ⟨⟨⟨_, _, _, _, _, _, _, _, _, _, _, _, _, _, _, lE_BadText, rE_BadText⟩, saE_BadText, bE_BadText, tE_BadText, kE_BadText⟩, jE_BadText, jt_BadText, fE_BadText⟩,
    xm := by rw [hX_MillError]; exact ⟨gaM, rdM, inM⟩
  }
  exact ⟨T.d_l_law, fun s v => .of_eq rfl, fun base _ _ => ok_l_law T⟩
theorem sp_law (K : PySem.W.Frag) (H : Hp) (a : Addr) (ns : List Int) (hl : ns.length ≤ 63) (hb : ∀ z ∈ ns, Builtin.Int.intBits z ≤ 1048576) (hS : SqL K H a (ns.map V.int)) : spOf (gam K) s_l_law28 [.ref a] H (fun v _ => v = .bl true) fun _ _ _ => False := sp_end hl hb hS (pure_law ns hl hb)
end W
set_option Elab.async false
set_option linter.all false
open PySem PySem.W PyProof.Rows
namespace W
open G L2
section
set_option maxRecDepth 100000
theorem all_of {l : PySem.W.OpenLaw} {w : World} {K : PySem.W.Frag} {h : Heap} {mg : Str → Option Value} {fa : Addr} (X : K.In h) (G : h.Ns mainGlobals mg) (hfa : mg "law" = some (.ref fa)) (c : Hd.SaysX bss fnL K) : ∃ fd : FuncData, (∀ (s : Shared) (v : Value), BindsTo s fd ⟨[v], []⟩ [("_law_script", v)]) ∧ ∀ base : Heap, K.In base → base.Ns mainGlobals mg → FnOk l.prog w K mg base (L2.CX l.prog w) 20 fa fd ["_law_script"] (spOf (gam K) s_l_law28) := by
  have aC_Works : PySem.W.nsIn K mainGlobals "Works" = some (some (.ref (He.ga K "Works"))) := He.eqO_ok (c.fact 0 0 rfl rfl)
  have pg_Works : PySem.W.plainGet K (He.ga K "Works") Str.empty = true := (c.fact 0 1 rfl rfl)
  have hd_Works : PySem.W.hasDictIn K (He.ga K "Works") = true := (c.fact 0 2 rfl rfl)
  have po_Works : PySem.W.plainOver K (He.ga K "Works") = true := (c.fact 0 3 rfl rfl)
  have sa_Works : PySem.W.findIn K (.ref (He.ga K "Works")) "__setattr__" = some (some (.builtin "object.__setattr__")) := He.eqO_ok (c.fact 0 4 rfl rfl)
  have mk_Works : PySem.W.makesIn K (He.ga K "Works") = true := (c.fact 0 5 rfl rfl)
  have kc_Works : PySem.W.keepIn K (.ref (He.ga K "Works")) = true := (c.fact 0 6 rfl rfl)
  have nf_Works_kept_formulas : PySem.W.findIn K (.ref (He.ga K "Works")) "kept_formulas" = some none := He.eqO_ok (c.fact 0 7 rfl rfl)
  have nf_Works_kept_pictures : PySem.W.findIn K (.ref (He.ga K "Works")) "kept_pictures" = some none := He.eqO_ok (c.fact 0 8 rfl rfl)
  have nf_Works_measure : PySem.W.findIn K (.ref (He.ga K "Works")) "measure" = some none := He.eqO_ok (c.fact 0 9 rfl rfl)
  obtain ⟨_, a_FARTHEST⟩ := Hd.isI_ok (c.fact 0 10 rfl rfl)
  obtain ⟨_, a_FIGURES⟩ := Hd.isS_ok (c.fact 0 11 rfl rfl)
  obtain ⟨_, a_GREATEST⟩ := Hd.isI_ok (c.fact 0 12 rfl rfl)
  obtain ⟨_, a_LETTERS⟩ := Hd.isS_ok (c.fact 0 13 rfl rfl)
  obtain ⟨_, a_LONGEST⟩ := Hd.isI_ok (c.fact 0 14 rfl rfl)
  obtain ⟨_, a_MOST_FIGURES⟩ := Hd.isI_ok (c.fact 0 15 rfl rfl)
  obtain ⟨_, a_MOST_PICTURES⟩ := Hd.isI_ok (c.fact 0 16 rfl rfl)
  obtain ⟨_, a_MOST_STAGES⟩ := Hd.isI_ok (c.fact 0 17 rfl rfl)
  have a_PAIRS : PySem.W.nsIn K mainGlobals "PAIRS" = some (some (.ref (He.ga K "PAIRS"))) := He.eqO_ok (c.fact 0 18 rfl rfl)
  obtain ⟨_, _, _, l_PAIRS, v_PAIRS, w_PAIRS⟩ := Hd.lstX_ok (c.fact 0 19 rfl rfl)
  obtain ⟨_, a_STEP_FIGURES⟩ := Hd.isI_ok (c.fact 0 20 rfl rfl)
  obtain ⟨_, a_WIDEST⟩ := Hd.isI_ok (c.fact 0 21 rfl rfl)
  have a_WORDS : PySem.W.nsIn K mainGlobals "WORDS" = some (some (.ref (He.ga K "WORDS"))) := He.eqO_ok (c.fact 0 22 rfl rfl)
  obtain ⟨_, _, _, l_WORDS, v_WORDS, w_WORDS⟩ := Hd.lstX_ok (c.fact 0 23 rfl rfl)
  have aE_MillError : PySem.W.nsIn K mainGlobals "MillError" = some (some (.ref (He.ga K "MillError"))) := He.eqO_ok (c.fact 0 24 rfl rfl)
  have aE_NoMeasure : PySem.W.nsIn K mainGlobals "NoMeasure" = some (some (.ref (He.ga K "NoMeasure"))) := He.eqO_ok (c.fact 0 25 rfl rfl)
  have aE_BadCount : PySem.W.nsIn K mainGlobals "BadCount" = some (some (.ref (He.ga K "BadCount"))) := He.eqO_ok (c.fact 0 26 rfl rfl)
  have aE_BadName : PySem.W.nsIn K mainGlobals "BadName" = some (some (.ref (He.ga K "BadName"))) := He.eqO_ok (c.fact 0 27 rfl rfl)
  have aE_Twice : PySem.W.nsIn K mainGlobals "Twice" = some (some (.ref (He.ga K "Twice"))) := He.eqO_ok (c.fact 0 28 rfl rfl)
  have aE_BadSize : PySem.W.nsIn K mainGlobals "BadSize" = some (some (.ref (He.ga K "BadSize"))) := He.eqO_ok (c.fact 0 29 rfl rfl)
  have aE_BadNumber : PySem.W.nsIn K mainGlobals "BadNumber" = some (some (.ref (He.ga K "BadNumber"))) := He.eqO_ok (c.fact 1 0 rfl rfl)
  have aE_NoDeed : PySem.W.nsIn K mainGlobals "NoDeed" = some (some (.ref (He.ga K "NoDeed"))) := He.eqO_ok (c.fact 1 1 rfl rfl)
  have aE_NoStage : PySem.W.nsIn K mainGlobals "NoStage" = some (some (.ref (He.ga K "NoStage"))) := He.eqO_ok (c.fact 1 2 rfl rfl)
  have aE_BadStep : PySem.W.nsIn K mainGlobals "BadStep" = some (some (.ref (He.ga K "BadStep"))) := He.eqO_ok (c.fact 1 3 rfl rfl)
  have aE_BadText : PySem.W.nsIn K mainGlobals "BadText" = some (some (.ref (He.ga K "BadText"))) := He.eqO_ok (c.fact 1 4 rfl rfl)
  have xq_BadCount : PySem.W.excIn K (He.ga K "BadCount") [.type "ValueError", .type "Exception", .type "BaseException", .type "object"] "ValueError.__new__" = true := (c.fact 1 5 rfl rfl)
  have kE_BadCount : PySem.W.keepIn K (.ref (He.ga K "BadCount")) = true := (c.fact 1 6 rfl rfl)
  have bE_BadCount : PySem.W.subIn K (.ref (He.ga K "BadCount")) (.type "BaseException") = some true := of_decide_eq_true (c.fact 1 7 rfl rfl)
  have tE_BadCount : PySem.W.typeIn K (.ref (He.ga K "BadCount")) = some (.type "type") := of_decide_eq_true (c.fact 1 8 rfl rfl)
  have xq_BadName : PySem.W.excIn K (He.ga K "BadName") [.type "ValueError", .type "Exception", .type "BaseException", .type "object"] "ValueError.__new__" = true := (c.fact 1 9 rfl rfl)
  have kE_BadName : PySem.W.keepIn K (.ref (He.ga K "BadName")) = true := (c.fact 1 10 rfl rfl)
  have bE_BadName : PySem.W.subIn K (.ref (He.ga K "BadName")) (.type "BaseException") = some true := of_decide_eq_true (c.fact 1 11 rfl rfl)
  have tE_BadName : PySem.W.typeIn K (.ref (He.ga K "BadName")) = some (.type "type") := of_decide_eq_true (c.fact 1 12 rfl rfl)
  have xq_BadNumber : PySem.W.excIn K (He.ga K "BadNumber") [.type "ValueError", .type "Exception", .type "BaseException", .type "object"] "ValueError.__new__" = true := (c.fact 1 13 rfl rfl)
  have kE_BadNumber : PySem.W.keepIn K (.ref (He.ga K "BadNumber")) = true := (c.fact 1 14 rfl rfl)
  have bE_BadNumber : PySem.W.subIn K (.ref (He.ga K "BadNumber")) (.type "BaseException") = some true := of_decide_eq_true (c.fact 1 15 rfl rfl)
  have tE_BadNumber : PySem.W.typeIn K (.ref (He.ga K "BadNumber")) = some (.type "type") := of_decide_eq_true (c.fact 1 16 rfl rfl)
  have xq_BadSize : PySem.W.excIn K (He.ga K "BadSize") [.type "ValueError", .type "Exception", .type "BaseException", .type "object"] "ValueError.__new__" = true := (c.fact 1 17 rfl rfl)
  have kE_BadSize : PySem.W.keepIn K (.ref (He.ga K "BadSize")) = true := (c.fact 1 18 rfl rfl)
  have bE_BadSize : PySem.W.subIn K (.ref (He.ga K "BadSize")) (.type "BaseException") = some true := of_decide_eq_true (c.fact 1 19 rfl rfl)
  have tE_BadSize : PySem.W.typeIn K (.ref (He.ga K "BadSize")) = some (.type "type") := of_decide_eq_true (c.fact 1 20 rfl rfl)
  have xq_BadStep : PySem.W.excIn K (He.ga K "BadStep") [.type "ValueError", .type "Exception", .type "BaseException", .type "object"] "ValueError.__new__" = true := (c.fact 1 21 rfl rfl)
  have kE_BadStep : PySem.W.keepIn K (.ref (He.ga K "BadStep")) = true := (c.fact 1 22 rfl rfl)
  have bE_BadStep : PySem.W.subIn K (.ref (He.ga K "BadStep")) (.type "BaseException") = some true := of_decide_eq_true (c.fact 1 23 rfl rfl)
  have tE_BadStep : PySem.W.typeIn K (.ref (He.ga K "BadStep")) = some (.type "type") := of_decide_eq_true (c.fact 1 24 rfl rfl)
  have xq_NoDeed : PySem.W.excIn K (He.ga K "NoDeed") [.type "ValueError", .type "Exception", .type "BaseException", .type "object"] "ValueError.__new__" = true := (c.fact 1 25 rfl rfl)
  have kE_NoDeed : PySem.W.keepIn K (.ref (He.ga K "NoDeed")) = true := (c.fact 1 26 rfl rfl)
  have bE_NoDeed : PySem.W.subIn K (.ref (He.ga K "NoDeed")) (.type "BaseException") = some true := of_decide_eq_true (c.fact 1 27 rfl rfl)
  have tE_NoDeed : PySem.W.typeIn K (.ref (He.ga K "NoDeed")) = some (.type "type") := of_decide_eq_true (c.fact 1 28 rfl rfl)
  have xq_NoMeasure : PySem.W.excIn K (He.ga K "NoMeasure") [.type "ValueError", .type "Exception", .type "BaseException", .type "object"] "ValueError.__new__" = true := (c.fact 1 29 rfl rfl)
  have kE_NoMeasure : PySem.W.keepIn K (.ref (He.ga K "NoMeasure")) = true := (c.fact 2 0 rfl rfl)
  have bE_NoMeasure : PySem.W.subIn K (.ref (He.ga K "NoMeasure")) (.type "BaseException") = some true := of_decide_eq_true (c.fact 2 1 rfl rfl)
  have tE_NoMeasure : PySem.W.typeIn K (.ref (He.ga K "NoMeasure")) = some (.type "type") := of_decide_eq_true (c.fact 2 2 rfl rfl)
  have xq_NoStage : PySem.W.excIn K (He.ga K "NoStage") [.type "ValueError", .type "Exception", .type "BaseException", .type "object"] "ValueError.__new__" = true := (c.fact 2 3 rfl rfl)
  have kE_NoStage : PySem.W.keepIn K (.ref (He.ga K "NoStage")) = true := (c.fact 2 4 rfl rfl)
  have bE_NoStage : PySem.W.subIn K (.ref (He.ga K "NoStage")) (.type "BaseException") = some true := of_decide_eq_true (c.fact 2 5 rfl rfl)
  have tE_NoStage : PySem.W.typeIn K (.ref (He.ga K "NoStage")) = some (.type "type") := of_decide_eq_true (c.fact 2 6 rfl rfl)
  have xq_Twice : PySem.W.excIn K (He.ga K "Twice") [.type "ValueError", .type "Exception", .type "BaseException", .type "object"] "ValueError.__new__" = true := (c.fact 2 7 rfl rfl)
  have kE_Twice : PySem.W.keepIn K (.ref (He.ga K "Twice")) = true := (c.fact 2 8 rfl rfl)
  have bE_Twice : PySem.W.subIn K (.ref (He.ga K "Twice")) (.type "BaseException") = some true := of_decide_eq_true (c.fact 2 9 rfl rfl)
  have tE_Twice : PySem.W.typeIn K (.ref (He.ga K "Twice")) = some (.type "type") := of_decide_eq_true (c.fact 2 10 rfl rfl)
  have cnE : PySem.W.specialIn K (.builtin "object.__class__") "__get__" = some (some (.builtin "getset_descriptor.__get__")) := He.eqO_ok (c.fact 2 11 rfl rfl)
  have ckE : PySem.W.takesIn K (.builtin "object.__class__") = some true := of_decide_eq_true (c.fact 2 12 rfl rfl)
  have caC_Works : PySem.W.findIn K (.ref (He.ga K "Works")) "__class__" = some (some (.builtin "object.__class__")) := He.eqO_ok (c.fact 2 13 rfl rfl)
  have cmC_Works : PySem.W.mroIn K (He.ga K "Works") (.type "object") = some true := of_decide_eq_true (c.fact 2 14 rfl rfl)
  have sC_Works : PySem.W.subIn K (.ref (He.ga K "Works")) (.ref (He.ga K "Works")) = some true := of_decide_eq_true (c.fact 2 15 rfl rfl)
  have iC_Works : PySem.W.isClsIn K (He.ga K "Works") = true := (c.fact 2 16 rfl rfl)
  have tC_Works : PySem.W.typeIn K (.ref (He.ga K "Works")) = some (.type "type") := of_decide_eq_true (c.fact 2 17 rfl rfl)
  have fE_BadText : PySem.W.findIn K (.ref (He.ga K "BadText")) "row" = some none := He.eqO_ok (c.fact 2 18 rfl rfl)
  obtain ⟨_, _, _, _, _, _, _, _, _, _, _, _, _, _, _, lE_BadText, rE_BadText⟩ := Hd.excX_ok (c.fact 2 19 rfl rfl)
  have saE_BadText : PySem.W.findIn K (.ref (He.ga K "BadText")) "__setattr__" = some (some (.builtin "object.__setattr__")) := He.eqO_ok (c.fact 2 20 rfl rfl)
  have jE_BadText : PySem.W.findIn K (.ref (He.ga K "BadText")) "__init__" = some (some (.ref (He.ma K (He.ga K "BadText") "__init__"))) := He.eqO_ok (c.fact 2 21 rfl rfl)
  have jt_BadText : PySem.W.typeIn K (.ref (He.ma K (He.ga K "BadText") "__init__")) = some (.type "function") := of_decide_eq_true (c.fact 2 22 rfl rfl)
  obtain ⟨_, _, _, _, _, _, _, _, _, jl_BadText, jc_BadText⟩ := c.def_ (d := d0) 0 rfl
  have jk_BadText : PySem.W.keepIn K (.ref (He.ma K (He.ga K "BadText") "__init__")) = true := (c.fact 2 23 rfl rfl)
  have bE_BadText : PySem.W.subIn K (.ref (He.ga K "BadText")) (.type "BaseException") = some true := of_decide_eq_true (c.fact 2 24 rfl rfl)
  have tE_BadText : PySem.W.typeIn K (.ref (He.ga K "BadText")) = some (.type "type") := of_decide_eq_true (c.fact 2 25 rfl rfl)
  have kE_BadText : PySem.W.keepIn K (.ref (He.ga K "BadText")) = true := (c.fact 2 26 rfl rfl)
  have gaM : PySem.W.specialIn K (.ref (He.ga K "MillError")) "__getattribute__" = some (some (.builtin "type.__getattribute__")) := He.eqO_ok (c.fact 2 27 rfl rfl)
  have rdM : PySem.W.readsIn K (He.ga K "MillError") (.type "type") = true := (c.fact 2 28 rfl rfl)
  have inM := Hd.valX_ok (c.fact 2 29 rfl rfl)
  have a0 : PySem.W.nsIn K mainGlobals "formula_shown" = some (some (.ref (He.ga K "formula_shown"))) := He.eqO_ok (c.fact 3 0 rfl rfl)
  obtain ⟨_, _, _, _, _, _, _, _, _, l0, c0⟩ := c.def_ (d := d1) 1 rfl
  have k0 : PySem.W.keepIn K (.ref (He.ga K "formula_shown")) = true := (c.fact 3 1 rfl rfl)
  have a1 : PySem.W.findIn K (.ref (He.ga K "Works")) "formula" = some (some (.ref (He.ma K (He.ga K "Works") "formula"))) := He.eqO_ok (c.fact 3 2 rfl rfl)
  have i1 : PySem.W.isFn K (.ref (He.ma K (He.ga K "Works") "formula")) = true := (c.fact 3 3 rfl rfl)
  obtain ⟨_, _, _, _, _, _, _, _, _, l1, c1⟩ := c.def_ (d := d2) 2 rfl
  have k1 : PySem.W.keepIn K (.ref (He.ma K (He.ga K "Works") "formula")) = true := (c.fact 3 4 rfl rfl)
  have a2 : PySem.W.findIn K (.ref (He.ga K "Works")) "stages" = some (some (.ref (He.ma K (He.ga K "Works") "stages"))) := He.eqO_ok (c.fact 3 5 rfl rfl)
  have i2 : PySem.W.isFn K (.ref (He.ma K (He.ga K "Works") "stages")) = true := (c.fact 3 6 rfl rfl)
  obtain ⟨_, _, _, _, _, _, _, _, _, l2, c2⟩ := c.def_ (d := d3) 3 rfl
  have k2 : PySem.W.keepIn K (.ref (He.ma K (He.ga K "Works") "stages")) = true := (c.fact 3 7 rfl rfl)
  have a3 : PySem.W.findIn K (.ref (He.ga K "Works")) "row_of" = some (some (.ref (He.ma K (He.ga K "Works") "row_of"))) := He.eqO_ok (c.fact 3 8 rfl rfl)
  have i3 : PySem.W.isFn K (.ref (He.ma K (He.ga K "Works") "row_of")) = true := (c.fact 3 9 rfl rfl)
  obtain ⟨_, _, _, _, _, _, _, _, _, l3, c3⟩ := c.def_ (d := d4) 4 rfl
  have k3 : PySem.W.keepIn K (.ref (He.ma K (He.ga K "Works") "row_of")) = true := (c.fact 3 10 rfl rfl)
  have a4 : PySem.W.findIn K (.ref (He.ga K "Works")) "rim" = some (some (.ref (He.ma K (He.ga K "Works") "rim"))) := He.eqO_ok (c.fact 3 11 rfl rfl)
  have i4 : PySem.W.isFn K (.ref (He.ma K (He.ga K "Works") "rim")) = true := (c.fact 3 12 rfl rfl)
  obtain ⟨_, _, _, _, _, _, _, _, _, l4, c4⟩ := c.def_ (d := d5) 5 rfl
  have k4 : PySem.W.keepIn K (.ref (He.ma K (He.ga K "Works") "rim")) = true := (c.fact 3 13 rfl rfl)
  have a5 : PySem.W.findIn K (.ref (He.ga K "Works")) "size" = some (some (.ref (He.ma K (He.ga K "Works") "size"))) := He.eqO_ok (c.fact 3 14 rfl rfl)
  have i5 : PySem.W.isFn K (.ref (He.ma K (He.ga K "Works") "size")) = true := (c.fact 3 15 rfl rfl)
  obtain ⟨_, _, _, _, _, _, _, _, _, l5, c5⟩ := c.def_ (d := d6) 6 rfl
  have k5 : PySem.W.keepIn K (.ref (He.ma K (He.ga K "Works") "size")) = true := (c.fact 3 16 rfl rfl)
  have a6 : PySem.W.findIn K (.ref (He.ga K "Works")) "pictures" = some (some (.ref (He.ma K (He.ga K "Works") "pictures"))) := He.eqO_ok (c.fact 3 17 rfl rfl)
  have i6 : PySem.W.isFn K (.ref (He.ma K (He.ga K "Works") "pictures")) = true := (c.fact 3 18 rfl rfl)
  obtain ⟨_, _, _, _, _, _, _, _, _, l6, c6⟩ := c.def_ (d := d7) 7 rfl
  have k6 : PySem.W.keepIn K (.ref (He.ma K (He.ga K "Works") "pictures")) = true := (c.fact 3 19 rfl rfl)
  have a7 : PySem.W.nsIn K mainGlobals "works_shown" = some (some (.ref (He.ga K "works_shown"))) := He.eqO_ok (c.fact 3 20 rfl rfl)
  obtain ⟨_, _, _, _, _, _, _, _, _, l7, c7⟩ := c.def_ (d := d8) 8 rfl
  have k7 : PySem.W.keepIn K (.ref (He.ga K "works_shown")) = true := (c.fact 3 21 rfl rfl)
  have a8 : PySem.W.nsIn K mainGlobals "_law_whole" = some (some (.ref (He.ga K "_law_whole"))) := He.eqO_ok (c.fact 3 22 rfl rfl)
  obtain ⟨_, _, _, _, _, _, _, _, _, l8, c8⟩ := c.def_ (d := d9) 9 rfl
  have k8 : PySem.W.keepIn K (.ref (He.ga K "_law_whole")) = true := (c.fact 3 23 rfl rfl)
  have a9 : PySem.W.nsIn K mainGlobals "_law_shape" = some (some (.ref (He.ga K "_law_shape"))) := He.eqO_ok (c.fact 3 24 rfl rfl)
  obtain ⟨_, _, _, _, _, _, _, _, _, l9, c9⟩ := c.def_ (d := d10) 10 rfl
  have k9 : PySem.W.keepIn K (.ref (He.ga K "_law_shape")) = true := (c.fact 3 25 rfl rfl)
  have a10 : PySem.W.nsIn K mainGlobals "look_at_read" = some (some (.ref (He.ga K "look_at_read"))) := He.eqO_ok (c.fact 3 26 rfl rfl)
  obtain ⟨_, _, _, _, _, _, _, _, _, l10, c10⟩ := c.def_ (d := d11) 11 rfl
  have k10 : PySem.W.keepIn K (.ref (He.ga K "look_at_read")) = true := (c.fact 3 27 rfl rfl)
  have a11 : PySem.W.nsIn K mainGlobals "look_at_number" = some (some (.ref (He.ga K "look_at_number"))) := He.eqO_ok (c.fact 3 28 rfl rfl)
  obtain ⟨_, _, _, _, _, _, _, _, _, l11, c11⟩ := c.def_ (d := d12) 12 rfl
  have k11 : PySem.W.keepIn K (.ref (He.ga K "look_at_number")) = true := (c.fact 3 29 rfl rfl)
  have a12 : PySem.W.nsIn K mainGlobals "wanted_behind" = some (some (.ref (He.ga K "wanted_behind"))) := He.eqO_ok (c.fact 4 0 rfl rfl)
  obtain ⟨_, _, _, _, _, _, _, _, _, l12, c12⟩ := c.def_ (d := d13) 13 rfl
  have k12 : PySem.W.keepIn K (.ref (He.ga K "wanted_behind")) = true := (c.fact 4 1 rfl rfl)
  have a13 : PySem.W.nsIn K mainGlobals "look_at_formula" = some (some (.ref (He.ga K "look_at_formula"))) := He.eqO_ok (c.fact 4 2 rfl rfl)
  obtain ⟨_, _, _, _, _, _, _, _, _, l13, c13⟩ := c.def_ (d := d14) 14 rfl
  have k13 : PySem.W.keepIn K (.ref (He.ga K "look_at_formula")) = true := (c.fact 4 3 rfl rfl)
  have a14 : PySem.W.nsIn K mainGlobals "all_letters" = some (some (.ref (He.ga K "all_letters"))) := He.eqO_ok (c.fact 4 4 rfl rfl)
  obtain ⟨_, _, _, _, _, _, _, _, _, l14, c14⟩ := c.def_ (d := d15) 15 rfl
  have k14 : PySem.W.keepIn K (.ref (He.ga K "all_letters")) = true := (c.fact 4 5 rfl rfl)
  have a15 : PySem.W.nsIn K mainGlobals "is_name" = some (some (.ref (He.ga K "is_name"))) := He.eqO_ok (c.fact 4 6 rfl rfl)
  obtain ⟨_, _, _, _, _, _, _, _, _, l15, c15⟩ := c.def_ (d := d16) 16 rfl
  have k15 : PySem.W.keepIn K (.ref (He.ga K "is_name")) = true := (c.fact 4 7 rfl rfl)
  have a16 : PySem.W.nsIn K mainGlobals "look_at_name" = some (some (.ref (He.ga K "look_at_name"))) := He.eqO_ok (c.fact 4 8 rfl rfl)
  obtain ⟨_, _, _, _, _, _, _, _, _, l16, c16⟩ := c.def_ (d := d17) 17 rfl
  have k16 : PySem.W.keepIn K (.ref (He.ga K "look_at_name")) = true := (c.fact 4 9 rfl rfl)
  have a17 : PySem.W.nsIn K mainGlobals "look_at_stages" = some (some (.ref (He.ga K "look_at_stages"))) := He.eqO_ok (c.fact 4 10 rfl rfl)
  obtain ⟨_, _, _, _, _, _, _, _, _, l17, c17⟩ := c.def_ (d := d18) 18 rfl
  have k17 : PySem.W.keepIn K (.ref (He.ga K "look_at_stages")) = true := (c.fact 4 11 rfl rfl)
  have a18 : PySem.W.nsIn K mainGlobals "look_at_pictures" = some (some (.ref (He.ga K "look_at_pictures"))) := He.eqO_ok (c.fact 4 12 rfl rfl)
  obtain ⟨_, _, _, _, _, _, _, _, _, l18, c18⟩ := c.def_ (d := d19) 19 rfl
  have k18 : PySem.W.keepIn K (.ref (He.ga K "look_at_pictures")) = true := (c.fact 4 13 rfl rfl)
  have a19 : PySem.W.findIn K (.ref (He.ga K "Works")) "__init__" = some (some (.ref (He.ma K (He.ga K "Works") "__init__"))) := He.eqO_ok (c.fact 4 14 rfl rfl)
  have i19 : PySem.W.isFn K (.ref (He.ma K (He.ga K "Works") "__init__")) = true := (c.fact 4 15 rfl rfl)
  obtain ⟨_, _, _, _, _, _, _, _, _, l19, c19⟩ := c.def_ (d := d20) 20 rfl
  have k19 : PySem.W.keepIn K (.ref (He.ma K (He.ga K "Works") "__init__")) = true := (c.fact 4 16 rfl rfl)
  have a20 : PySem.W.nsIn K mainGlobals "word_of" = some (some (.ref (He.ga K "word_of"))) := He.eqO_ok (c.fact 4 17 rfl rfl)
  obtain ⟨_, _, _, _, _, _, _, _, _, l20, c20⟩ := c.def_ (d := d21) 21 rfl
  have k20 : PySem.W.keepIn K (.ref (He.ga K "word_of")) = true := (c.fact 4 18 rfl rfl)
  have a21 : PySem.W.nsIn K mainGlobals "behind_sign" = some (some (.ref (He.ga K "behind_sign"))) := He.eqO_ok (c.fact 4 19 rfl rfl)
  obtain ⟨_, _, _, _, _, _, _, _, _, l21, c21⟩ := c.def_ (d := d22) 22 rfl
  have k21 : PySem.W.keepIn K (.ref (He.ga K "behind_sign")) = true := (c.fact 4 20 rfl rfl)
  have a22 : PySem.W.nsIn K mainGlobals "is_figures" = some (some (.ref (He.ga K "is_figures"))) := He.eqO_ok (c.fact 4 21 rfl rfl)
  obtain ⟨_, _, _, _, _, _, _, _, _, l22, c22⟩ := c.def_ (d := d23) 23 rfl
  have k22 : PySem.W.keepIn K (.ref (He.ga K "is_figures")) = true := (c.fact 4 22 rfl rfl)
  have a23 : PySem.W.nsIn K mainGlobals "step_of" = some (some (.ref (He.ga K "step_of"))) := He.eqO_ok (c.fact 4 23 rfl rfl)
  obtain ⟨_, _, _, _, _, _, _, _, _, l23, c23⟩ := c.def_ (d := d24) 24 rfl
  have k23 : PySem.W.keepIn K (.ref (He.ga K "step_of")) = true := (c.fact 4 24 rfl rfl)
  have a24 : PySem.W.nsIn K mainGlobals "number_of" = some (some (.ref (He.ga K "number_of"))) := He.eqO_ok (c.fact 4 25 rfl rfl)
  obtain ⟨_, _, _, _, _, _, _, _, _, l24, c24⟩ := c.def_ (d := d25) 25 rfl
  have k24 : PySem.W.keepIn K (.ref (He.ga K "number_of")) = true := (c.fact 4 26 rfl rfl)
  have a25 : PySem.W.nsIn K mainGlobals "plain_value" = some (some (.ref (He.ga K "plain_value"))) := He.eqO_ok (c.fact 4 27 rfl rfl)
  obtain ⟨_, _, _, _, _, _, _, _, _, l25, c25⟩ := c.def_ (d := d26) 26 rfl
  have k25 : PySem.W.keepIn K (.ref (He.ga K "plain_value")) = true := (c.fact 4 28 rfl rfl)
  have a26 : PySem.W.nsIn K mainGlobals "part_at" = some (some (.ref (He.ga K "part_at"))) := He.eqO_ok (c.fact 4 29 rfl rfl)
  obtain ⟨_, _, _, _, _, _, _, _, _, l26, c26⟩ := c.def_ (d := d27) 27 rfl
  have k26 : PySem.W.keepIn K (.ref (He.ga K "part_at")) = true := (c.fact 5 0 rfl rfl)
  have a27 : PySem.W.nsIn K mainGlobals "formula_at" = some (some (.ref (He.ga K "formula_at"))) := He.eqO_ok (c.fact 5 1 rfl rfl)
  obtain ⟨_, _, _, _, _, _, _, _, _, l27, c27⟩ := c.def_ (d := d28) 28 rfl
  have k27 : PySem.W.keepIn K (.ref (He.ga K "formula_at")) = true := (c.fact 5 2 rfl rfl)
  have a28 : PySem.W.nsIn K mainGlobals "stage_of" = some (some (.ref (He.ga K "stage_of"))) := He.eqO_ok (c.fact 5 3 rfl rfl)
  obtain ⟨_, _, _, _, _, _, _, _, _, l28, c28⟩ := c.def_ (d := d29) 29 rfl
  have k28 : PySem.W.keepIn K (.ref (He.ga K "stage_of")) = true := (c.fact 5 4 rfl rfl)
  have a29 : PySem.W.nsIn K mainGlobals "picture_of" = some (some (.ref (He.ga K "picture_of"))) := He.eqO_ok (c.fact 5 5 rfl rfl)
  obtain ⟨_, _, _, _, _, _, _, _, _, l29, c29⟩ := c.def_ (d := d30) 30 rfl
  have k29 : PySem.W.keepIn K (.ref (He.ga K "picture_of")) = true := (c.fact 5 6 rfl rfl)
  have a30 : PySem.W.nsIn K mainGlobals "works_read" = some (some (.ref (He.ga K "works_read"))) := He.eqO_ok (c.fact 5 7 rfl rfl)
  obtain ⟨_, _, _, _, _, _, _, _, _, l30, c30⟩ := c.def_ (d := d31) 31 rfl
  have k30 : PySem.W.keepIn K (.ref (He.ga K "works_read")) = true := (c.fact 5 8 rfl rfl)
  have a31 : PySem.W.nsIn K mainGlobals "_law_formula_text" = some (some (.ref (He.ga K "_law_formula_text"))) := He.eqO_ok (c.fact 5 9 rfl rfl)
  obtain ⟨_, _, _, _, _, _, _, _, _, l31, c31⟩ := c.def_ (d := d32) 32 rfl
  have k31 : PySem.W.keepIn K (.ref (He.ga K "_law_formula_text")) = true := (c.fact 5 10 rfl rfl)
  have a32 : PySem.W.nsIn K mainGlobals "_law_text" = some (some (.ref (He.ga K "_law_text"))) := He.eqO_ok (c.fact 5 11 rfl rfl)
  obtain ⟨_, _, _, _, _, _, _, _, _, l32, c32⟩ := c.def_ (d := d33) 33 rfl
  have k32 : PySem.W.keepIn K (.ref (He.ga K "_law_text")) = true := (c.fact 5 12 rfl rfl)
  have a33 : PySem.W.nsIn K mainGlobals "_law_measure" = some (some (.ref (He.ga K "_law_measure"))) := He.eqO_ok (c.fact 5 13 rfl rfl)
  obtain ⟨_, _, _, _, _, _, _, _, _, l33, c33⟩ := c.def_ (d := d34) 34 rfl
  have k33 : PySem.W.keepIn K (.ref (He.ga K "_law_measure")) = true := (c.fact 5 14 rfl rfl)
  have a34 : PySem.W.nsIn K mainGlobals "_law_drawn_at" = some (some (.ref (He.ga K "_law_drawn_at"))) := He.eqO_ok (c.fact 5 15 rfl rfl)
  obtain ⟨_, _, _, _, _, _, _, _, _, l34, c34⟩ := c.def_ (d := d35) 35 rfl
  have k34 : PySem.W.keepIn K (.ref (He.ga K "_law_drawn_at")) = true := (c.fact 5 16 rfl rfl)
  have a35 : PySem.W.nsIn K mainGlobals "_law_number" = some (some (.ref (He.ga K "_law_number"))) := He.eqO_ok (c.fact 5 17 rfl rfl)
  obtain ⟨_, _, _, _, _, _, _, _, _, l35, c35⟩ := c.def_ (d := d36) 36 rfl
  have k35 : PySem.W.keepIn K (.ref (He.ga K "_law_number")) = true := (c.fact 5 18 rfl rfl)
  have a36 : PySem.W.nsIn K mainGlobals "_law_leaf" = some (some (.ref (He.ga K "_law_leaf"))) := He.eqO_ok (c.fact 5 19 rfl rfl)
  obtain ⟨_, _, _, _, _, _, _, _, _, l36, c36⟩ := c.def_ (d := d37) 37 rfl
  have k36 : PySem.W.keepIn K (.ref (He.ga K "_law_leaf")) = true := (c.fact 5 20 rfl rfl)
  have a37 : PySem.W.nsIn K mainGlobals "_law_formula" = some (some (.ref (He.ga K "_law_formula"))) := He.eqO_ok (c.fact 5 21 rfl rfl)
  obtain ⟨_, _, _, _, _, _, _, _, _, l37, c37⟩ := c.def_ (d := d38) 38 rfl
  have k37 : PySem.W.keepIn K (.ref (He.ga K "_law_formula")) = true := (c.fact 5 22 rfl rfl)
  have a38 : PySem.W.nsIn K mainGlobals "_law_grown" = some (some (.ref (He.ga K "_law_grown"))) := He.eqO_ok (c.fact 5 23 rfl rfl)
  obtain ⟨_, _, _, _, _, _, _, _, _, l38, c38⟩ := c.def_ (d := d39) 39 rfl
  have k38 : PySem.W.keepIn K (.ref (He.ga K "_law_grown")) = true := (c.fact 5 24 rfl rfl)
  have a39 : PySem.W.nsIn K mainGlobals "_law_digits" = some (some (.ref (He.ga K "_law_digits"))) := He.eqO_ok (c.fact 5 25 rfl rfl)
  obtain ⟨_, _, _, _, _, _, _, _, _, l39, c39⟩ := c.def_ (d := d40) 40 rfl
  have k39 : PySem.W.keepIn K (.ref (He.ga K "_law_digits")) = true := (c.fact 5 26 rfl rfl)
  have a40 : PySem.W.nsIn K mainGlobals "_law_mixed" = some (some (.ref (He.ga K "_law_mixed"))) := He.eqO_ok (c.fact 5 27 rfl rfl)
  obtain ⟨_, _, _, _, _, _, _, _, _, l40, c40⟩ := c.def_ (d := d41) 41 rfl
  have k40 : PySem.W.keepIn K (.ref (He.ga K "_law_mixed")) = true := (c.fact 5 28 rfl rfl)
  have a41 : PySem.W.nsIn K mainGlobals "_law_pictures" = some (some (.ref (He.ga K "_law_pictures"))) := He.eqO_ok (c.fact 5 29 rfl rfl)
  obtain ⟨_, _, _, _, _, _, _, _, _, l41, c41⟩ := c.def_ (d := d42) 42 rfl
  have k41 : PySem.W.keepIn K (.ref (He.ga K "_law_pictures")) = true := (c.fact 6 0 rfl rfl)
  have a42 : PySem.W.nsIn K mainGlobals "_law_names" = some (some (.ref (He.ga K "_law_names"))) := He.eqO_ok (c.fact 6 1 rfl rfl)
  obtain ⟨_, _, _, _, _, _, _, _, _, l42, c42⟩ := c.def_ (d := d43) 43 rfl
  have k42 : PySem.W.keepIn K (.ref (He.ga K "_law_names")) = true := (c.fact 6 2 rfl rfl)
  have a43 : PySem.W.nsIn K mainGlobals "_law_parts" = some (some (.ref (He.ga K "_law_parts"))) := He.eqO_ok (c.fact 6 3 rfl rfl)
  obtain ⟨_, _, _, _, _, _, _, _, _, l43, c43⟩ := c.def_ (d := d44) 44 rfl
  have k43 : PySem.W.keepIn K (.ref (He.ga K "_law_parts")) = true := (c.fact 6 4 rfl rfl)
  have a44 : PySem.W.nsIn K mainGlobals "law" = some (some (.ref (He.ga K "law"))) := He.eqO_ok (c.fact 6 5 rfl rfl)
  obtain ⟨_, _, _, _, _, _, _, _, _, l44, c44⟩ := c.def_ (d := d45) 45 rfl
  have k44 : PySem.W.keepIn K (.ref (He.ga K "law")) = true := (c.fact 6 6 rfl rfl)
  have z_abs : PySem.W.nsIn K mainGlobals "abs" = some none := He.eqO_ok (c.fact 6 7 rfl rfl)
  have z_bool : PySem.W.nsIn K mainGlobals "bool" = some none := He.eqO_ok (c.fact 6 8 rfl rfl)
  have z_enumerate : PySem.W.nsIn K mainGlobals "enumerate" = some none := He.eqO_ok (c.fact 6 9 rfl rfl)
  have z_int : PySem.W.nsIn K mainGlobals "int" = some none := He.eqO_ok (c.fact 6 10 rfl rfl)
  have z_isinstance : PySem.W.nsIn K mainGlobals "isinstance" = some none := He.eqO_ok (c.fact 6 11 rfl rfl)
  have z_len : PySem.W.nsIn K mainGlobals "len" = some none := He.eqO_ok (c.fact 6 12 rfl rfl)
  have z_list : PySem.W.nsIn K mainGlobals "list" = some none := He.eqO_ok (c.fact 6 13 rfl rfl)
  have z_min : PySem.W.nsIn K mainGlobals "min" = some none := He.eqO_ok (c.fact 6 14 rfl rfl)
  have z_range : PySem.W.nsIn K mainGlobals "range" = some none := He.eqO_ok (c.fact 6 15 rfl rfl)
  have z_reversed : PySem.W.nsIn K mainGlobals "reversed" = some none := He.eqO_ok (c.fact 6 16 rfl rfl)
  have z_str : PySem.W.nsIn K mainGlobals "str" = some none := He.eqO_ok (c.fact 6 17 rfl rfl)
  have z_sum : PySem.W.nsIn K mainGlobals "sum" = some none := He.eqO_ok (c.fact 6 18 rfl rfl)
  have z_tuple : PySem.W.nsIn K mainGlobals "tuple" = some none := He.eqO_ok (c.fact 6 19 rfl rfl)
  exact all_mk X G hfa aC_Works pg_Works hd_Works po_Works sa_Works mk_Works kc_Works nf_Works_kept_formulas nf_Works_kept_pictures nf_Works_measure a_FARTHEST a_FIGURES a_GREATEST a_LETTERS a_LONGEST a_MOST_FIGURES a_MOST_PICTURES a_MOST_STAGES a_PAIRS l_PAIRS v_PAIRS w_PAIRS a_STEP_FIGURES a_WIDEST a_WORDS l_WORDS v_WORDS w_WORDS aE_MillError aE_NoMeasure aE_BadCount aE_BadName aE_Twice aE_BadSize aE_BadNumber aE_NoDeed aE_NoStage aE_BadStep aE_BadText xq_BadCount kE_BadCount bE_BadCount tE_BadCount xq_BadName kE_BadName bE_BadName tE_BadName xq_BadNumber kE_BadNumber bE_BadNumber tE_BadNumber xq_BadSize kE_BadSize bE_BadSize tE_BadSize xq_BadStep kE_BadStep bE_BadStep tE_BadStep xq_NoDeed kE_NoDeed bE_NoDeed tE_NoDeed xq_NoMeasure kE_NoMeasure bE_NoMeasure tE_NoMeasure xq_NoStage kE_NoStage bE_NoStage tE_NoStage xq_Twice kE_Twice bE_Twice tE_Twice cnE ckE caC_Works cmC_Works sC_Works iC_Works tC_Works fE_BadText lE_BadText rE_BadText saE_BadText jE_BadText jt_BadText jl_BadText jc_BadText jk_BadText bE_BadText tE_BadText kE_BadText gaM rdM inM a0 l0 c0 k0 a1 i1 l1 c1 k1 a2 i2 l2 c2 k2 a3 i3 l3 c3 k3 a4 i4 l4 c4 k4 a5 i5 l5 c5 k5 a6 i6 l6 c6 k6 a7 l7 c7 k7 a8 l8 c8 k8 a9 l9 c9 k9 a10 l10 c10 k10 a11 l11 c11 k11 a12 l12 c12 k12 a13 l13 c13 k13 a14 l14 c14 k14 a15 l15 c15 k15 a16 l16 c16 k16 a17 l17 c17 k17 a18 l18 c18 k18 a19 i19 l19 c19 k19 a20 l20 c20 k20 a21 l21 c21 k21 a22 l22 c22 k22 a23 l23 c23 k23 a24 l24 c24 k24 a25 l25 c25 k25 a26 l26 c26 k26 a27 l27 c27 k27 a28 l28 c28 k28 a29 l29 c29 k29 a30 l30 c30 k30 a31 l31 c31 k31 a32 l32 c32 k32 a33 l33 c33 k33 a34 l34 c34 k34 a35 l35 c35 k35 a36 l36 c36 k36 a37 l37 c37 k37 a38 l38 c38 k38 a39 l39 c39 k39 a40 l40 c40 k40 a41 l41 c41 k41 a42 l42 c42 k42 a43 l43 c43 k43 a44 l44 c44 k44 z_abs z_bool z_enumerate z_int z_isinstance z_len z_list z_min z_range z_reversed z_str z_sum z_tuple
end
end W
open PySem PySem.W PySem.Calls PyProof.Rows
set_option maxRecDepth 100000 in
set_option maxHeartbeats 0 in
theorem PySem.Challenge.cw_stripmill_k95_works_shown_and_read_holds : PySem.Challenge.rw_stripmill_k95_works_shown_and_read.Holds := by
  w_on; o_law
  refine HandSHeadRun.head_any (r := OpenLaw.row PySem.Challenge.rw_stripmill_k95_works_shown_and_read) (q := view (OpenLaw.row PySem.Challenge.rw_stripmill_k95_works_shown_and_read).prog [67]) (H := W.hkX) (ob := W.obX) (M := 20000) (loose := W.nmL) (d := HandSHeadRun.topDef (OpenLaw.row PySem.Challenge.rw_stripmill_k95_works_shown_and_read).prog 67) (kwd := []) W.obX_eq
    (by kernel_rfl) (fun s => by kernel_rfl) W.runX (by kernel_rfl) (by kernel_rfl) (by kernel_rfl) (by rfl) (by first | assumption | decide +kernel) (by decide +kernel) ⟨rfl, rfl, rfl, rfl, rfl, by decide +kernel⟩ ?hw ?hc
  case hw => w_witness2
  case hc =>
    refine L2.walk_ofEB (l := PySem.Challenge.rw_stripmill_k95_works_shown_and_read) (n := 63) (k := 20) (x := "_law_script") (CX := fun w => L2.CX PySem.Challenge.rw_stripmill_k95_works_shown_and_read.prog w) rfl (by decide) (by kernel_rfl) ⟨rfl, by decide, by decide⟩ ?F (fun _ _ _ _ _ z => G.cx_no z)
    intro w mg fa h Y G hmg0
    obtain ⟨K, KX, c⟩ := Y
    have hmg : mg ("law" : PySem.Str) = some (.ref fa) := by
      have e : (HandSHeadRun.topDef (OpenLaw.row PySem.Challenge.rw_stripmill_k95_works_shown_and_read).prog 67).name = ("law" : PySem.Str) := by kernel_rfl
      rw [← e]
      exact hmg0
    obtain ⟨fd, hb, hF⟩ := W.all_of (l := PySem.Challenge.rw_stripmill_k95_works_shown_and_read) (w := w) KX G hmg c
    exact ⟨K, fd, _, KX, hb, fun H a ns hl hbt _ hS => W.sp_law K H a ns hl hbt hS, hF⟩
