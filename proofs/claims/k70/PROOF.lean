import PyProof.Rows.All
import Wide.All
import OpenK.AllK
import Wide.FinOn
import HandS.ExcInit
import HandS.ExcField
import HandS.ExcIs
import HandS.WordsExc
import HandS.ExcOwn
import HandS.ExcCtx
import PyProof.ExcBaseAll.LookupError
import PyProof.ExcBaseAll.RuntimeError
import KE.KExcInit
import KE.OsRunLaw
import HandS.Lambda
import HandS.ForMost
import HandS.Star
import HandS.Wide
import HandS.Gcd
import HandS.DictComp
import HandS.IsInst
import HandS.Zip
import HandS.Style
import HandS.Property
import HandS.Deep
import HandS.TupSets
import HandS.Keys
import KE.KMathG
import HandS.Defaults
import PyProof.Rows.Walk
import KE.SortData
import HandS.FStr
import HandS.Text
import HandS.Iter
import HandS.Codes
import HandS.MakeKw
import HandS.OwnEq
import HandS.Replace
import HandS.Strs
import HandS.Dict
import KE.KExcIs
import KE.GoesMore
import HandS.EndTab
import KE.KSortKey
import HandS.EndBits
import KE.KNest
import HandS.Conv
import HandS.HotCalls
import PyProof.Seq
import PyProof.StrBlock2
import HandS.MakeKwOnly
import HandS.More
import KE.KRevSl
import KE.GoesEnum
import HandS.TupAny
import HandS.Records
import HandS.DeepEq
import HandS.ListItems
import HandS.Remove
import KE.DataFind
import KE.KIndexOf
import KE.KDictList
import HandS.TryMany
import PySem.Challenge.RW_bandheld_k70_errors_by_themselves
set_option Elab.async false
set_option linter.all false
set_option maxRecDepth 100000
section
/-! L0k: looks at the written part, for the head of a proof -/
namespace PySem
namespace BX
open PySem.W PySem.Calls PyProof.Rows PySem.HandSPX
open Builtin Builtin.ObjectAttr
def isOwn : Value → Bool
  | .ref _ => true
  | _ => false
/-- own classes ahead of the built-in base's row -/
def ownB (tl l : List Value) : Bool := l.dropWhile isOwn == tl
theorem ownB_split {tl : List Value} : ∀ {l : List Value}, ownB tl l = true → ∃ cs : List Addr, l = cs.map Value.ref ++ tl
  | [], e => ⟨[], beq_iff_eq.mp e⟩
  | .ref c :: r, e => (ownB_split (l := r) e).elim fun cs q => ⟨c :: cs, congrArg (Value.ref c :: ·) q⟩
  | .none :: _, e | .ellipsis :: _, e | .notImplemented :: _, e | .bool _ :: _, e | .int _ _ :: _, e | .float _ _ :: _, e | .str _ _ :: _, e | .bytes _ _ :: _, e | .type _ :: _, e | .builtin _ :: _, e => ⟨[], beq_iff_eq.mp e⟩
/-- what is known of the built-in base -/
structure BaseOk (B newId initId : String) (tl : List Value) : Prop where
  facts : ExcBaseFacts B newId initId tl
  pass : ∀ self, refuseLoop self "__setattr__" tl = pure ()
  obj : tl.contains (.type "object") = true
theorem base_VE : BaseOk "ValueError" "ValueError.__new__" "ValueError.__init__" [.type "ValueError", .type "Exception", .type "BaseException", .type "object"] := ⟨F.excBase_ValueError, F.store_ValueError.passes, by decide +kernel⟩
theorem base_LE : BaseOk "LookupError" "LookupError.__new__" "LookupError.__init__" [.type "LookupError", .type "Exception", .type "BaseException", .type "object"] := ⟨F.excBase_LookupError, F.store_LookupError.passes, by decide +kernel⟩
theorem base_RE : BaseOk "RuntimeError" "RuntimeError.__new__" "RuntimeError.__init__" [.type "RuntimeError", .type "Exception", .type "BaseException", .type "object"] := ⟨F.excBase_RuntimeError, F.store_RuntimeError.passes, by decide +kernel⟩
theorem own_pass {self : Value} {tl : List Value} (h : refuseLoop self "__setattr__" tl = pure ()) : ∀ cs : List Addr, refuseLoop self "__setattr__" (cs.map Value.ref ++ tl) = pure ()
  | [] => h
  | _ :: cs => (refuseLoop_ref ..).trans (own_pass h cs)
theorem own_has {tl : List Value} (Y : String) : ∀ cs : List Addr, (cs.map Value.ref ++ tl).contains (.type Y) = tl.contains (.type Y)
  | [] => rfl
  | c :: cs => by
    show (Value.ref c :: (cs.map Value.ref ++ tl)).contains (.type Y) = _
    rw [List.contains_cons, own_has Y cs]; rfl
theorem ownB_has {tl l : List Value} (e : ownB tl l = true) (Y : String) : l.contains (.type Y) = tl.contains (.type Y) := by
  obtain ⟨cs, rfl⟩ := ownB_split e
  exact own_has Y cs
theorem ownB_pass {tl l : List Value} (e : ownB tl l = true) (self : Value) (h : refuseLoop self "__setattr__" tl = pure ()) : refuseLoop self "__setattr__" l = pure () := by
  obtain ⟨cs, rfl⟩ := ownB_split e
  exact own_pass h cs
end BX
end PySem
namespace L3
open PySem PySem.Spec PyProof.Rows L2
open PySem.BX (BaseOk ownB)
def ClsLk (K : PySem.W.Frag) (C : Addr) : Prop := ∃ nm q N bs bm sn sub ab col dd k0 k1 k2 k3 k5, K.lookup C = some (excClassObj nm q C N bs bm true sn sub ab col dd k0 k1 k2 k3 k5 "ValueError.__new__") ∧ PySem.HandSPX.refsVE bm = true
theorem cls_some {K : PySem.W.Frag} {D : Addr} (h : PySem.W.hasDictIn K D = true) : (PySem.W.clsIn K D).isSome = true := by
  obtain ⟨cd, hc, _⟩ := PySem.W.any_some h
  rw [hc]; rfl
/-- what the written part says of the class -/
def ClsLkG (K : PySem.W.Frag) (C : Addr) : Prop := ∃ B newId initId tl nm q N bs bm sn sub ab col dd k0 k1 k2 k3 k5, BaseOk B newId initId tl ∧ K.lookup C = some (excClassObj nm q C N bs bm true sn sub ab col dd k0 k1 k2 k3 k5 newId) ∧ ownB tl bm = true
theorem clsLkG_of {K : PySem.W.Frag} {C : Addr} {B newId initId tl nm q N bs bm sn sub ab col dd k0 k1 k2 k3 k5} (b : BaseOk B newId initId tl) (h : K.lookup C = some (excClassObj nm q C N bs bm true sn sub ab col dd k0 k1 k2 k3 k5 newId)) (e : ownB tl bm = true) : ClsLkG K C := ⟨_, _, _, _, _, _, _, _, _, _, _, _, _, _, _, _, _, _, _, b, h, e⟩
def ktabB (K : PySem.W.Frag) (Cs : List Addr) (cv : Value) (tb : List Bool) : Bool := (List.range Cs.length).all fun i => decide (PySem.W.kitOne K (.ref (Cs.getD i 0)) cv = some (tb.getD i false))
def takB (K : PySem.W.Frag) (T : List (Addr × Nat)) (Ds : List Addr) : Bool := T.all fun t => (List.range Ds.length).all fun i => decide (t.2 < i) || decide (PySem.W.exmOne K (.ref t.1) (.ref (Ds.getD i 0)) = some (decide (i = t.2)))
/-- the looks that every exception class must pass -/
def excB (K : PySem.W.Frag) (C : Addr) : Bool :=
  decide (PySem.W.findIn K (.ref C) "__getattribute__" = some (some (.builtin "BaseException.__getattribute__"))) && (decide (PySem.W.findIn K (.ref C) "__getattr__" = some none) && (decide (PySem.W.subIn K (.ref C) (.type "BaseException") = some true) && (PySem.W.hasDictIn K C &&
    (decide (PySem.W.findIn K (.ref C) "__class__" = some (some (.builtin "object.__class__"))) && (decide (PySem.W.specialIn K (.builtin "object.__class__") "__get__" = some (some (.builtin "getset_descriptor.__get__"))) &&
      (decide (PySem.W.takesIn K (.builtin "object.__class__") = some true) && decide (PySem.W.mroIn K C (.type "object") = some true)))))))
/-- .. and one whose __init__ stores the fields fs -/
def exvB (K : PySem.W.Frag) (C fI : Addr) (fs : List Str) : Bool :=
  excB K C && (decide (PySem.W.findIn K (.ref C) "__setattr__" = some (some (.builtin "object.__setattr__"))) && (decide (PySem.W.typeIn K (.ref C) = some (.type "type")) && (PySem.W.keepIn K (.ref C) &&
    (decide (PySem.W.findIn K (.ref C) "__init__" = some (some (.ref fI))) && (decide (PySem.W.typeIn K (.ref fI) = some (.type "function")) && fs.all fun f => decide (PySem.W.findIn K (.ref C) f = some none))))))
def bNames : List String := ["NoneType", "bool", "int", "str", "tuple", "list"]
/-- isinstance(x, us) of the own classes Cs and of the plain values -/
def isAnyB (K : PySem.W.Frag) (Cs : List (Addr × Bool)) (us : List Value) : Bool := (Cs.all fun p => decide (PySem.W.kitAny K (.ref p.1) us = some p.2)) && bNames.all fun n => decide (PySem.W.kitAny K (.type n) us = some false)
def isOneB (K : PySem.W.Frag) (Cs : List (Addr × Bool)) (u : Value) : Bool := (Cs.all fun p => decide (PySem.W.kitOne K (.ref p.1) u = some p.2)) && bNames.all fun n => decide (PySem.W.kitOne K (.type n) u = some false)
end L3
end
section
namespace K70
open PySem PySem.Spec PyProof.Rows L2 L3
def top (i : Nat) : Stmt := PySem.Challenge.pw_bandheld_k70_errors_by_themselves.main.body.getD i (.Pass ⟨0, 0, 0, 0⟩)
abbrev s_Started_init : Stmt := inClass (top 31) 0
abbrev s_UnknownHop_init : Stmt := inClass (top 27) 0
abbrev s_Short_init : Stmt := inClass (top 19) 0
abbrev s_BadAmount_init : Stmt := inClass (top 2) 0
abbrev s_BadLink_init : Stmt := inClass (top 3) 0
abbrev s_BadFlow_init : Stmt := inClass (top 4) 0
abbrev s_BadAge_init : Stmt := inClass (top 5) 0
abbrev s_BadPart_init : Stmt := inClass (top 6) 0
abbrev s_TooMany_init : Stmt := inClass (top 7) 0
abbrev s_DuplicateName_init : Stmt := inClass (top 8) 0
abbrev s_Idle_init : Stmt := inClass (top 9) 0
abbrev s_Overpromised_init : Stmt := inClass (top 10) 0
abbrev s_Small_init : Stmt := inClass (top 11) 0
abbrev s_BadText_init : Stmt := inClass (top 12) 0
abbrev s_BadManner_init : Stmt := inClass (top 13) 0
abbrev s_BadCapacity_init : Stmt := inClass (top 14) 0
abbrev s_BadSharing_init : Stmt := inClass (top 15) 0
abbrev s_BadBand_init : Stmt := inClass (top 16) 0
abbrev s_Future_init : Stmt := inClass (top 18) 0
abbrev s_BadValue_init : Stmt := inClass (top 20) 0
abbrev s_BadState_init : Stmt := inClass (top 21) 0
abbrev s_BadCount_init : Stmt := inClass (top 22) 0
abbrev s_BadDeed_init : Stmt := inClass (top 23) 0
abbrev s_UnknownName_init : Stmt := inClass (top 25) 0
abbrev s_UnknownChannel_init : Stmt := inClass (top 26) 0
abbrev s_NoSuchLetter_init : Stmt := inClass (top 28) 0
abbrev s_NoSuchTick_init : Stmt := inClass (top 29) 0
abbrev s_NotStrange_init : Stmt := inClass (top 32) 0
abbrev s_NotShaky_init : Stmt := inClass (top 33) 0
abbrev s_Unseen_init : Stmt := inClass (top 34) 0
abbrev s_law_bag : Stmt := top 36
abbrev s_law_draw : Stmt := top 37
abbrev s_law_of : Stmt := top 39
abbrev s_law_taken : Stmt := top 53
abbrev s_law_last_made : Stmt := top 52
abbrev s_law_like : Stmt := top 40
abbrev s_law_odd : Stmt := top 44
abbrev s_law_word : Stmt := top 45
abbrev s_law_pair : Stmt := top 41
abbrev s_law_wide : Stmt := top 38
abbrev s_law_great : Stmt := top 42
abbrev s_law_amount : Stmt := top 43
abbrev s_law_first_made : Stmt := top 50
abbrev s_law_middle_made : Stmt := top 51
abbrev s_law_last_ones : Stmt := top 49
abbrev s_law_middle_ones : Stmt := top 48
abbrev s_law_first_ones : Stmt := top 47
abbrev s_law_known : Stmt := top 46
abbrev s_law_rows_so : Stmt := top 57
abbrev s_law_thrown : Stmt := top 54
abbrev s_law_missed : Stmt := top 55
abbrev s_law_refused : Stmt := top 56
abbrev s_law : Stmt := top 58
/-- what the written part says -/
def Facts (K : PySem.W.Frag) (h : Heap) (R : Prop) : Prop := ∀ {x_Short x_UnknownHop x_Started x_BadAmount x_BadLink x_BadFlow x_BadAge x_BadPart x_TooMany x_DuplicateName x_Idle x_Overpromised x_Small x_BadText x_BadManner x_BadCapacity x_BadSharing x_BadBand x_NotPlain x_Future x_BadValue x_BadState x_BadCount x_BadDeed x_UnknownName x_UnknownChannel x_NoSuchLetter x_NoSuchTick x_NotStrange x_NotShaky x_Unseen x_BandError x_Missing x_Refused x_Started_init x_UnknownHop_init x_Short_init x_BadAmount_init x_BadLink_init x_BadFlow_init x_BadAge_init x_BadPart_init x_TooMany_init x_DuplicateName_init x_Idle_init x_Overpromised_init x_Small_init x_BadText_init x_BadManner_init x_BadCapacity_init x_BadSharing_init x_BadBand_init x_Future_init x_BadValue_init x_BadState_init x_BadCount_init x_BadDeed_init x_UnknownName_init x_UnknownChannel_init x_NoSuchLetter_init x_NoSuchTick_init x_NotStrange_init x_NotShaky_init x_Unseen_init x_law_bag x_law_draw x_law_of x_law_taken x_law_last_made x_law_like x_law_odd x_law_word x_law_pair x_law_wide x_law_great x_law_amount x_law_first_made x_law_middle_made x_law_last_ones x_law_middle_ones x_law_first_ones x_law_known x_law_rows_so x_law_thrown x_law_missed x_law_refused x_law x_cb_law x_tb_law : Addr}
    {oc_Started_init kV_Started_init dc_Started_init pm_Started_init cd_Started_init ct_Started_init : Value} {od_Started_init an_Started_init : Option Addr} {sl_Started_init : Array (Option Value)} {oc_UnknownHop_init kV_UnknownHop_init dc_UnknownHop_init pm_UnknownHop_init cd_UnknownHop_init ct_UnknownHop_init : Value} {od_UnknownHop_init an_UnknownHop_init : Option Addr} {sl_UnknownHop_init : Array (Option Value)} {oc_Short_init kV_Short_init dc_Short_init pm_Short_init cd_Short_init ct_Short_init : Value} {od_Short_init an_Short_init : Option Addr} {sl_Short_init : Array (Option Value)} {oc_BadAmount_init kV_BadAmount_init dc_BadAmount_init pm_BadAmount_init cd_BadAmount_init ct_BadAmount_init : Value} {od_BadAmount_init an_BadAmount_init : Option Addr} {sl_BadAmount_init : Array (Option Value)} {oc_BadLink_init kV_BadLink_init dc_BadLink_init pm_BadLink_init cd_BadLink_init ct_BadLink_init : Value} {od_BadLink_init an_BadLink_init : Option Addr} {sl_BadLink_init : Array (Option Value)} {oc_BadFlow_init kV_BadFlow_init dc_BadFlow_init pm_BadFlow_init cd_BadFlow_init ct_BadFlow_init : Value} {od_BadFlow_init an_BadFlow_init : Option Addr} {sl_BadFlow_init : Array (Option Value)} {oc_BadAge_init kV_BadAge_init dc_BadAge_init pm_BadAge_init cd_BadAge_init ct_BadAge_init : Value} {od_BadAge_init an_BadAge_init : Option Addr} {sl_BadAge_init : Array (Option Value)} {oc_BadPart_init kV_BadPart_init dc_BadPart_init pm_BadPart_init cd_BadPart_init ct_BadPart_init : Value} {od_BadPart_init an_BadPart_init : Option Addr} {sl_BadPart_init : Array (Option Value)} {oc_TooMany_init kV_TooMany_init dc_TooMany_init pm_TooMany_init cd_TooMany_init ct_TooMany_init : Value} {od_TooMany_init an_TooMany_init : Option Addr} {sl_TooMany_init : Array (Option Value)} {oc_DuplicateName_init kV_DuplicateName_init dc_DuplicateName_init pm_DuplicateName_init cd_DuplicateName_init ct_DuplicateName_init : Value} {od_DuplicateName_init an_DuplicateName_init : Option Addr} {sl_DuplicateName_init : Array (Option Value)} {oc_Idle_init kV_Idle_init dc_Idle_init pm_Idle_init cd_Idle_init ct_Idle_init : Value} {od_Idle_init an_Idle_init : Option Addr} {sl_Idle_init : Array (Option Value)} {oc_Overpromised_init kV_Overpromised_init dc_Overpromised_init pm_Overpromised_init cd_Overpromised_init ct_Overpromised_init : Value} {od_Overpromised_init an_Overpromised_init : Option Addr} {sl_Overpromised_init : Array (Option Value)} {oc_Small_init kV_Small_init dc_Small_init pm_Small_init cd_Small_init ct_Small_init : Value} {od_Small_init an_Small_init : Option Addr} {sl_Small_init : Array (Option Value)} {oc_BadText_init kV_BadText_init dc_BadText_init pm_BadText_init cd_BadText_init ct_BadText_init : Value} {od_BadText_init an_BadText_init : Option Addr} {sl_BadText_init : Array (Option Value)} {oc_BadManner_init kV_BadManner_init dc_BadManner_init pm_BadManner_init cd_BadManner_init ct_BadManner_init : Value} {od_BadManner_init an_BadManner_init : Option Addr} {sl_BadManner_init : Array (Option Value)} {oc_BadCapacity_init kV_BadCapacity_init dc_BadCapacity_init pm_BadCapacity_init cd_BadCapacity_init ct_BadCapacity_init : Value} {od_BadCapacity_init an_BadCapacity_init : Option Addr} {sl_BadCapacity_init : Array (Option Value)} {oc_BadSharing_init kV_BadSharing_init dc_BadSharing_init pm_BadSharing_init cd_BadSharing_init ct_BadSharing_init : Value} {od_BadSharing_init an_BadSharing_init : Option Addr} {sl_BadSharing_init : Array (Option Value)} {oc_BadBand_init kV_BadBand_init dc_BadBand_init pm_BadBand_init cd_BadBand_init ct_BadBand_init : Value} {od_BadBand_init an_BadBand_init : Option Addr} {sl_BadBand_init : Array (Option Value)} {oc_Future_init kV_Future_init dc_Future_init pm_Future_init cd_Future_init ct_Future_init : Value} {od_Future_init an_Future_init : Option Addr} {sl_Future_init : Array (Option Value)} {oc_BadValue_init kV_BadValue_init dc_BadValue_init pm_BadValue_init cd_BadValue_init ct_BadValue_init : Value} {od_BadValue_init an_BadValue_init : Option Addr} {sl_BadValue_init : Array (Option Value)} {oc_BadState_init kV_BadState_init dc_BadState_init pm_BadState_init cd_BadState_init ct_BadState_init : Value} {od_BadState_init an_BadState_init : Option Addr} {sl_BadState_init : Array (Option Value)} {oc_BadCount_init kV_BadCount_init dc_BadCount_init pm_BadCount_init cd_BadCount_init ct_BadCount_init : Value} {od_BadCount_init an_BadCount_init : Option Addr} {sl_BadCount_init : Array (Option Value)} {oc_BadDeed_init kV_BadDeed_init dc_BadDeed_init pm_BadDeed_init cd_BadDeed_init ct_BadDeed_init : Value} {od_BadDeed_init an_BadDeed_init : Option Addr} {sl_BadDeed_init : Array (Option Value)} {oc_UnknownName_init kV_UnknownName_init dc_UnknownName_init pm_UnknownName_init cd_UnknownName_init ct_UnknownName_init : Value} {od_UnknownName_init an_UnknownName_init : Option Addr} {sl_UnknownName_init : Array (Option Value)} {oc_UnknownChannel_init kV_UnknownChannel_init dc_UnknownChannel_init pm_UnknownChannel_init cd_UnknownChannel_init ct_UnknownChannel_init : Value} {od_UnknownChannel_init an_UnknownChannel_init : Option Addr} {sl_UnknownChannel_init : Array (Option Value)} {oc_NoSuchLetter_init kV_NoSuchLetter_init dc_NoSuchLetter_init pm_NoSuchLetter_init cd_NoSuchLetter_init ct_NoSuchLetter_init : Value} {od_NoSuchLetter_init an_NoSuchLetter_init : Option Addr} {sl_NoSuchLetter_init : Array (Option Value)} {oc_NoSuchTick_init kV_NoSuchTick_init dc_NoSuchTick_init pm_NoSuchTick_init cd_NoSuchTick_init ct_NoSuchTick_init : Value} {od_NoSuchTick_init an_NoSuchTick_init : Option Addr} {sl_NoSuchTick_init : Array (Option Value)} {oc_NotStrange_init kV_NotStrange_init dc_NotStrange_init pm_NotStrange_init cd_NotStrange_init ct_NotStrange_init : Value} {od_NotStrange_init an_NotStrange_init : Option Addr} {sl_NotStrange_init : Array (Option Value)} {oc_NotShaky_init kV_NotShaky_init dc_NotShaky_init pm_NotShaky_init cd_NotShaky_init ct_NotShaky_init : Value} {od_NotShaky_init an_NotShaky_init : Option Addr} {sl_NotShaky_init : Array (Option Value)} {oc_Unseen_init kV_Unseen_init dc_Unseen_init pm_Unseen_init cd_Unseen_init ct_Unseen_init : Value} {od_Unseen_init an_Unseen_init : Option Addr} {sl_Unseen_init : Array (Option Value)} {oc_law_bag kV_law_bag dc_law_bag pm_law_bag cd_law_bag ct_law_bag : Value} {od_law_bag an_law_bag : Option Addr} {sl_law_bag : Array (Option Value)} {oc_law_draw kV_law_draw dc_law_draw pm_law_draw cd_law_draw ct_law_draw : Value} {od_law_draw an_law_draw : Option Addr} {sl_law_draw : Array (Option Value)} {oc_law_of kV_law_of dc_law_of pm_law_of cd_law_of ct_law_of : Value} {od_law_of an_law_of : Option Addr} {sl_law_of : Array (Option Value)} {oc_law_taken kV_law_taken dc_law_taken pm_law_taken cd_law_taken ct_law_taken : Value} {od_law_taken an_law_taken : Option Addr} {sl_law_taken : Array (Option Value)} {oc_law_last_made kV_law_last_made dc_law_last_made pm_law_last_made cd_law_last_made ct_law_last_made : Value} {od_law_last_made an_law_last_made : Option Addr} {sl_law_last_made : Array (Option Value)} {oc_law_like kV_law_like dc_law_like pm_law_like cd_law_like ct_law_like : Value} {od_law_like an_law_like : Option Addr} {sl_law_like : Array (Option Value)} {oc_law_odd kV_law_odd dc_law_odd pm_law_odd cd_law_odd ct_law_odd : Value} {od_law_odd an_law_odd : Option Addr} {sl_law_odd : Array (Option Value)} {oc_law_word kV_law_word dc_law_word pm_law_word cd_law_word ct_law_word : Value} {od_law_word an_law_word : Option Addr} {sl_law_word : Array (Option Value)} {oc_law_pair kV_law_pair dc_law_pair pm_law_pair cd_law_pair ct_law_pair : Value} {od_law_pair an_law_pair : Option Addr} {sl_law_pair : Array (Option Value)} {oc_law_wide kV_law_wide dc_law_wide pm_law_wide cd_law_wide ct_law_wide : Value} {od_law_wide an_law_wide : Option Addr} {sl_law_wide : Array (Option Value)} {oc_law_great kV_law_great dc_law_great pm_law_great cd_law_great ct_law_great : Value} {od_law_great an_law_great : Option Addr} {sl_law_great : Array (Option Value)} {oc_law_amount kV_law_amount dc_law_amount pm_law_amount cd_law_amount ct_law_amount : Value} {od_law_amount an_law_amount : Option Addr} {sl_law_amount : Array (Option Value)} {oc_law_first_made kV_law_first_made dc_law_first_made pm_law_first_made cd_law_first_made ct_law_first_made : Value} {od_law_first_made an_law_first_made : Option Addr} {sl_law_first_made : Array (Option Value)} {oc_law_middle_made kV_law_middle_made dc_law_middle_made pm_law_middle_made cd_law_middle_made ct_law_middle_made : Value} {od_law_middle_made an_law_middle_made : Option Addr} {sl_law_middle_made : Array (Option Value)} {oc_law_last_ones kV_law_last_ones dc_law_last_ones pm_law_last_ones cd_law_last_ones ct_law_last_ones : Value} {od_law_last_ones an_law_last_ones : Option Addr} {sl_law_last_ones : Array (Option Value)} {oc_law_middle_ones kV_law_middle_ones dc_law_middle_ones pm_law_middle_ones cd_law_middle_ones ct_law_middle_ones : Value} {od_law_middle_ones an_law_middle_ones : Option Addr} {sl_law_middle_ones : Array (Option Value)} {oc_law_first_ones kV_law_first_ones dc_law_first_ones pm_law_first_ones cd_law_first_ones ct_law_first_ones : Value} {od_law_first_ones an_law_first_ones : Option Addr} {sl_law_first_ones : Array (Option Value)} {oc_law_known kV_law_known dc_law_known pm_law_known cd_law_known ct_law_known : Value} {od_law_known an_law_known : Option Addr} {sl_law_known : Array (Option Value)} {oc_law_rows_so kV_law_rows_so dc_law_rows_so pm_law_rows_so cd_law_rows_so ct_law_rows_so : Value} {od_law_rows_so an_law_rows_so : Option Addr} {sl_law_rows_so : Array (Option Value)} {oc_law_thrown kV_law_thrown dc_law_thrown pm_law_thrown cd_law_thrown ct_law_thrown : Value} {od_law_thrown an_law_thrown : Option Addr} {sl_law_thrown : Array (Option Value)} {oc_law_missed kV_law_missed dc_law_missed pm_law_missed cd_law_missed ct_law_missed : Value} {od_law_missed an_law_missed : Option Addr} {sl_law_missed : Array (Option Value)} {oc_law_refused kV_law_refused dc_law_refused pm_law_refused cd_law_refused ct_law_refused : Value} {od_law_refused an_law_refused : Option Addr} {sl_law_refused : Array (Option Value)} {oc_law kV_law dc_law pm_law cd_law ct_law : Value} {od_law an_law : Option Addr} {sl_law : Array (Option Value)}
    (a_Short : PySem.W.nsIn K mainGlobals "Short" = some (some (.ref x_Short)))
    (a_UnknownHop : PySem.W.nsIn K mainGlobals "UnknownHop" = some (some (.ref x_UnknownHop)))
    (a_Started : PySem.W.nsIn K mainGlobals "Started" = some (some (.ref x_Started)))
    (a_BadAmount : PySem.W.nsIn K mainGlobals "BadAmount" = some (some (.ref x_BadAmount)))
    (a_BadLink : PySem.W.nsIn K mainGlobals "BadLink" = some (some (.ref x_BadLink)))
    (a_BadFlow : PySem.W.nsIn K mainGlobals "BadFlow" = some (some (.ref x_BadFlow)))
    (a_BadAge : PySem.W.nsIn K mainGlobals "BadAge" = some (some (.ref x_BadAge)))
    (a_BadPart : PySem.W.nsIn K mainGlobals "BadPart" = some (some (.ref x_BadPart)))
    (a_TooMany : PySem.W.nsIn K mainGlobals "TooMany" = some (some (.ref x_TooMany)))
    (a_DuplicateName : PySem.W.nsIn K mainGlobals "DuplicateName" = some (some (.ref x_DuplicateName)))
    (a_Idle : PySem.W.nsIn K mainGlobals "Idle" = some (some (.ref x_Idle)))
    (a_Overpromised : PySem.W.nsIn K mainGlobals "Overpromised" = some (some (.ref x_Overpromised)))
    (a_Small : PySem.W.nsIn K mainGlobals "Small" = some (some (.ref x_Small)))
    (a_BadText : PySem.W.nsIn K mainGlobals "BadText" = some (some (.ref x_BadText)))
    (a_BadManner : PySem.W.nsIn K mainGlobals "BadManner" = some (some (.ref x_BadManner)))
    (a_BadCapacity : PySem.W.nsIn K mainGlobals "BadCapacity" = some (some (.ref x_BadCapacity)))
    (a_BadSharing : PySem.W.nsIn K mainGlobals "BadSharing" = some (some (.ref x_BadSharing)))
    (a_BadBand : PySem.W.nsIn K mainGlobals "BadBand" = some (some (.ref x_BadBand)))
    (a_NotPlain : PySem.W.nsIn K mainGlobals "NotPlain" = some (some (.ref x_NotPlain)))
    (a_Future : PySem.W.nsIn K mainGlobals "Future" = some (some (.ref x_Future)))
    (a_BadValue : PySem.W.nsIn K mainGlobals "BadValue" = some (some (.ref x_BadValue)))
    (a_BadState : PySem.W.nsIn K mainGlobals "BadState" = some (some (.ref x_BadState)))
    (a_BadCount : PySem.W.nsIn K mainGlobals "BadCount" = some (some (.ref x_BadCount)))
    (a_BadDeed : PySem.W.nsIn K mainGlobals "BadDeed" = some (some (.ref x_BadDeed)))
    (a_UnknownName : PySem.W.nsIn K mainGlobals "UnknownName" = some (some (.ref x_UnknownName)))
    (a_UnknownChannel : PySem.W.nsIn K mainGlobals "UnknownChannel" = some (some (.ref x_UnknownChannel)))
    (a_NoSuchLetter : PySem.W.nsIn K mainGlobals "NoSuchLetter" = some (some (.ref x_NoSuchLetter)))
    (a_NoSuchTick : PySem.W.nsIn K mainGlobals "NoSuchTick" = some (some (.ref x_NoSuchTick)))
    (a_NotStrange : PySem.W.nsIn K mainGlobals "NotStrange" = some (some (.ref x_NotStrange)))
    (a_NotShaky : PySem.W.nsIn K mainGlobals "NotShaky" = some (some (.ref x_NotShaky)))
    (a_Unseen : PySem.W.nsIn K mainGlobals "Unseen" = some (some (.ref x_Unseen)))
    (a_BandError : PySem.W.nsIn K mainGlobals "BandError" = some (some (.ref x_BandError)))
    (a_Missing : PySem.W.nsIn K mainGlobals "Missing" = some (some (.ref x_Missing)))
    (a_Refused : PySem.W.nsIn K mainGlobals "Refused" = some (some (.ref x_Refused)))
    (ihn : PySem.W.specialIn K (.builtin "object.__class__") "__get__" = some (some (.builtin "getset_descriptor.__get__")))
    (iht : PySem.W.takesIn K (.builtin "object.__class__") = some true)
    (lk_Short : ClsLkG K x_Short)
    (xs_Short : PySem.W.findIn K (.ref x_Short) "__setattr__" = some (some (.builtin "object.__setattr__")))
    (xb_Short : PySem.W.subIn K (.ref x_Short) (.type "BaseException") = some true)
    (xt_Short : PySem.W.typeIn K (.ref x_Short) = some (.type "type"))
    (xp_Short : PySem.W.keepIn K (.ref x_Short) = true)
    (xa_Short : PySem.W.findIn K (.ref x_Short) "__getattribute__" = some (some (.builtin "BaseException.__getattribute__")))
    (xe_Short : PySem.W.findIn K (.ref x_Short) "__getattr__" = some none)
    (xd_Short : PySem.W.hasDictIn K x_Short = true)
    (xc_Short : PySem.W.findIn K (.ref x_Short) "__class__" = some (some (.builtin "object.__class__")))
    (xo_Short : PySem.W.mroIn K x_Short (.type "object") = some true)
    (xf_Short : PySem.W.findIn K (.ref x_Short) "amount" = some none)
    (xi_Short : PySem.W.findIn K (.ref x_Short) "__init__" = some (some (.ref x_Short_init)))
    (xy_Short : PySem.W.typeIn K (.ref x_Short_init) = some (.type "function"))
    (lk_UnknownHop : ClsLkG K x_UnknownHop)
    (xs_UnknownHop : PySem.W.findIn K (.ref x_UnknownHop) "__setattr__" = some (some (.builtin "object.__setattr__")))
    (xb_UnknownHop : PySem.W.subIn K (.ref x_UnknownHop) (.type "BaseException") = some true)
    (xt_UnknownHop : PySem.W.typeIn K (.ref x_UnknownHop) = some (.type "type"))
    (xp_UnknownHop : PySem.W.keepIn K (.ref x_UnknownHop) = true)
    (xa_UnknownHop : PySem.W.findIn K (.ref x_UnknownHop) "__getattribute__" = some (some (.builtin "BaseException.__getattribute__")))
    (xe_UnknownHop : PySem.W.findIn K (.ref x_UnknownHop) "__getattr__" = some none)
    (xd_UnknownHop : PySem.W.hasDictIn K x_UnknownHop = true)
    (xc_UnknownHop : PySem.W.findIn K (.ref x_UnknownHop) "__class__" = some (some (.builtin "object.__class__")))
    (xo_UnknownHop : PySem.W.mroIn K x_UnknownHop (.type "object") = some true)
    (xf_UnknownHop : PySem.W.findIn K (.ref x_UnknownHop) "hop" = some none)
    (xi_UnknownHop : PySem.W.findIn K (.ref x_UnknownHop) "__init__" = some (some (.ref x_UnknownHop_init)))
    (xy_UnknownHop : PySem.W.typeIn K (.ref x_UnknownHop_init) = some (.type "function"))
    (lk_Started : ClsLkG K x_Started)
    (xs_Started : PySem.W.findIn K (.ref x_Started) "__setattr__" = some (some (.builtin "object.__setattr__")))
    (xb_Started : PySem.W.subIn K (.ref x_Started) (.type "BaseException") = some true)
    (xt_Started : PySem.W.typeIn K (.ref x_Started) = some (.type "type"))
    (xp_Started : PySem.W.keepIn K (.ref x_Started) = true)
    (xa_Started : PySem.W.findIn K (.ref x_Started) "__getattribute__" = some (some (.builtin "BaseException.__getattribute__")))
    (xe_Started : PySem.W.findIn K (.ref x_Started) "__getattr__" = some none)
    (xd_Started : PySem.W.hasDictIn K x_Started = true)
    (xc_Started : PySem.W.findIn K (.ref x_Started) "__class__" = some (some (.builtin "object.__class__")))
    (xo_Started : PySem.W.mroIn K x_Started (.type "object") = some true)
    (xf_Started : PySem.W.findIn K (.ref x_Started) "tick" = some none)
    (xi_Started : PySem.W.findIn K (.ref x_Started) "__init__" = some (some (.ref x_Started_init)))
    (xy_Started : PySem.W.typeIn K (.ref x_Started_init) = some (.type "function"))
    (lk_BadAmount : ClsLkG K x_BadAmount)
    (yi_BadAmount : PySem.W.findIn K (.ref x_BadAmount) "__init__" = some (some (.ref x_BadAmount_init)))
    (yb_BadAmount : exvB K x_BadAmount x_BadAmount_init ["value"] = true)
    (lk_BadLink : ClsLkG K x_BadLink)
    (yi_BadLink : PySem.W.findIn K (.ref x_BadLink) "__init__" = some (some (.ref x_BadLink_init)))
    (yb_BadLink : exvB K x_BadLink x_BadLink_init ["what"] = true)
    (lk_BadFlow : ClsLkG K x_BadFlow)
    (yi_BadFlow : PySem.W.findIn K (.ref x_BadFlow) "__init__" = some (some (.ref x_BadFlow_init)))
    (yb_BadFlow : exvB K x_BadFlow x_BadFlow_init ["what"] = true)
    (lk_BadAge : ClsLkG K x_BadAge)
    (yi_BadAge : PySem.W.findIn K (.ref x_BadAge) "__init__" = some (some (.ref x_BadAge_init)))
    (yb_BadAge : exvB K x_BadAge x_BadAge_init ["age"] = true)
    (lk_BadPart : ClsLkG K x_BadPart)
    (yi_BadPart : PySem.W.findIn K (.ref x_BadPart) "__init__" = some (some (.ref x_BadPart_init)))
    (yb_BadPart : exvB K x_BadPart x_BadPart_init ["at"] = true)
    (lk_TooMany : ClsLkG K x_TooMany)
    (yi_TooMany : PySem.W.findIn K (.ref x_TooMany) "__init__" = some (some (.ref x_TooMany_init)))
    (yb_TooMany : exvB K x_TooMany x_TooMany_init ["what", "count"] = true)
    (lk_DuplicateName : ClsLkG K x_DuplicateName)
    (yi_DuplicateName : PySem.W.findIn K (.ref x_DuplicateName) "__init__" = some (some (.ref x_DuplicateName_init)))
    (yb_DuplicateName : exvB K x_DuplicateName x_DuplicateName_init ["name"] = true)
    (lk_Idle : ClsLkG K x_Idle)
    (yi_Idle : PySem.W.findIn K (.ref x_Idle) "__init__" = some (some (.ref x_Idle_init)))
    (yb_Idle : exvB K x_Idle x_Idle_init ["link"] = true)
    (lk_Overpromised : ClsLkG K x_Overpromised)
    (yi_Overpromised : PySem.W.findIn K (.ref x_Overpromised) "__init__" = some (some (.ref x_Overpromised_init)))
    (yb_Overpromised : exvB K x_Overpromised x_Overpromised_init ["link", "over"] = true)
    (lk_Small : ClsLkG K x_Small)
    (yi_Small : PySem.W.findIn K (.ref x_Small) "__init__" = some (some (.ref x_Small_init)))
    (yb_Small : exvB K x_Small x_Small_init ["flow", "link"] = true)
    (lk_BadText : ClsLkG K x_BadText)
    (yi_BadText : PySem.W.findIn K (.ref x_BadText) "__init__" = some (some (.ref x_BadText_init)))
    (yb_BadText : exvB K x_BadText x_BadText_init ["line", "word"] = true)
    (lk_BadManner : ClsLkG K x_BadManner)
    (yi_BadManner : PySem.W.findIn K (.ref x_BadManner) "__init__" = some (some (.ref x_BadManner_init)))
    (yb_BadManner : exvB K x_BadManner x_BadManner_init ["flow"] = true)
    (lk_BadCapacity : ClsLkG K x_BadCapacity)
    (yi_BadCapacity : PySem.W.findIn K (.ref x_BadCapacity) "__init__" = some (some (.ref x_BadCapacity_init)))
    (yb_BadCapacity : exvB K x_BadCapacity x_BadCapacity_init ["link"] = true)
    (lk_BadSharing : ClsLkG K x_BadSharing)
    (yi_BadSharing : PySem.W.findIn K (.ref x_BadSharing) "__init__" = some (some (.ref x_BadSharing_init)))
    (yb_BadSharing : exvB K x_BadSharing x_BadSharing_init ["name"] = true)
    (lk_BadBand : ClsLkG K x_BadBand)
    (yi_BadBand : PySem.W.findIn K (.ref x_BadBand) "__init__" = some (some (.ref x_BadBand_init)))
    (yb_BadBand : exvB K x_BadBand x_BadBand_init ["link"] = true)
    (ye_NotPlain : PySem.W.excIn K x_NotPlain [.type "ValueError", .type "Exception", .type "BaseException", .type "object"] "ValueError.__new__" = true)
    (yq_NotPlain : PySem.W.keepIn K (.ref x_NotPlain) = true)
    (yo_NotPlain : excB K x_NotPlain = true)
    (lk_Future : ClsLkG K x_Future)
    (yi_Future : PySem.W.findIn K (.ref x_Future) "__init__" = some (some (.ref x_Future_init)))
    (yb_Future : exvB K x_Future x_Future_init ["tick"] = true)
    (yb_Short : exvB K x_Short x_Short_init ["amount"] = true)
    (lk_BadValue : ClsLkG K x_BadValue)
    (yi_BadValue : PySem.W.findIn K (.ref x_BadValue) "__init__" = some (some (.ref x_BadValue_init)))
    (yb_BadValue : exvB K x_BadValue x_BadValue_init ["channel"] = true)
    (lk_BadState : ClsLkG K x_BadState)
    (yi_BadState : PySem.W.findIn K (.ref x_BadState) "__init__" = some (some (.ref x_BadState_init)))
    (yb_BadState : exvB K x_BadState x_BadState_init ["what", "at"] = true)
    (lk_BadCount : ClsLkG K x_BadCount)
    (yi_BadCount : PySem.W.findIn K (.ref x_BadCount) "__init__" = some (some (.ref x_BadCount_init)))
    (yb_BadCount : exvB K x_BadCount x_BadCount_init ["value"] = true)
    (lk_BadDeed : ClsLkG K x_BadDeed)
    (yi_BadDeed : PySem.W.findIn K (.ref x_BadDeed) "__init__" = some (some (.ref x_BadDeed_init)))
    (yb_BadDeed : exvB K x_BadDeed x_BadDeed_init ["at"] = true)
    (lk_UnknownName : ClsLkG K x_UnknownName)
    (yi_UnknownName : PySem.W.findIn K (.ref x_UnknownName) "__init__" = some (some (.ref x_UnknownName_init)))
    (yb_UnknownName : exvB K x_UnknownName x_UnknownName_init ["name"] = true)
    (lk_UnknownChannel : ClsLkG K x_UnknownChannel)
    (yi_UnknownChannel : PySem.W.findIn K (.ref x_UnknownChannel) "__init__" = some (some (.ref x_UnknownChannel_init)))
    (yb_UnknownChannel : exvB K x_UnknownChannel x_UnknownChannel_init ["channel"] = true)
    (yb_UnknownHop : exvB K x_UnknownHop x_UnknownHop_init ["hop"] = true)
    (lk_NoSuchLetter : ClsLkG K x_NoSuchLetter)
    (yi_NoSuchLetter : PySem.W.findIn K (.ref x_NoSuchLetter) "__init__" = some (some (.ref x_NoSuchLetter_init)))
    (yb_NoSuchLetter : exvB K x_NoSuchLetter x_NoSuchLetter_init ["number"] = true)
    (lk_NoSuchTick : ClsLkG K x_NoSuchTick)
    (yi_NoSuchTick : PySem.W.findIn K (.ref x_NoSuchTick) "__init__" = some (some (.ref x_NoSuchTick_init)))
    (yb_NoSuchTick : exvB K x_NoSuchTick x_NoSuchTick_init ["tick"] = true)
    (yb_Started : exvB K x_Started x_Started_init ["tick"] = true)
    (lk_NotStrange : ClsLkG K x_NotStrange)
    (yi_NotStrange : PySem.W.findIn K (.ref x_NotStrange) "__init__" = some (some (.ref x_NotStrange_init)))
    (yb_NotStrange : exvB K x_NotStrange x_NotStrange_init ["name"] = true)
    (lk_NotShaky : ClsLkG K x_NotShaky)
    (yi_NotShaky : PySem.W.findIn K (.ref x_NotShaky) "__init__" = some (some (.ref x_NotShaky_init)))
    (yb_NotShaky : exvB K x_NotShaky x_NotShaky_init ["link"] = true)
    (lk_Unseen : ClsLkG K x_Unseen)
    (yi_Unseen : PySem.W.findIn K (.ref x_Unseen) "__init__" = some (some (.ref x_Unseen_init)))
    (yb_Unseen : exvB K x_Unseen x_Unseen_init ["flow"] = true)
    (yt_UnknownName : ktabB K [x_BadAmount, x_BadLink, x_BadFlow, x_BadAge, x_BadPart, x_TooMany, x_DuplicateName, x_Idle, x_Overpromised, x_Small, x_BadText, x_BadManner, x_BadCapacity, x_BadSharing, x_BadBand, x_NotPlain, x_Future, x_Short, x_BadValue, x_BadState, x_BadCount, x_BadDeed, x_UnknownName, x_UnknownChannel, x_UnknownHop, x_NoSuchLetter, x_NoSuchTick, x_Started, x_NotStrange, x_NotShaky, x_Unseen] (.ref x_UnknownName) [false, false, false, false, false, false, false, false, false, false, false, false, false, false, false, false, false, false, false, false, false, false, true, false, false, false, false, false, false, false, false] = true)
    (yt_UnknownChannel : ktabB K [x_BadAmount, x_BadLink, x_BadFlow, x_BadAge, x_BadPart, x_TooMany, x_DuplicateName, x_Idle, x_Overpromised, x_Small, x_BadText, x_BadManner, x_BadCapacity, x_BadSharing, x_BadBand, x_NotPlain, x_Future, x_Short, x_BadValue, x_BadState, x_BadCount, x_BadDeed, x_UnknownName, x_UnknownChannel, x_UnknownHop, x_NoSuchLetter, x_NoSuchTick, x_Started, x_NotStrange, x_NotShaky, x_Unseen] (.ref x_UnknownChannel) [false, false, false, false, false, false, false, false, false, false, false, false, false, false, false, false, false, false, false, false, false, false, false, true, false, false, false, false, false, false, false] = true)
    (yt_UnknownHop : ktabB K [x_BadAmount, x_BadLink, x_BadFlow, x_BadAge, x_BadPart, x_TooMany, x_DuplicateName, x_Idle, x_Overpromised, x_Small, x_BadText, x_BadManner, x_BadCapacity, x_BadSharing, x_BadBand, x_NotPlain, x_Future, x_Short, x_BadValue, x_BadState, x_BadCount, x_BadDeed, x_UnknownName, x_UnknownChannel, x_UnknownHop, x_NoSuchLetter, x_NoSuchTick, x_Started, x_NotStrange, x_NotShaky, x_Unseen] (.ref x_UnknownHop) [false, false, false, false, false, false, false, false, false, false, false, false, false, false, false, false, false, false, false, false, false, false, false, false, true, false, false, false, false, false, false] = true)
    (yt_NoSuchLetter : ktabB K [x_BadAmount, x_BadLink, x_BadFlow, x_BadAge, x_BadPart, x_TooMany, x_DuplicateName, x_Idle, x_Overpromised, x_Small, x_BadText, x_BadManner, x_BadCapacity, x_BadSharing, x_BadBand, x_NotPlain, x_Future, x_Short, x_BadValue, x_BadState, x_BadCount, x_BadDeed, x_UnknownName, x_UnknownChannel, x_UnknownHop, x_NoSuchLetter, x_NoSuchTick, x_Started, x_NotStrange, x_NotShaky, x_Unseen] (.ref x_NoSuchLetter) [false, false, false, false, false, false, false, false, false, false, false, false, false, false, false, false, false, false, false, false, false, false, false, false, false, true, false, false, false, false, false] = true)
    (yt_NoSuchTick : ktabB K [x_BadAmount, x_BadLink, x_BadFlow, x_BadAge, x_BadPart, x_TooMany, x_DuplicateName, x_Idle, x_Overpromised, x_Small, x_BadText, x_BadManner, x_BadCapacity, x_BadSharing, x_BadBand, x_NotPlain, x_Future, x_Short, x_BadValue, x_BadState, x_BadCount, x_BadDeed, x_UnknownName, x_UnknownChannel, x_UnknownHop, x_NoSuchLetter, x_NoSuchTick, x_Started, x_NotStrange, x_NotShaky, x_Unseen] (.ref x_NoSuchTick) [false, false, false, false, false, false, false, false, false, false, false, false, false, false, false, false, false, false, false, false, false, false, false, false, false, false, true, false, false, false, false] = true)
    (yt_Started : ktabB K [x_BadAmount, x_BadLink, x_BadFlow, x_BadAge, x_BadPart, x_TooMany, x_DuplicateName, x_Idle, x_Overpromised, x_Small, x_BadText, x_BadManner, x_BadCapacity, x_BadSharing, x_BadBand, x_NotPlain, x_Future, x_Short, x_BadValue, x_BadState, x_BadCount, x_BadDeed, x_UnknownName, x_UnknownChannel, x_UnknownHop, x_NoSuchLetter, x_NoSuchTick, x_Started, x_NotStrange, x_NotShaky, x_Unseen] (.ref x_Started) [false, false, false, false, false, false, false, false, false, false, false, false, false, false, false, false, false, false, false, false, false, false, false, false, false, false, false, true, false, false, false] = true)
    (yt_NotStrange : ktabB K [x_BadAmount, x_BadLink, x_BadFlow, x_BadAge, x_BadPart, x_TooMany, x_DuplicateName, x_Idle, x_Overpromised, x_Small, x_BadText, x_BadManner, x_BadCapacity, x_BadSharing, x_BadBand, x_NotPlain, x_Future, x_Short, x_BadValue, x_BadState, x_BadCount, x_BadDeed, x_UnknownName, x_UnknownChannel, x_UnknownHop, x_NoSuchLetter, x_NoSuchTick, x_Started, x_NotStrange, x_NotShaky, x_Unseen] (.ref x_NotStrange) [false, false, false, false, false, false, false, false, false, false, false, false, false, false, false, false, false, false, false, false, false, false, false, false, false, false, false, false, true, false, false] = true)
    (yt_NotShaky : ktabB K [x_BadAmount, x_BadLink, x_BadFlow, x_BadAge, x_BadPart, x_TooMany, x_DuplicateName, x_Idle, x_Overpromised, x_Small, x_BadText, x_BadManner, x_BadCapacity, x_BadSharing, x_BadBand, x_NotPlain, x_Future, x_Short, x_BadValue, x_BadState, x_BadCount, x_BadDeed, x_UnknownName, x_UnknownChannel, x_UnknownHop, x_NoSuchLetter, x_NoSuchTick, x_Started, x_NotStrange, x_NotShaky, x_Unseen] (.ref x_NotShaky) [false, false, false, false, false, false, false, false, false, false, false, false, false, false, false, false, false, false, false, false, false, false, false, false, false, false, false, false, false, true, false] = true)
    (yt_Unseen : ktabB K [x_BadAmount, x_BadLink, x_BadFlow, x_BadAge, x_BadPart, x_TooMany, x_DuplicateName, x_Idle, x_Overpromised, x_Small, x_BadText, x_BadManner, x_BadCapacity, x_BadSharing, x_BadBand, x_NotPlain, x_Future, x_Short, x_BadValue, x_BadState, x_BadCount, x_BadDeed, x_UnknownName, x_UnknownChannel, x_UnknownHop, x_NoSuchLetter, x_NoSuchTick, x_Started, x_NotStrange, x_NotShaky, x_Unseen] (.ref x_Unseen) [false, false, false, false, false, false, false, false, false, false, false, false, false, false, false, false, false, false, false, false, false, false, false, false, false, false, false, false, false, false, true] = true)
    (yt_BadManner : ktabB K [x_BadAmount, x_BadLink, x_BadFlow, x_BadAge, x_BadPart, x_TooMany, x_DuplicateName, x_Idle, x_Overpromised, x_Small, x_BadText, x_BadManner, x_BadCapacity, x_BadSharing, x_BadBand, x_NotPlain, x_Future, x_Short, x_BadValue, x_BadState, x_BadCount, x_BadDeed, x_UnknownName, x_UnknownChannel, x_UnknownHop, x_NoSuchLetter, x_NoSuchTick, x_Started, x_NotStrange, x_NotShaky, x_Unseen] (.ref x_BadManner) [false, false, false, false, false, false, false, false, false, false, false, true, false, false, false, false, false, false, false, false, false, false, false, false, false, false, false, false, false, false, false] = true)
    (yt_BadCapacity : ktabB K [x_BadAmount, x_BadLink, x_BadFlow, x_BadAge, x_BadPart, x_TooMany, x_DuplicateName, x_Idle, x_Overpromised, x_Small, x_BadText, x_BadManner, x_BadCapacity, x_BadSharing, x_BadBand, x_NotPlain, x_Future, x_Short, x_BadValue, x_BadState, x_BadCount, x_BadDeed, x_UnknownName, x_UnknownChannel, x_UnknownHop, x_NoSuchLetter, x_NoSuchTick, x_Started, x_NotStrange, x_NotShaky, x_Unseen] (.ref x_BadCapacity) [false, false, false, false, false, false, false, false, false, false, false, false, true, false, false, false, false, false, false, false, false, false, false, false, false, false, false, false, false, false, false] = true)
    (yt_BadSharing : ktabB K [x_BadAmount, x_BadLink, x_BadFlow, x_BadAge, x_BadPart, x_TooMany, x_DuplicateName, x_Idle, x_Overpromised, x_Small, x_BadText, x_BadManner, x_BadCapacity, x_BadSharing, x_BadBand, x_NotPlain, x_Future, x_Short, x_BadValue, x_BadState, x_BadCount, x_BadDeed, x_UnknownName, x_UnknownChannel, x_UnknownHop, x_NoSuchLetter, x_NoSuchTick, x_Started, x_NotStrange, x_NotShaky, x_Unseen] (.ref x_BadSharing) [false, false, false, false, false, false, false, false, false, false, false, false, false, true, false, false, false, false, false, false, false, false, false, false, false, false, false, false, false, false, false] = true)
    (yt_BadBand : ktabB K [x_BadAmount, x_BadLink, x_BadFlow, x_BadAge, x_BadPart, x_TooMany, x_DuplicateName, x_Idle, x_Overpromised, x_Small, x_BadText, x_BadManner, x_BadCapacity, x_BadSharing, x_BadBand, x_NotPlain, x_Future, x_Short, x_BadValue, x_BadState, x_BadCount, x_BadDeed, x_UnknownName, x_UnknownChannel, x_UnknownHop, x_NoSuchLetter, x_NoSuchTick, x_Started, x_NotStrange, x_NotShaky, x_Unseen] (.ref x_BadBand) [false, false, false, false, false, false, false, false, false, false, false, false, false, false, true, false, false, false, false, false, false, false, false, false, false, false, false, false, false, false, false] = true)
    (yt_NotPlain : ktabB K [x_BadAmount, x_BadLink, x_BadFlow, x_BadAge, x_BadPart, x_TooMany, x_DuplicateName, x_Idle, x_Overpromised, x_Small, x_BadText, x_BadManner, x_BadCapacity, x_BadSharing, x_BadBand, x_NotPlain, x_Future, x_Short, x_BadValue, x_BadState, x_BadCount, x_BadDeed, x_UnknownName, x_UnknownChannel, x_UnknownHop, x_NoSuchLetter, x_NoSuchTick, x_Started, x_NotStrange, x_NotShaky, x_Unseen] (.ref x_NotPlain) [false, false, false, false, false, false, false, false, false, false, false, false, false, false, false, true, false, false, false, false, false, false, false, false, false, false, false, false, false, false, false] = true)
    (yt_Future : ktabB K [x_BadAmount, x_BadLink, x_BadFlow, x_BadAge, x_BadPart, x_TooMany, x_DuplicateName, x_Idle, x_Overpromised, x_Small, x_BadText, x_BadManner, x_BadCapacity, x_BadSharing, x_BadBand, x_NotPlain, x_Future, x_Short, x_BadValue, x_BadState, x_BadCount, x_BadDeed, x_UnknownName, x_UnknownChannel, x_UnknownHop, x_NoSuchLetter, x_NoSuchTick, x_Started, x_NotStrange, x_NotShaky, x_Unseen] (.ref x_Future) [false, false, false, false, false, false, false, false, false, false, false, false, false, false, false, false, true, false, false, false, false, false, false, false, false, false, false, false, false, false, false] = true)
    (yt_Short : ktabB K [x_BadAmount, x_BadLink, x_BadFlow, x_BadAge, x_BadPart, x_TooMany, x_DuplicateName, x_Idle, x_Overpromised, x_Small, x_BadText, x_BadManner, x_BadCapacity, x_BadSharing, x_BadBand, x_NotPlain, x_Future, x_Short, x_BadValue, x_BadState, x_BadCount, x_BadDeed, x_UnknownName, x_UnknownChannel, x_UnknownHop, x_NoSuchLetter, x_NoSuchTick, x_Started, x_NotStrange, x_NotShaky, x_Unseen] (.ref x_Short) [false, false, false, false, false, false, false, false, false, false, false, false, false, false, false, false, false, true, false, false, false, false, false, false, false, false, false, false, false, false, false] = true)
    (yt_BadValue : ktabB K [x_BadAmount, x_BadLink, x_BadFlow, x_BadAge, x_BadPart, x_TooMany, x_DuplicateName, x_Idle, x_Overpromised, x_Small, x_BadText, x_BadManner, x_BadCapacity, x_BadSharing, x_BadBand, x_NotPlain, x_Future, x_Short, x_BadValue, x_BadState, x_BadCount, x_BadDeed, x_UnknownName, x_UnknownChannel, x_UnknownHop, x_NoSuchLetter, x_NoSuchTick, x_Started, x_NotStrange, x_NotShaky, x_Unseen] (.ref x_BadValue) [false, false, false, false, false, false, false, false, false, false, false, false, false, false, false, false, false, false, true, false, false, false, false, false, false, false, false, false, false, false, false] = true)
    (yt_BadState : ktabB K [x_BadAmount, x_BadLink, x_BadFlow, x_BadAge, x_BadPart, x_TooMany, x_DuplicateName, x_Idle, x_Overpromised, x_Small, x_BadText, x_BadManner, x_BadCapacity, x_BadSharing, x_BadBand, x_NotPlain, x_Future, x_Short, x_BadValue, x_BadState, x_BadCount, x_BadDeed, x_UnknownName, x_UnknownChannel, x_UnknownHop, x_NoSuchLetter, x_NoSuchTick, x_Started, x_NotStrange, x_NotShaky, x_Unseen] (.ref x_BadState) [false, false, false, false, false, false, false, false, false, false, false, false, false, false, false, false, false, false, false, true, false, false, false, false, false, false, false, false, false, false, false] = true)
    (yt_BadCount : ktabB K [x_BadAmount, x_BadLink, x_BadFlow, x_BadAge, x_BadPart, x_TooMany, x_DuplicateName, x_Idle, x_Overpromised, x_Small, x_BadText, x_BadManner, x_BadCapacity, x_BadSharing, x_BadBand, x_NotPlain, x_Future, x_Short, x_BadValue, x_BadState, x_BadCount, x_BadDeed, x_UnknownName, x_UnknownChannel, x_UnknownHop, x_NoSuchLetter, x_NoSuchTick, x_Started, x_NotStrange, x_NotShaky, x_Unseen] (.ref x_BadCount) [false, false, false, false, false, false, false, false, false, false, false, false, false, false, false, false, false, false, false, false, true, false, false, false, false, false, false, false, false, false, false] = true)
    (yt_BadDeed : ktabB K [x_BadAmount, x_BadLink, x_BadFlow, x_BadAge, x_BadPart, x_TooMany, x_DuplicateName, x_Idle, x_Overpromised, x_Small, x_BadText, x_BadManner, x_BadCapacity, x_BadSharing, x_BadBand, x_NotPlain, x_Future, x_Short, x_BadValue, x_BadState, x_BadCount, x_BadDeed, x_UnknownName, x_UnknownChannel, x_UnknownHop, x_NoSuchLetter, x_NoSuchTick, x_Started, x_NotStrange, x_NotShaky, x_Unseen] (.ref x_BadDeed) [false, false, false, false, false, false, false, false, false, false, false, false, false, false, false, false, false, false, false, false, false, true, false, false, false, false, false, false, false, false, false] = true)
    (yt_BadAmount : ktabB K [x_BadAmount, x_BadLink, x_BadFlow, x_BadAge, x_BadPart, x_TooMany, x_DuplicateName, x_Idle, x_Overpromised, x_Small, x_BadText, x_BadManner, x_BadCapacity, x_BadSharing, x_BadBand, x_NotPlain, x_Future, x_Short, x_BadValue, x_BadState, x_BadCount, x_BadDeed, x_UnknownName, x_UnknownChannel, x_UnknownHop, x_NoSuchLetter, x_NoSuchTick, x_Started, x_NotStrange, x_NotShaky, x_Unseen] (.ref x_BadAmount) [true, false, false, false, false, false, false, false, false, false, false, false, false, false, false, false, false, false, false, false, false, false, false, false, false, false, false, false, false, false, false] = true)
    (yt_BadLink : ktabB K [x_BadAmount, x_BadLink, x_BadFlow, x_BadAge, x_BadPart, x_TooMany, x_DuplicateName, x_Idle, x_Overpromised, x_Small, x_BadText, x_BadManner, x_BadCapacity, x_BadSharing, x_BadBand, x_NotPlain, x_Future, x_Short, x_BadValue, x_BadState, x_BadCount, x_BadDeed, x_UnknownName, x_UnknownChannel, x_UnknownHop, x_NoSuchLetter, x_NoSuchTick, x_Started, x_NotStrange, x_NotShaky, x_Unseen] (.ref x_BadLink) [false, true, false, false, false, false, false, false, false, false, false, false, false, false, false, false, false, false, false, false, false, false, false, false, false, false, false, false, false, false, false] = true)
    (yt_BadFlow : ktabB K [x_BadAmount, x_BadLink, x_BadFlow, x_BadAge, x_BadPart, x_TooMany, x_DuplicateName, x_Idle, x_Overpromised, x_Small, x_BadText, x_BadManner, x_BadCapacity, x_BadSharing, x_BadBand, x_NotPlain, x_Future, x_Short, x_BadValue, x_BadState, x_BadCount, x_BadDeed, x_UnknownName, x_UnknownChannel, x_UnknownHop, x_NoSuchLetter, x_NoSuchTick, x_Started, x_NotStrange, x_NotShaky, x_Unseen] (.ref x_BadFlow) [false, false, true, false, false, false, false, false, false, false, false, false, false, false, false, false, false, false, false, false, false, false, false, false, false, false, false, false, false, false, false] = true)
    (yt_BadAge : ktabB K [x_BadAmount, x_BadLink, x_BadFlow, x_BadAge, x_BadPart, x_TooMany, x_DuplicateName, x_Idle, x_Overpromised, x_Small, x_BadText, x_BadManner, x_BadCapacity, x_BadSharing, x_BadBand, x_NotPlain, x_Future, x_Short, x_BadValue, x_BadState, x_BadCount, x_BadDeed, x_UnknownName, x_UnknownChannel, x_UnknownHop, x_NoSuchLetter, x_NoSuchTick, x_Started, x_NotStrange, x_NotShaky, x_Unseen] (.ref x_BadAge) [false, false, false, true, false, false, false, false, false, false, false, false, false, false, false, false, false, false, false, false, false, false, false, false, false, false, false, false, false, false, false] = true)
    (yt_BadPart : ktabB K [x_BadAmount, x_BadLink, x_BadFlow, x_BadAge, x_BadPart, x_TooMany, x_DuplicateName, x_Idle, x_Overpromised, x_Small, x_BadText, x_BadManner, x_BadCapacity, x_BadSharing, x_BadBand, x_NotPlain, x_Future, x_Short, x_BadValue, x_BadState, x_BadCount, x_BadDeed, x_UnknownName, x_UnknownChannel, x_UnknownHop, x_NoSuchLetter, x_NoSuchTick, x_Started, x_NotStrange, x_NotShaky, x_Unseen] (.ref x_BadPart) [false, false, false, false, true, false, false, false, false, false, false, false, false, false, false, false, false, false, false, false, false, false, false, false, false, false, false, false, false, false, false] = true)
    (yt_TooMany : ktabB K [x_BadAmount, x_BadLink, x_BadFlow, x_BadAge, x_BadPart, x_TooMany, x_DuplicateName, x_Idle, x_Overpromised, x_Small, x_BadText, x_BadManner, x_BadCapacity, x_BadSharing, x_BadBand, x_NotPlain, x_Future, x_Short, x_BadValue, x_BadState, x_BadCount, x_BadDeed, x_UnknownName, x_UnknownChannel, x_UnknownHop, x_NoSuchLetter, x_NoSuchTick, x_Started, x_NotStrange, x_NotShaky, x_Unseen] (.ref x_TooMany) [false, false, false, false, false, true, false, false, false, false, false, false, false, false, false, false, false, false, false, false, false, false, false, false, false, false, false, false, false, false, false] = true)
    (yt_DuplicateName : ktabB K [x_BadAmount, x_BadLink, x_BadFlow, x_BadAge, x_BadPart, x_TooMany, x_DuplicateName, x_Idle, x_Overpromised, x_Small, x_BadText, x_BadManner, x_BadCapacity, x_BadSharing, x_BadBand, x_NotPlain, x_Future, x_Short, x_BadValue, x_BadState, x_BadCount, x_BadDeed, x_UnknownName, x_UnknownChannel, x_UnknownHop, x_NoSuchLetter, x_NoSuchTick, x_Started, x_NotStrange, x_NotShaky, x_Unseen] (.ref x_DuplicateName) [false, false, false, false, false, false, true, false, false, false, false, false, false, false, false, false, false, false, false, false, false, false, false, false, false, false, false, false, false, false, false] = true)
    (yt_Idle : ktabB K [x_BadAmount, x_BadLink, x_BadFlow, x_BadAge, x_BadPart, x_TooMany, x_DuplicateName, x_Idle, x_Overpromised, x_Small, x_BadText, x_BadManner, x_BadCapacity, x_BadSharing, x_BadBand, x_NotPlain, x_Future, x_Short, x_BadValue, x_BadState, x_BadCount, x_BadDeed, x_UnknownName, x_UnknownChannel, x_UnknownHop, x_NoSuchLetter, x_NoSuchTick, x_Started, x_NotStrange, x_NotShaky, x_Unseen] (.ref x_Idle) [false, false, false, false, false, false, false, true, false, false, false, false, false, false, false, false, false, false, false, false, false, false, false, false, false, false, false, false, false, false, false] = true)
    (yt_Overpromised : ktabB K [x_BadAmount, x_BadLink, x_BadFlow, x_BadAge, x_BadPart, x_TooMany, x_DuplicateName, x_Idle, x_Overpromised, x_Small, x_BadText, x_BadManner, x_BadCapacity, x_BadSharing, x_BadBand, x_NotPlain, x_Future, x_Short, x_BadValue, x_BadState, x_BadCount, x_BadDeed, x_UnknownName, x_UnknownChannel, x_UnknownHop, x_NoSuchLetter, x_NoSuchTick, x_Started, x_NotStrange, x_NotShaky, x_Unseen] (.ref x_Overpromised) [false, false, false, false, false, false, false, false, true, false, false, false, false, false, false, false, false, false, false, false, false, false, false, false, false, false, false, false, false, false, false] = true)
    (yt_Small : ktabB K [x_BadAmount, x_BadLink, x_BadFlow, x_BadAge, x_BadPart, x_TooMany, x_DuplicateName, x_Idle, x_Overpromised, x_Small, x_BadText, x_BadManner, x_BadCapacity, x_BadSharing, x_BadBand, x_NotPlain, x_Future, x_Short, x_BadValue, x_BadState, x_BadCount, x_BadDeed, x_UnknownName, x_UnknownChannel, x_UnknownHop, x_NoSuchLetter, x_NoSuchTick, x_Started, x_NotStrange, x_NotShaky, x_Unseen] (.ref x_Small) [false, false, false, false, false, false, false, false, false, true, false, false, false, false, false, false, false, false, false, false, false, false, false, false, false, false, false, false, false, false, false] = true)
    (yt_BadText : ktabB K [x_BadAmount, x_BadLink, x_BadFlow, x_BadAge, x_BadPart, x_TooMany, x_DuplicateName, x_Idle, x_Overpromised, x_Small, x_BadText, x_BadManner, x_BadCapacity, x_BadSharing, x_BadBand, x_NotPlain, x_Future, x_Short, x_BadValue, x_BadState, x_BadCount, x_BadDeed, x_UnknownName, x_UnknownChannel, x_UnknownHop, x_NoSuchLetter, x_NoSuchTick, x_Started, x_NotStrange, x_NotShaky, x_Unseen] (.ref x_BadText) [false, false, false, false, false, false, false, false, false, false, true, false, false, false, false, false, false, false, false, false, false, false, false, false, false, false, false, false, false, false, false] = true)
    (yt_BandError : ktabB K [x_BadAmount, x_BadLink, x_BadFlow, x_BadAge, x_BadPart, x_TooMany, x_DuplicateName, x_Idle, x_Overpromised, x_Small, x_BadText, x_BadManner, x_BadCapacity, x_BadSharing, x_BadBand, x_NotPlain, x_Future, x_Short, x_BadValue, x_BadState, x_BadCount, x_BadDeed, x_UnknownName, x_UnknownChannel, x_UnknownHop, x_NoSuchLetter, x_NoSuchTick, x_Started, x_NotStrange, x_NotShaky, x_Unseen] (.ref x_BandError) [true, true, true, true, true, true, true, true, true, true, true, true, true, true, true, true, true, true, true, true, true, true, false, false, false, false, false, false, false, false, false] = true)
    (yt_Missing : ktabB K [x_BadAmount, x_BadLink, x_BadFlow, x_BadAge, x_BadPart, x_TooMany, x_DuplicateName, x_Idle, x_Overpromised, x_Small, x_BadText, x_BadManner, x_BadCapacity, x_BadSharing, x_BadBand, x_NotPlain, x_Future, x_Short, x_BadValue, x_BadState, x_BadCount, x_BadDeed, x_UnknownName, x_UnknownChannel, x_UnknownHop, x_NoSuchLetter, x_NoSuchTick, x_Started, x_NotStrange, x_NotShaky, x_Unseen] (.ref x_Missing) [false, false, false, false, false, false, false, false, false, false, false, false, false, false, false, false, false, false, false, false, false, false, true, true, true, true, true, false, false, false, false] = true)
    (yt_Refused : ktabB K [x_BadAmount, x_BadLink, x_BadFlow, x_BadAge, x_BadPart, x_TooMany, x_DuplicateName, x_Idle, x_Overpromised, x_Small, x_BadText, x_BadManner, x_BadCapacity, x_BadSharing, x_BadBand, x_NotPlain, x_Future, x_Short, x_BadValue, x_BadState, x_BadCount, x_BadDeed, x_UnknownName, x_UnknownChannel, x_UnknownHop, x_NoSuchLetter, x_NoSuchTick, x_Started, x_NotStrange, x_NotShaky, x_Unseen] (.ref x_Refused) [false, false, false, false, false, false, false, false, false, false, false, false, false, false, false, false, false, false, false, false, false, false, false, false, false, false, false, true, true, true, true] = true)
    (yt_ValueError : ktabB K [x_BadAmount, x_BadLink, x_BadFlow, x_BadAge, x_BadPart, x_TooMany, x_DuplicateName, x_Idle, x_Overpromised, x_Small, x_BadText, x_BadManner, x_BadCapacity, x_BadSharing, x_BadBand, x_NotPlain, x_Future, x_Short, x_BadValue, x_BadState, x_BadCount, x_BadDeed, x_UnknownName, x_UnknownChannel, x_UnknownHop, x_NoSuchLetter, x_NoSuchTick, x_Started, x_NotStrange, x_NotShaky, x_Unseen] (.type "ValueError") [true, true, true, true, true, true, true, true, true, true, true, true, true, true, true, true, true, true, true, true, true, true, false, false, false, false, false, false, false, false, false] = true)
    (yt_LookupError : ktabB K [x_BadAmount, x_BadLink, x_BadFlow, x_BadAge, x_BadPart, x_TooMany, x_DuplicateName, x_Idle, x_Overpromised, x_Small, x_BadText, x_BadManner, x_BadCapacity, x_BadSharing, x_BadBand, x_NotPlain, x_Future, x_Short, x_BadValue, x_BadState, x_BadCount, x_BadDeed, x_UnknownName, x_UnknownChannel, x_UnknownHop, x_NoSuchLetter, x_NoSuchTick, x_Started, x_NotStrange, x_NotShaky, x_Unseen] (.type "LookupError") [false, false, false, false, false, false, false, false, false, false, false, false, false, false, false, false, false, false, false, false, false, false, true, true, true, true, true, false, false, false, false] = true)
    (yt_RuntimeError : ktabB K [x_BadAmount, x_BadLink, x_BadFlow, x_BadAge, x_BadPart, x_TooMany, x_DuplicateName, x_Idle, x_Overpromised, x_Small, x_BadText, x_BadManner, x_BadCapacity, x_BadSharing, x_BadBand, x_NotPlain, x_Future, x_Short, x_BadValue, x_BadState, x_BadCount, x_BadDeed, x_UnknownName, x_UnknownChannel, x_UnknownHop, x_NoSuchLetter, x_NoSuchTick, x_Started, x_NotStrange, x_NotShaky, x_Unseen] (.type "RuntimeError") [false, false, false, false, false, false, false, false, false, false, false, false, false, false, false, false, false, false, false, false, false, false, false, false, false, false, false, true, true, true, true] = true)
    (yx_law_taken : takB K [(x_Short, 0), (x_UnknownHop, 1), (x_Started, 2)] [x_BandError, x_Missing, x_Refused] = true)
    (l_Started_init : K.lookup x_Started_init = some ⟨oc_Started_init, od_Started_init, .func (PySem.W.fnOf "__init__" "Started.__init__" (defArgs s_Started_init) (defBody s_Started_init) (defScope s_Started_init) .none kV_Started_init dc_Started_init pm_Started_init an_Started_init cd_Started_init ct_Started_init), sl_Started_init⟩)
    (co_Started_init : PySem.W.codeIn K cd_Started_init "Started.__init__" = true)
    (kp_Started_init : PySem.W.keepIn K (.ref x_Started_init) = true)
    (l_UnknownHop_init : K.lookup x_UnknownHop_init = some ⟨oc_UnknownHop_init, od_UnknownHop_init, .func (PySem.W.fnOf "__init__" "UnknownHop.__init__" (defArgs s_UnknownHop_init) (defBody s_UnknownHop_init) (defScope s_UnknownHop_init) .none kV_UnknownHop_init dc_UnknownHop_init pm_UnknownHop_init an_UnknownHop_init cd_UnknownHop_init ct_UnknownHop_init), sl_UnknownHop_init⟩)
    (co_UnknownHop_init : PySem.W.codeIn K cd_UnknownHop_init "UnknownHop.__init__" = true)
    (kp_UnknownHop_init : PySem.W.keepIn K (.ref x_UnknownHop_init) = true)
    (l_Short_init : K.lookup x_Short_init = some ⟨oc_Short_init, od_Short_init, .func (PySem.W.fnOf "__init__" "Short.__init__" (defArgs s_Short_init) (defBody s_Short_init) (defScope s_Short_init) .none kV_Short_init dc_Short_init pm_Short_init an_Short_init cd_Short_init ct_Short_init), sl_Short_init⟩)
    (co_Short_init : PySem.W.codeIn K cd_Short_init "Short.__init__" = true)
    (kp_Short_init : PySem.W.keepIn K (.ref x_Short_init) = true)
    (l_BadAmount_init : K.lookup x_BadAmount_init = some ⟨oc_BadAmount_init, od_BadAmount_init, .func (PySem.W.fnOf "__init__" "BadAmount.__init__" (defArgs s_BadAmount_init) (defBody s_BadAmount_init) (defScope s_BadAmount_init) .none kV_BadAmount_init dc_BadAmount_init pm_BadAmount_init an_BadAmount_init cd_BadAmount_init ct_BadAmount_init), sl_BadAmount_init⟩)
    (co_BadAmount_init : PySem.W.codeIn K cd_BadAmount_init "BadAmount.__init__" = true)
    (kp_BadAmount_init : PySem.W.keepIn K (.ref x_BadAmount_init) = true)
    (l_BadLink_init : K.lookup x_BadLink_init = some ⟨oc_BadLink_init, od_BadLink_init, .func (PySem.W.fnOf "__init__" "BadLink.__init__" (defArgs s_BadLink_init) (defBody s_BadLink_init) (defScope s_BadLink_init) .none kV_BadLink_init dc_BadLink_init pm_BadLink_init an_BadLink_init cd_BadLink_init ct_BadLink_init), sl_BadLink_init⟩)
    (co_BadLink_init : PySem.W.codeIn K cd_BadLink_init "BadLink.__init__" = true)
    (kp_BadLink_init : PySem.W.keepIn K (.ref x_BadLink_init) = true)
    (l_BadFlow_init : K.lookup x_BadFlow_init = some ⟨oc_BadFlow_init, od_BadFlow_init, .func (PySem.W.fnOf "__init__" "BadFlow.__init__" (defArgs s_BadFlow_init) (defBody s_BadFlow_init) (defScope s_BadFlow_init) .none kV_BadFlow_init dc_BadFlow_init pm_BadFlow_init an_BadFlow_init cd_BadFlow_init ct_BadFlow_init), sl_BadFlow_init⟩)
    (co_BadFlow_init : PySem.W.codeIn K cd_BadFlow_init "BadFlow.__init__" = true)
    (kp_BadFlow_init : PySem.W.keepIn K (.ref x_BadFlow_init) = true)
    (l_BadAge_init : K.lookup x_BadAge_init = some ⟨oc_BadAge_init, od_BadAge_init, .func (PySem.W.fnOf "__init__" "BadAge.__init__" (defArgs s_BadAge_init) (defBody s_BadAge_init) (defScope s_BadAge_init) .none kV_BadAge_init dc_BadAge_init pm_BadAge_init an_BadAge_init cd_BadAge_init ct_BadAge_init), sl_BadAge_init⟩)
    (co_BadAge_init : PySem.W.codeIn K cd_BadAge_init "BadAge.__init__" = true)
    (kp_BadAge_init : PySem.W.keepIn K (.ref x_BadAge_init) = true)
    (l_BadPart_init : K.lookup x_BadPart_init = some ⟨oc_BadPart_init, od_BadPart_init, .func (PySem.W.fnOf "__init__" "BadPart.__init__" (defArgs s_BadPart_init) (defBody s_BadPart_init) (defScope s_BadPart_init) .none kV_BadPart_init dc_BadPart_init pm_BadPart_init an_BadPart_init cd_BadPart_init ct_BadPart_init), sl_BadPart_init⟩)
    (co_BadPart_init : PySem.W.codeIn K cd_BadPart_init "BadPart.__init__" = true)
    (kp_BadPart_init : PySem.W.keepIn K (.ref x_BadPart_init) = true)
    (l_TooMany_init : K.lookup x_TooMany_init = some ⟨oc_TooMany_init, od_TooMany_init, .func (PySem.W.fnOf "__init__" "TooMany.__init__" (defArgs s_TooMany_init) (defBody s_TooMany_init) (defScope s_TooMany_init) .none kV_TooMany_init dc_TooMany_init pm_TooMany_init an_TooMany_init cd_TooMany_init ct_TooMany_init), sl_TooMany_init⟩)
    (co_TooMany_init : PySem.W.codeIn K cd_TooMany_init "TooMany.__init__" = true)
    (kp_TooMany_init : PySem.W.keepIn K (.ref x_TooMany_init) = true)
    (l_DuplicateName_init : K.lookup x_DuplicateName_init = some ⟨oc_DuplicateName_init, od_DuplicateName_init, .func (PySem.W.fnOf "__init__" "DuplicateName.__init__" (defArgs s_DuplicateName_init) (defBody s_DuplicateName_init) (defScope s_DuplicateName_init) .none kV_DuplicateName_init dc_DuplicateName_init pm_DuplicateName_init an_DuplicateName_init cd_DuplicateName_init ct_DuplicateName_init), sl_DuplicateName_init⟩)
    (co_DuplicateName_init : PySem.W.codeIn K cd_DuplicateName_init "DuplicateName.__init__" = true)
    (kp_DuplicateName_init : PySem.W.keepIn K (.ref x_DuplicateName_init) = true)
    (l_Idle_init : K.lookup x_Idle_init = some ⟨oc_Idle_init, od_Idle_init, .func (PySem.W.fnOf "__init__" "Idle.__init__" (defArgs s_Idle_init) (defBody s_Idle_init) (defScope s_Idle_init) .none kV_Idle_init dc_Idle_init pm_Idle_init an_Idle_init cd_Idle_init ct_Idle_init), sl_Idle_init⟩)
    (co_Idle_init : PySem.W.codeIn K cd_Idle_init "Idle.__init__" = true)
    (kp_Idle_init : PySem.W.keepIn K (.ref x_Idle_init) = true)
    (l_Overpromised_init : K.lookup x_Overpromised_init = some ⟨oc_Overpromised_init, od_Overpromised_init, .func (PySem.W.fnOf "__init__" "Overpromised.__init__" (defArgs s_Overpromised_init) (defBody s_Overpromised_init) (defScope s_Overpromised_init) .none kV_Overpromised_init dc_Overpromised_init pm_Overpromised_init an_Overpromised_init cd_Overpromised_init ct_Overpromised_init), sl_Overpromised_init⟩)
    (co_Overpromised_init : PySem.W.codeIn K cd_Overpromised_init "Overpromised.__init__" = true)
    (kp_Overpromised_init : PySem.W.keepIn K (.ref x_Overpromised_init) = true)
    (l_Small_init : K.lookup x_Small_init = some ⟨oc_Small_init, od_Small_init, .func (PySem.W.fnOf "__init__" "Small.__init__" (defArgs s_Small_init) (defBody s_Small_init) (defScope s_Small_init) .none kV_Small_init dc_Small_init pm_Small_init an_Small_init cd_Small_init ct_Small_init), sl_Small_init⟩)
    (co_Small_init : PySem.W.codeIn K cd_Small_init "Small.__init__" = true)
    (kp_Small_init : PySem.W.keepIn K (.ref x_Small_init) = true)
    (l_BadText_init : K.lookup x_BadText_init = some ⟨oc_BadText_init, od_BadText_init, .func (PySem.W.fnOf "__init__" "BadText.__init__" (defArgs s_BadText_init) (defBody s_BadText_init) (defScope s_BadText_init) .none kV_BadText_init dc_BadText_init pm_BadText_init an_BadText_init cd_BadText_init ct_BadText_init), sl_BadText_init⟩)
    (co_BadText_init : PySem.W.codeIn K cd_BadText_init "BadText.__init__" = true)
    (kp_BadText_init : PySem.W.keepIn K (.ref x_BadText_init) = true)
    (l_BadManner_init : K.lookup x_BadManner_init = some ⟨oc_BadManner_init, od_BadManner_init, .func (PySem.W.fnOf "__init__" "BadManner.__init__" (defArgs s_BadManner_init) (defBody s_BadManner_init) (defScope s_BadManner_init) .none kV_BadManner_init dc_BadManner_init pm_BadManner_init an_BadManner_init cd_BadManner_init ct_BadManner_init), sl_BadManner_init⟩)
    (co_BadManner_init : PySem.W.codeIn K cd_BadManner_init "BadManner.__init__" = true)
    (kp_BadManner_init : PySem.W.keepIn K (.ref x_BadManner_init) = true)
    (l_BadCapacity_init : K.lookup x_BadCapacity_init = some ⟨oc_BadCapacity_init, od_BadCapacity_init, .func (PySem.W.fnOf "__init__" "BadCapacity.__init__" (defArgs s_BadCapacity_init) (defBody s_BadCapacity_init) (defScope s_BadCapacity_init) .none kV_BadCapacity_init dc_BadCapacity_init pm_BadCapacity_init an_BadCapacity_init cd_BadCapacity_init ct_BadCapacity_init), sl_BadCapacity_init⟩)
    (co_BadCapacity_init : PySem.W.codeIn K cd_BadCapacity_init "BadCapacity.__init__" = true)
    (kp_BadCapacity_init : PySem.W.keepIn K (.ref x_BadCapacity_init) = true)
    (l_BadSharing_init : K.lookup x_BadSharing_init = some ⟨oc_BadSharing_init, od_BadSharing_init, .func (PySem.W.fnOf "__init__" "BadSharing.__init__" (defArgs s_BadSharing_init) (defBody s_BadSharing_init) (defScope s_BadSharing_init) .none kV_BadSharing_init dc_BadSharing_init pm_BadSharing_init an_BadSharing_init cd_BadSharing_init ct_BadSharing_init), sl_BadSharing_init⟩)
    (co_BadSharing_init : PySem.W.codeIn K cd_BadSharing_init "BadSharing.__init__" = true)
    (kp_BadSharing_init : PySem.W.keepIn K (.ref x_BadSharing_init) = true)
    (l_BadBand_init : K.lookup x_BadBand_init = some ⟨oc_BadBand_init, od_BadBand_init, .func (PySem.W.fnOf "__init__" "BadBand.__init__" (defArgs s_BadBand_init) (defBody s_BadBand_init) (defScope s_BadBand_init) .none kV_BadBand_init dc_BadBand_init pm_BadBand_init an_BadBand_init cd_BadBand_init ct_BadBand_init), sl_BadBand_init⟩)
    (co_BadBand_init : PySem.W.codeIn K cd_BadBand_init "BadBand.__init__" = true)
    (kp_BadBand_init : PySem.W.keepIn K (.ref x_BadBand_init) = true)
    (l_Future_init : K.lookup x_Future_init = some ⟨oc_Future_init, od_Future_init, .func (PySem.W.fnOf "__init__" "Future.__init__" (defArgs s_Future_init) (defBody s_Future_init) (defScope s_Future_init) .none kV_Future_init dc_Future_init pm_Future_init an_Future_init cd_Future_init ct_Future_init), sl_Future_init⟩)
    (co_Future_init : PySem.W.codeIn K cd_Future_init "Future.__init__" = true)
    (kp_Future_init : PySem.W.keepIn K (.ref x_Future_init) = true)
    (l_BadValue_init : K.lookup x_BadValue_init = some ⟨oc_BadValue_init, od_BadValue_init, .func (PySem.W.fnOf "__init__" "BadValue.__init__" (defArgs s_BadValue_init) (defBody s_BadValue_init) (defScope s_BadValue_init) .none kV_BadValue_init dc_BadValue_init pm_BadValue_init an_BadValue_init cd_BadValue_init ct_BadValue_init), sl_BadValue_init⟩)
    (co_BadValue_init : PySem.W.codeIn K cd_BadValue_init "BadValue.__init__" = true)
    (kp_BadValue_init : PySem.W.keepIn K (.ref x_BadValue_init) = true)
    (l_BadState_init : K.lookup x_BadState_init = some ⟨oc_BadState_init, od_BadState_init, .func (PySem.W.fnOf "__init__" "BadState.__init__" (defArgs s_BadState_init) (defBody s_BadState_init) (defScope s_BadState_init) .none kV_BadState_init dc_BadState_init pm_BadState_init an_BadState_init cd_BadState_init ct_BadState_init), sl_BadState_init⟩)
    (co_BadState_init : PySem.W.codeIn K cd_BadState_init "BadState.__init__" = true)
    (kp_BadState_init : PySem.W.keepIn K (.ref x_BadState_init) = true)
    (l_BadCount_init : K.lookup x_BadCount_init = some ⟨oc_BadCount_init, od_BadCount_init, .func (PySem.W.fnOf "__init__" "BadCount.__init__" (defArgs s_BadCount_init) (defBody s_BadCount_init) (defScope s_BadCount_init) .none kV_BadCount_init dc_BadCount_init pm_BadCount_init an_BadCount_init cd_BadCount_init ct_BadCount_init), sl_BadCount_init⟩)
    (co_BadCount_init : PySem.W.codeIn K cd_BadCount_init "BadCount.__init__" = true)
    (kp_BadCount_init : PySem.W.keepIn K (.ref x_BadCount_init) = true)
    (l_BadDeed_init : K.lookup x_BadDeed_init = some ⟨oc_BadDeed_init, od_BadDeed_init, .func (PySem.W.fnOf "__init__" "BadDeed.__init__" (defArgs s_BadDeed_init) (defBody s_BadDeed_init) (defScope s_BadDeed_init) .none kV_BadDeed_init dc_BadDeed_init pm_BadDeed_init an_BadDeed_init cd_BadDeed_init ct_BadDeed_init), sl_BadDeed_init⟩)
    (co_BadDeed_init : PySem.W.codeIn K cd_BadDeed_init "BadDeed.__init__" = true)
    (kp_BadDeed_init : PySem.W.keepIn K (.ref x_BadDeed_init) = true)
    (l_UnknownName_init : K.lookup x_UnknownName_init = some ⟨oc_UnknownName_init, od_UnknownName_init, .func (PySem.W.fnOf "__init__" "UnknownName.__init__" (defArgs s_UnknownName_init) (defBody s_UnknownName_init) (defScope s_UnknownName_init) .none kV_UnknownName_init dc_UnknownName_init pm_UnknownName_init an_UnknownName_init cd_UnknownName_init ct_UnknownName_init), sl_UnknownName_init⟩)
    (co_UnknownName_init : PySem.W.codeIn K cd_UnknownName_init "UnknownName.__init__" = true)
    (kp_UnknownName_init : PySem.W.keepIn K (.ref x_UnknownName_init) = true)
    (l_UnknownChannel_init : K.lookup x_UnknownChannel_init = some ⟨oc_UnknownChannel_init, od_UnknownChannel_init, .func (PySem.W.fnOf "__init__" "UnknownChannel.__init__" (defArgs s_UnknownChannel_init) (defBody s_UnknownChannel_init) (defScope s_UnknownChannel_init) .none kV_UnknownChannel_init dc_UnknownChannel_init pm_UnknownChannel_init an_UnknownChannel_init cd_UnknownChannel_init ct_UnknownChannel_init), sl_UnknownChannel_init⟩)
    (co_UnknownChannel_init : PySem.W.codeIn K cd_UnknownChannel_init "UnknownChannel.__init__" = true)
    (kp_UnknownChannel_init : PySem.W.keepIn K (.ref x_UnknownChannel_init) = true)
    (l_NoSuchLetter_init : K.lookup x_NoSuchLetter_init = some ⟨oc_NoSuchLetter_init, od_NoSuchLetter_init, .func (PySem.W.fnOf "__init__" "NoSuchLetter.__init__" (defArgs s_NoSuchLetter_init) (defBody s_NoSuchLetter_init) (defScope s_NoSuchLetter_init) .none kV_NoSuchLetter_init dc_NoSuchLetter_init pm_NoSuchLetter_init an_NoSuchLetter_init cd_NoSuchLetter_init ct_NoSuchLetter_init), sl_NoSuchLetter_init⟩)
    (co_NoSuchLetter_init : PySem.W.codeIn K cd_NoSuchLetter_init "NoSuchLetter.__init__" = true)
    (kp_NoSuchLetter_init : PySem.W.keepIn K (.ref x_NoSuchLetter_init) = true)
    (l_NoSuchTick_init : K.lookup x_NoSuchTick_init = some ⟨oc_NoSuchTick_init, od_NoSuchTick_init, .func (PySem.W.fnOf "__init__" "NoSuchTick.__init__" (defArgs s_NoSuchTick_init) (defBody s_NoSuchTick_init) (defScope s_NoSuchTick_init) .none kV_NoSuchTick_init dc_NoSuchTick_init pm_NoSuchTick_init an_NoSuchTick_init cd_NoSuchTick_init ct_NoSuchTick_init), sl_NoSuchTick_init⟩)
    (co_NoSuchTick_init : PySem.W.codeIn K cd_NoSuchTick_init "NoSuchTick.__init__" = true)
    (kp_NoSuchTick_init : PySem.W.keepIn K (.ref x_NoSuchTick_init) = true)
    (l_NotStrange_init : K.lookup x_NotStrange_init = some ⟨oc_NotStrange_init, od_NotStrange_init, .func (PySem.W.fnOf "__init__" "NotStrange.__init__" (defArgs s_NotStrange_init) (defBody s_NotStrange_init) (defScope s_NotStrange_init) .none kV_NotStrange_init dc_NotStrange_init pm_NotStrange_init an_NotStrange_init cd_NotStrange_init ct_NotStrange_init), sl_NotStrange_init⟩)
    (co_NotStrange_init : PySem.W.codeIn K cd_NotStrange_init "NotStrange.__init__" = true)
    (kp_NotStrange_init : PySem.W.keepIn K (.ref x_NotStrange_init) = true)
    (l_NotShaky_init : K.lookup x_NotShaky_init = some ⟨oc_NotShaky_init, od_NotShaky_init, .func (PySem.W.fnOf "__init__" "NotShaky.__init__" (defArgs s_NotShaky_init) (defBody s_NotShaky_init) (defScope s_NotShaky_init) .none kV_NotShaky_init dc_NotShaky_init pm_NotShaky_init an_NotShaky_init cd_NotShaky_init ct_NotShaky_init), sl_NotShaky_init⟩)
    (co_NotShaky_init : PySem.W.codeIn K cd_NotShaky_init "NotShaky.__init__" = true)
    (kp_NotShaky_init : PySem.W.keepIn K (.ref x_NotShaky_init) = true)
    (l_Unseen_init : K.lookup x_Unseen_init = some ⟨oc_Unseen_init, od_Unseen_init, .func (PySem.W.fnOf "__init__" "Unseen.__init__" (defArgs s_Unseen_init) (defBody s_Unseen_init) (defScope s_Unseen_init) .none kV_Unseen_init dc_Unseen_init pm_Unseen_init an_Unseen_init cd_Unseen_init ct_Unseen_init), sl_Unseen_init⟩)
    (co_Unseen_init : PySem.W.codeIn K cd_Unseen_init "Unseen.__init__" = true)
    (kp_Unseen_init : PySem.W.keepIn K (.ref x_Unseen_init) = true)
    (a_law_bag : PySem.W.nsIn K mainGlobals "_law_bag" = some (some (.ref x_law_bag)))
    (l_law_bag : K.lookup x_law_bag = some ⟨oc_law_bag, od_law_bag, .func (PySem.W.fnOf "_law_bag" "_law_bag" (defArgs s_law_bag) (defBody s_law_bag) (defScope s_law_bag) .none kV_law_bag dc_law_bag pm_law_bag an_law_bag cd_law_bag ct_law_bag), sl_law_bag⟩)
    (co_law_bag : PySem.W.codeIn K cd_law_bag "_law_bag" = true)
    (kp_law_bag : PySem.W.keepIn K (.ref x_law_bag) = true)
    (a_law_draw : PySem.W.nsIn K mainGlobals "_law_draw" = some (some (.ref x_law_draw)))
    (l_law_draw : K.lookup x_law_draw = some ⟨oc_law_draw, od_law_draw, .func (PySem.W.fnOf "_law_draw" "_law_draw" (defArgs s_law_draw) (defBody s_law_draw) (defScope s_law_draw) .none kV_law_draw dc_law_draw pm_law_draw an_law_draw cd_law_draw ct_law_draw), sl_law_draw⟩)
    (co_law_draw : PySem.W.codeIn K cd_law_draw "_law_draw" = true)
    (kp_law_draw : PySem.W.keepIn K (.ref x_law_draw) = true)
    (a_law_of : PySem.W.nsIn K mainGlobals "_law_of" = some (some (.ref x_law_of)))
    (l_law_of : K.lookup x_law_of = some ⟨oc_law_of, od_law_of, .func (PySem.W.fnOf "_law_of" "_law_of" (defArgs s_law_of) (defBody s_law_of) (defScope s_law_of) .none kV_law_of dc_law_of pm_law_of an_law_of cd_law_of ct_law_of), sl_law_of⟩)
    (co_law_of : PySem.W.codeIn K cd_law_of "_law_of" = true)
    (kp_law_of : PySem.W.keepIn K (.ref x_law_of) = true)
    (a_law_taken : PySem.W.nsIn K mainGlobals "_law_taken" = some (some (.ref x_law_taken)))
    (l_law_taken : K.lookup x_law_taken = some ⟨oc_law_taken, od_law_taken, .func (PySem.W.fnOf "_law_taken" "_law_taken" (defArgs s_law_taken) (defBody s_law_taken) (defScope s_law_taken) .none kV_law_taken dc_law_taken pm_law_taken an_law_taken cd_law_taken ct_law_taken), sl_law_taken⟩)
    (co_law_taken : PySem.W.codeIn K cd_law_taken "_law_taken" = true)
    (kp_law_taken : PySem.W.keepIn K (.ref x_law_taken) = true)
    (a_law_last_made : PySem.W.nsIn K mainGlobals "_law_last_made" = some (some (.ref x_law_last_made)))
    (l_law_last_made : K.lookup x_law_last_made = some ⟨oc_law_last_made, od_law_last_made, .func (PySem.W.fnOf "_law_last_made" "_law_last_made" (defArgs s_law_last_made) (defBody s_law_last_made) (defScope s_law_last_made) .none kV_law_last_made dc_law_last_made pm_law_last_made an_law_last_made cd_law_last_made ct_law_last_made), sl_law_last_made⟩)
    (co_law_last_made : PySem.W.codeIn K cd_law_last_made "_law_last_made" = true)
    (kp_law_last_made : PySem.W.keepIn K (.ref x_law_last_made) = true)
    (a_law_like : PySem.W.nsIn K mainGlobals "_law_like" = some (some (.ref x_law_like)))
    (l_law_like : K.lookup x_law_like = some ⟨oc_law_like, od_law_like, .func (PySem.W.fnOf "_law_like" "_law_like" (defArgs s_law_like) (defBody s_law_like) (defScope s_law_like) .none kV_law_like dc_law_like pm_law_like an_law_like cd_law_like ct_law_like), sl_law_like⟩)
    (co_law_like : PySem.W.codeIn K cd_law_like "_law_like" = true)
    (kp_law_like : PySem.W.keepIn K (.ref x_law_like) = true)
    (a_law_odd : PySem.W.nsIn K mainGlobals "_law_odd" = some (some (.ref x_law_odd)))
    (l_law_odd : K.lookup x_law_odd = some ⟨oc_law_odd, od_law_odd, .func (PySem.W.fnOf "_law_odd" "_law_odd" (defArgs s_law_odd) (defBody s_law_odd) (defScope s_law_odd) .none kV_law_odd dc_law_odd pm_law_odd an_law_odd cd_law_odd ct_law_odd), sl_law_odd⟩)
    (co_law_odd : PySem.W.codeIn K cd_law_odd "_law_odd" = true)
    (kp_law_odd : PySem.W.keepIn K (.ref x_law_odd) = true)
    (a_law_word : PySem.W.nsIn K mainGlobals "_law_word" = some (some (.ref x_law_word)))
    (l_law_word : K.lookup x_law_word = some ⟨oc_law_word, od_law_word, .func (PySem.W.fnOf "_law_word" "_law_word" (defArgs s_law_word) (defBody s_law_word) (defScope s_law_word) .none kV_law_word dc_law_word pm_law_word an_law_word cd_law_word ct_law_word), sl_law_word⟩)
    (co_law_word : PySem.W.codeIn K cd_law_word "_law_word" = true)
    (kp_law_word : PySem.W.keepIn K (.ref x_law_word) = true)
    (a_law_pair : PySem.W.nsIn K mainGlobals "_law_pair" = some (some (.ref x_law_pair)))
    (l_law_pair : K.lookup x_law_pair = some ⟨oc_law_pair, od_law_pair, .func (PySem.W.fnOf "_law_pair" "_law_pair" (defArgs s_law_pair) (defBody s_law_pair) (defScope s_law_pair) .none kV_law_pair dc_law_pair pm_law_pair an_law_pair cd_law_pair ct_law_pair), sl_law_pair⟩)
    (co_law_pair : PySem.W.codeIn K cd_law_pair "_law_pair" = true)
    (kp_law_pair : PySem.W.keepIn K (.ref x_law_pair) = true)
    (a_law_wide : PySem.W.nsIn K mainGlobals "_law_wide" = some (some (.ref x_law_wide)))
    (l_law_wide : K.lookup x_law_wide = some ⟨oc_law_wide, od_law_wide, .func (PySem.W.fnOf "_law_wide" "_law_wide" (defArgs s_law_wide) (defBody s_law_wide) (defScope s_law_wide) .none kV_law_wide dc_law_wide pm_law_wide an_law_wide cd_law_wide ct_law_wide), sl_law_wide⟩)
    (co_law_wide : PySem.W.codeIn K cd_law_wide "_law_wide" = true)
    (kp_law_wide : PySem.W.keepIn K (.ref x_law_wide) = true)
    (a_law_great : PySem.W.nsIn K mainGlobals "_law_great" = some (some (.ref x_law_great)))
    (l_law_great : K.lookup x_law_great = some ⟨oc_law_great, od_law_great, .func (PySem.W.fnOf "_law_great" "_law_great" (defArgs s_law_great) (defBody s_law_great) (defScope s_law_great) .none kV_law_great dc_law_great pm_law_great an_law_great cd_law_great ct_law_great), sl_law_great⟩)
    (co_law_great : PySem.W.codeIn K cd_law_great "_law_great" = true)
    (kp_law_great : PySem.W.keepIn K (.ref x_law_great) = true)
    (a_law_amount : PySem.W.nsIn K mainGlobals "_law_amount" = some (some (.ref x_law_amount)))
    (l_law_amount : K.lookup x_law_amount = some ⟨oc_law_amount, od_law_amount, .func (PySem.W.fnOf "_law_amount" "_law_amount" (defArgs s_law_amount) (defBody s_law_amount) (defScope s_law_amount) .none kV_law_amount dc_law_amount pm_law_amount an_law_amount cd_law_amount ct_law_amount), sl_law_amount⟩)
    (co_law_amount : PySem.W.codeIn K cd_law_amount "_law_amount" = true)
    (kp_law_amount : PySem.W.keepIn K (.ref x_law_amount) = true)
    (a_law_first_made : PySem.W.nsIn K mainGlobals "_law_first_made" = some (some (.ref x_law_first_made)))
    (l_law_first_made : K.lookup x_law_first_made = some ⟨oc_law_first_made, od_law_first_made, .func (PySem.W.fnOf "_law_first_made" "_law_first_made" (defArgs s_law_first_made) (defBody s_law_first_made) (defScope s_law_first_made) .none kV_law_first_made dc_law_first_made pm_law_first_made an_law_first_made cd_law_first_made ct_law_first_made), sl_law_first_made⟩)
    (co_law_first_made : PySem.W.codeIn K cd_law_first_made "_law_first_made" = true)
    (kp_law_first_made : PySem.W.keepIn K (.ref x_law_first_made) = true)
    (a_law_middle_made : PySem.W.nsIn K mainGlobals "_law_middle_made" = some (some (.ref x_law_middle_made)))
    (l_law_middle_made : K.lookup x_law_middle_made = some ⟨oc_law_middle_made, od_law_middle_made, .func (PySem.W.fnOf "_law_middle_made" "_law_middle_made" (defArgs s_law_middle_made) (defBody s_law_middle_made) (defScope s_law_middle_made) .none kV_law_middle_made dc_law_middle_made pm_law_middle_made an_law_middle_made cd_law_middle_made ct_law_middle_made), sl_law_middle_made⟩)
    (co_law_middle_made : PySem.W.codeIn K cd_law_middle_made "_law_middle_made" = true)
    (kp_law_middle_made : PySem.W.keepIn K (.ref x_law_middle_made) = true)
    (a_law_last_ones : PySem.W.nsIn K mainGlobals "_law_last_ones" = some (some (.ref x_law_last_ones)))
    (l_law_last_ones : K.lookup x_law_last_ones = some ⟨oc_law_last_ones, od_law_last_ones, .func (PySem.W.fnOf "_law_last_ones" "_law_last_ones" (defArgs s_law_last_ones) (defBody s_law_last_ones) (defScope s_law_last_ones) .none kV_law_last_ones dc_law_last_ones pm_law_last_ones an_law_last_ones cd_law_last_ones ct_law_last_ones), sl_law_last_ones⟩)
    (co_law_last_ones : PySem.W.codeIn K cd_law_last_ones "_law_last_ones" = true)
    (kp_law_last_ones : PySem.W.keepIn K (.ref x_law_last_ones) = true)
    (a_law_middle_ones : PySem.W.nsIn K mainGlobals "_law_middle_ones" = some (some (.ref x_law_middle_ones)))
    (l_law_middle_ones : K.lookup x_law_middle_ones = some ⟨oc_law_middle_ones, od_law_middle_ones, .func (PySem.W.fnOf "_law_middle_ones" "_law_middle_ones" (defArgs s_law_middle_ones) (defBody s_law_middle_ones) (defScope s_law_middle_ones) .none kV_law_middle_ones dc_law_middle_ones pm_law_middle_ones an_law_middle_ones cd_law_middle_ones ct_law_middle_ones), sl_law_middle_ones⟩)
    (co_law_middle_ones : PySem.W.codeIn K cd_law_middle_ones "_law_middle_ones" = true)
    (kp_law_middle_ones : PySem.W.keepIn K (.ref x_law_middle_ones) = true)
    (a_law_first_ones : PySem.W.nsIn K mainGlobals "_law_first_ones" = some (some (.ref x_law_first_ones)))
    (l_law_first_ones : K.lookup x_law_first_ones = some ⟨oc_law_first_ones, od_law_first_ones, .func (PySem.W.fnOf "_law_first_ones" "_law_first_ones" (defArgs s_law_first_ones) (defBody s_law_first_ones) (defScope s_law_first_ones) .none kV_law_first_ones dc_law_first_ones pm_law_first_ones an_law_first_ones cd_law_first_ones ct_law_first_ones), sl_law_first_ones⟩)
    (co_law_first_ones : PySem.W.codeIn K cd_law_first_ones "_law_first_ones" = true)
    (kp_law_first_ones : PySem.W.keepIn K (.ref x_law_first_ones) = true)
    (a_law_known : PySem.W.nsIn K mainGlobals "_law_known" = some (some (.ref x_law_known)))
    (l_law_known : K.lookup x_law_known = some ⟨oc_law_known, od_law_known, .func (PySem.W.fnOf "_law_known" "_law_known" (defArgs s_law_known) (defBody s_law_known) (defScope s_law_known) .none kV_law_known dc_law_known pm_law_known an_law_known cd_law_known ct_law_known), sl_law_known⟩)
    (co_law_known : PySem.W.codeIn K cd_law_known "_law_known" = true)
    (kp_law_known : PySem.W.keepIn K (.ref x_law_known) = true)
    (a_law_rows_so : PySem.W.nsIn K mainGlobals "_law_rows_so" = some (some (.ref x_law_rows_so)))
    (l_law_rows_so : K.lookup x_law_rows_so = some ⟨oc_law_rows_so, od_law_rows_so, .func (PySem.W.fnOf "_law_rows_so" "_law_rows_so" (defArgs s_law_rows_so) (defBody s_law_rows_so) (defScope s_law_rows_so) .none kV_law_rows_so dc_law_rows_so pm_law_rows_so an_law_rows_so cd_law_rows_so ct_law_rows_so), sl_law_rows_so⟩)
    (co_law_rows_so : PySem.W.codeIn K cd_law_rows_so "_law_rows_so" = true)
    (kp_law_rows_so : PySem.W.keepIn K (.ref x_law_rows_so) = true)
    (a_law_thrown : PySem.W.nsIn K mainGlobals "_law_thrown" = some (some (.ref x_law_thrown)))
    (l_law_thrown : K.lookup x_law_thrown = some ⟨oc_law_thrown, od_law_thrown, .func (PySem.W.fnOf "_law_thrown" "_law_thrown" (defArgs s_law_thrown) (defBody s_law_thrown) (defScope s_law_thrown) .none kV_law_thrown dc_law_thrown pm_law_thrown an_law_thrown cd_law_thrown ct_law_thrown), sl_law_thrown⟩)
    (co_law_thrown : PySem.W.codeIn K cd_law_thrown "_law_thrown" = true)
    (kp_law_thrown : PySem.W.keepIn K (.ref x_law_thrown) = true)
    (a_law_missed : PySem.W.nsIn K mainGlobals "_law_missed" = some (some (.ref x_law_missed)))
    (l_law_missed : K.lookup x_law_missed = some ⟨oc_law_missed, od_law_missed, .func (PySem.W.fnOf "_law_missed" "_law_missed" (defArgs s_law_missed) (defBody s_law_missed) (defScope s_law_missed) .none kV_law_missed dc_law_missed pm_law_missed an_law_missed cd_law_missed ct_law_missed), sl_law_missed⟩)
    (co_law_missed : PySem.W.codeIn K cd_law_missed "_law_missed" = true)
    (kp_law_missed : PySem.W.keepIn K (.ref x_law_missed) = true)
    (a_law_refused : PySem.W.nsIn K mainGlobals "_law_refused" = some (some (.ref x_law_refused)))
    (l_law_refused : K.lookup x_law_refused = some ⟨oc_law_refused, od_law_refused, .func (PySem.W.fnOf "_law_refused" "_law_refused" (defArgs s_law_refused) (defBody s_law_refused) (defScope s_law_refused) .none kV_law_refused dc_law_refused pm_law_refused an_law_refused cd_law_refused ct_law_refused), sl_law_refused⟩)
    (co_law_refused : PySem.W.codeIn K cd_law_refused "_law_refused" = true)
    (kp_law_refused : PySem.W.keepIn K (.ref x_law_refused) = true)
    (a_law : PySem.W.nsIn K mainGlobals "law" = some (some (.ref x_law)))
    (l_law : K.lookup x_law = some ⟨oc_law, od_law, .func (PySem.W.fnOf "law" "law" (defArgs s_law) (defBody s_law) (defScope s_law) .none kV_law dc_law pm_law an_law cd_law ct_law), sl_law⟩)
    (co_law : PySem.W.codeIn K cd_law "law" = true)
    (kp_law : PySem.W.keepIn K (.ref x_law) = true)
    (z_int : PySem.W.nsIn K mainGlobals "int" = some none)
    (z_list : PySem.W.nsIn K mainGlobals "list" = some none)
    (z_len : PySem.W.nsIn K mainGlobals "len" = some none)
    (z_isinstance : PySem.W.nsIn K mainGlobals "isinstance" = some none)
    (z_tuple : PySem.W.nsIn K mainGlobals "tuple" = some none)
    (z_all : PySem.W.nsIn K mainGlobals "all" = some none)
    (z_zip : PySem.W.nsIn K mainGlobals "zip" = some none)
    (z_bool : PySem.W.nsIn K mainGlobals "bool" = some none)
    (z_str : PySem.W.nsIn K mainGlobals "str" = some none)
    (z_range : PySem.W.nsIn K mainGlobals "range" = some none)
    (z_max : PySem.W.nsIn K mainGlobals "max" = some none)
    (z_ValueError : PySem.W.nsIn K mainGlobals "ValueError" = some none)
    (z_LookupError : PySem.W.nsIn K mainGlobals "LookupError" = some none)
    (z_RuntimeError : PySem.W.nsIn K mainGlobals "RuntimeError" = some none)
    (z_sorted : PySem.W.nsIn K mainGlobals "sorted" = some none)
    (tb_law : h.get? x_tb_law = some { cls := .none, data := .fields #[] })
    (tn_law : K.lookup x_tb_law = none)
    (tc_law : PySem.W.CodeHd h x_cb_law x_tb_law)
    (te_law : cd_law = .ref x_cb_law)
    (hnd : ([x_tb_law] : List Addr).Nodup), R
end K70
set_option maxHeartbeats 0
local macro_rules | `(tactic| k_head) => `(tactic| k_headL)
open PySem PySem.W PyProof.Rows in
open_top K70.head for PySem.Challenge.rw_bandheld_k70_errors_by_themselves
namespace K70
open PySem PySem.W PyProof.Rows
theorem headF : ∃ (q : Program) (loose : List Str) (K : Params → Frag) (as : List Addr) (ek : ∀ P, as = (K P).map (·.1)) (d : DefRec), d.params.defaults = [] ∧ d.name = "law" ∧
    (WalkO q loose (XL q []) (Hook.says (kHook K as ek)) (OpenLaw.row PySem.Challenge.rw_bandheld_k70_errors_by_themselves).toRowW d [] (fun f vs => PySem.call f vs) → PySem.Challenge.rw_bandheld_k70_errors_by_themselves.Holds) ∧
    ∀ (w : World) (mg : Str → Option Value) (h : Heap) (s₀ : Shared) (mb : Str → Option Value), Ground q loose [] (XL q []) w s₀ mg mb h → (K w.params).In h → ∀ R : Prop, Facts (K w.params) h R → R := by
  refine' ⟨_, _, _, _, _, _, ?hd, ?hn, K70.head, ?F⟩
  case hd => rfl
  case hn => rfl
  case F =>
    k_fill
    intro w mg h s₀ mb GG KX R kk
    unfold Facts at kk
    refine' kk ?a_Short ?a_UnknownHop ?a_Started ?a_BadAmount ?a_BadLink ?a_BadFlow ?a_BadAge ?a_BadPart ?a_TooMany ?a_DuplicateName ?a_Idle ?a_Overpromised ?a_Small ?a_BadText ?a_BadManner ?a_BadCapacity ?a_BadSharing ?a_BadBand ?a_NotPlain ?a_Future ?a_BadValue ?a_BadState ?a_BadCount ?a_BadDeed ?a_UnknownName ?a_UnknownChannel ?a_NoSuchLetter ?a_NoSuchTick ?a_NotStrange ?a_NotShaky ?a_Unseen ?a_BandError ?a_Missing ?a_Refused ?ihn ?iht ?lk_Short ?xs_Short ?xb_Short ?xt_Short ?xp_Short ?xa_Short ?xe_Short ?xd_Short ?xc_Short ?xo_Short ?xf_Short ?xi_Short ?xy_Short ?lk_UnknownHop ?xs_UnknownHop ?xb_UnknownHop ?xt_UnknownHop ?xp_UnknownHop ?xa_UnknownHop ?xe_UnknownHop ?xd_UnknownHop ?xc_UnknownHop ?xo_UnknownHop ?xf_UnknownHop ?xi_UnknownHop ?xy_UnknownHop ?lk_Started ?xs_Started ?xb_Started ?xt_Started ?xp_Started ?xa_Started ?xe_Started ?xd_Started ?xc_Started ?xo_Started ?xf_Started ?xi_Started ?xy_Started ?lk_BadAmount ?yi_BadAmount ?yb_BadAmount ?lk_BadLink ?yi_BadLink ?yb_BadLink ?lk_BadFlow ?yi_BadFlow ?yb_BadFlow ?lk_BadAge ?yi_BadAge ?yb_BadAge ?lk_BadPart ?yi_BadPart ?yb_BadPart ?lk_TooMany ?yi_TooMany ?yb_TooMany ?lk_DuplicateName ?yi_DuplicateName ?yb_DuplicateName ?lk_Idle ?yi_Idle ?yb_Idle ?lk_Overpromised ?yi_Overpromised ?yb_Overpromised ?lk_Small ?yi_Small ?yb_Small ?lk_BadText ?yi_BadText ?yb_BadText ?lk_BadManner ?yi_BadManner ?yb_BadManner ?lk_BadCapacity ?yi_BadCapacity ?yb_BadCapacity ?lk_BadSharing ?yi_BadSharing ?yb_BadSharing ?lk_BadBand ?yi_BadBand ?yb_BadBand ?ye_NotPlain ?yq_NotPlain ?yo_NotPlain ?lk_Future ?yi_Future ?yb_Future ?yb_Short ?lk_BadValue ?yi_BadValue ?yb_BadValue ?lk_BadState ?yi_BadState ?yb_BadState ?lk_BadCount ?yi_BadCount ?yb_BadCount ?lk_BadDeed ?yi_BadDeed ?yb_BadDeed ?lk_UnknownName ?yi_UnknownName ?yb_UnknownName ?lk_UnknownChannel ?yi_UnknownChannel ?yb_UnknownChannel ?yb_UnknownHop ?lk_NoSuchLetter ?yi_NoSuchLetter ?yb_NoSuchLetter ?lk_NoSuchTick ?yi_NoSuchTick ?yb_NoSuchTick ?yb_Started ?lk_NotStrange ?yi_NotStrange ?yb_NotStrange ?lk_NotShaky ?yi_NotShaky ?yb_NotShaky ?lk_Unseen ?yi_Unseen ?yb_Unseen ?yt_UnknownName ?yt_UnknownChannel ?yt_UnknownHop ?yt_NoSuchLetter ?yt_NoSuchTick ?yt_Started ?yt_NotStrange ?yt_NotShaky ?yt_Unseen ?yt_BadManner ?yt_BadCapacity ?yt_BadSharing ?yt_BadBand ?yt_NotPlain ?yt_Future ?yt_Short ?yt_BadValue ?yt_BadState ?yt_BadCount ?yt_BadDeed ?yt_BadAmount ?yt_BadLink ?yt_BadFlow ?yt_BadAge ?yt_BadPart ?yt_TooMany ?yt_DuplicateName ?yt_Idle ?yt_Overpromised ?yt_Small ?yt_BadText ?yt_BandError ?yt_Missing ?yt_Refused ?yt_ValueError ?yt_LookupError ?yt_RuntimeError ?yx_law_taken ?l_Started_init ?co_Started_init ?kp_Started_init ?l_UnknownHop_init ?co_UnknownHop_init ?kp_UnknownHop_init ?l_Short_init ?co_Short_init ?kp_Short_init ?l_BadAmount_init ?co_BadAmount_init ?kp_BadAmount_init ?l_BadLink_init ?co_BadLink_init ?kp_BadLink_init ?l_BadFlow_init ?co_BadFlow_init ?kp_BadFlow_init ?l_BadAge_init ?co_BadAge_init ?kp_BadAge_init ?l_BadPart_init ?co_BadPart_init ?kp_BadPart_init ?l_TooMany_init ?co_TooMany_init ?kp_TooMany_init ?l_DuplicateName_init ?co_DuplicateName_init ?kp_DuplicateName_init ?l_Idle_init ?co_Idle_init ?kp_Idle_init ?l_Overpromised_init ?co_Overpromised_init ?kp_Overpromised_init ?l_Small_init ?co_Small_init ?kp_Small_init ?l_BadText_init ?co_BadText_init ?kp_BadText_init ?l_BadManner_init ?co_BadManner_init ?kp_BadManner_init ?l_BadCapacity_init ?co_BadCapacity_init ?kp_BadCapacity_init ?l_BadSharing_init ?co_BadSharing_init ?kp_BadSharing_init ?l_BadBand_init ?co_BadBand_init ?kp_BadBand_init ?l_Future_init ?co_Future_init ?kp_Future_init ?l_BadValue_init ?co_BadValue_init ?kp_BadValue_init ?l_BadState_init ?co_BadState_init ?kp_BadState_init ?l_BadCount_init ?co_BadCount_init ?kp_BadCount_init ?l_BadDeed_init ?co_BadDeed_init ?kp_BadDeed_init ?l_UnknownName_init ?co_UnknownName_init ?kp_UnknownName_init ?l_UnknownChannel_init ?co_UnknownChannel_init ?kp_UnknownChannel_init ?l_NoSuchLetter_init ?co_NoSuchLetter_init ?kp_NoSuchLetter_init ?l_NoSuchTick_init ?co_NoSuchTick_init ?kp_NoSuchTick_init ?l_NotStrange_init ?co_NotStrange_init ?kp_NotStrange_init ?l_NotShaky_init ?co_NotShaky_init ?kp_NotShaky_init ?l_Unseen_init ?co_Unseen_init ?kp_Unseen_init ?a_law_bag ?l_law_bag ?co_law_bag ?kp_law_bag ?a_law_draw ?l_law_draw ?co_law_draw ?kp_law_draw ?a_law_of ?l_law_of ?co_law_of ?kp_law_of ?a_law_taken ?l_law_taken ?co_law_taken ?kp_law_taken ?a_law_last_made ?l_law_last_made ?co_law_last_made ?kp_law_last_made ?a_law_like ?l_law_like ?co_law_like ?kp_law_like ?a_law_odd ?l_law_odd ?co_law_odd ?kp_law_odd ?a_law_word ?l_law_word ?co_law_word ?kp_law_word ?a_law_pair ?l_law_pair ?co_law_pair ?kp_law_pair ?a_law_wide ?l_law_wide ?co_law_wide ?kp_law_wide ?a_law_great ?l_law_great ?co_law_great ?kp_law_great ?a_law_amount ?l_law_amount ?co_law_amount ?kp_law_amount ?a_law_first_made ?l_law_first_made ?co_law_first_made ?kp_law_first_made ?a_law_middle_made ?l_law_middle_made ?co_law_middle_made ?kp_law_middle_made ?a_law_last_ones ?l_law_last_ones ?co_law_last_ones ?kp_law_last_ones ?a_law_middle_ones ?l_law_middle_ones ?co_law_middle_ones ?kp_law_middle_ones ?a_law_first_ones ?l_law_first_ones ?co_law_first_ones ?kp_law_first_ones ?a_law_known ?l_law_known ?co_law_known ?kp_law_known ?a_law_rows_so ?l_law_rows_so ?co_law_rows_so ?kp_law_rows_so ?a_law_thrown ?l_law_thrown ?co_law_thrown ?kp_law_thrown ?a_law_missed ?l_law_missed ?co_law_missed ?kp_law_missed ?a_law_refused ?l_law_refused ?co_law_refused ?kp_law_refused ?a_law ?l_law ?co_law ?kp_law ?z_int ?z_list ?z_len ?z_isinstance ?z_tuple ?z_all ?z_zip ?z_bool ?z_str ?z_range ?z_max ?z_ValueError ?z_LookupError ?z_RuntimeError ?z_sorted ?tb_law ?tn_law ?tc_law ?te_law ?hnd
    (case a_Short => k_is)
    (case a_UnknownHop => k_is)
    (case a_Started => k_is)
    (case a_BadAmount => k_is)
    (case a_BadLink => k_is)
    (case a_BadFlow => k_is)
    (case a_BadAge => k_is)
    (case a_BadPart => k_is)
    (case a_TooMany => k_is)
    (case a_DuplicateName => k_is)
    (case a_Idle => k_is)
    (case a_Overpromised => k_is)
    (case a_Small => k_is)
    (case a_BadText => k_is)
    (case a_BadManner => k_is)
    (case a_BadCapacity => k_is)
    (case a_BadSharing => k_is)
    (case a_BadBand => k_is)
    (case a_NotPlain => k_is)
    (case a_Future => k_is)
    (case a_BadValue => k_is)
    (case a_BadState => k_is)
    (case a_BadCount => k_is)
    (case a_BadDeed => k_is)
    (case a_UnknownName => k_is)
    (case a_UnknownChannel => k_is)
    (case a_NoSuchLetter => k_is)
    (case a_NoSuchTick => k_is)
    (case a_NotStrange => k_is)
    (case a_NotShaky => k_is)
    (case a_Unseen => k_is)
    (case a_BandError => k_is)
    (case a_Missing => k_is)
    (case a_Refused => k_is)
    (case ihn => k_is)
    (case iht => k_is)
    (case lk_Short => refine' L3.clsLkG_of PySem.BX.base_VE ?q1 ?q2; (case q1 => k_is); (case q2 => rfl))
    (case xs_Short => k_is)
    (case xb_Short => k_is)
    (case xt_Short => k_is)
    (case xp_Short => k_is)
    (case xa_Short => k_is)
    (case xe_Short => k_is)
    (case xd_Short => k_is)
    (case xc_Short => k_is)
    (case xo_Short => k_is)
    (case xf_Short => k_is)
    (case xi_Short => k_is)
    (case xy_Short => k_is)
    (case lk_UnknownHop => refine' L3.clsLkG_of PySem.BX.base_LE ?q1 ?q2; (case q1 => k_is); (case q2 => rfl))
    (case xs_UnknownHop => k_is)
    (case xb_UnknownHop => k_is)
    (case xt_UnknownHop => k_is)
    (case xp_UnknownHop => k_is)
    (case xa_UnknownHop => k_is)
    (case xe_UnknownHop => k_is)
    (case xd_UnknownHop => k_is)
    (case xc_UnknownHop => k_is)
    (case xo_UnknownHop => k_is)
    (case xf_UnknownHop => k_is)
    (case xi_UnknownHop => k_is)
    (case xy_UnknownHop => k_is)
    (case lk_Started => refine' L3.clsLkG_of PySem.BX.base_RE ?q1 ?q2; (case q1 => k_is); (case q2 => rfl))
    (case xs_Started => k_is)
    (case xb_Started => k_is)
    (case xt_Started => k_is)
    (case xp_Started => k_is)
    (case xa_Started => k_is)
    (case xe_Started => k_is)
    (case xd_Started => k_is)
    (case xc_Started => k_is)
    (case xo_Started => k_is)
    (case xf_Started => k_is)
    (case xi_Started => k_is)
    (case xy_Started => k_is)
    (case lk_BadAmount => refine' L3.clsLkG_of PySem.BX.base_VE ?q1 ?q2; (case q1 => k_is); (case q2 => rfl))
    (case yi_BadAmount => k_is)
    (case yb_BadAmount => kernel_rfl)
    (case lk_BadLink => refine' L3.clsLkG_of PySem.BX.base_VE ?q1 ?q2; (case q1 => k_is); (case q2 => rfl))
    (case yi_BadLink => k_is)
    (case yb_BadLink => kernel_rfl)
    (case lk_BadFlow => refine' L3.clsLkG_of PySem.BX.base_VE ?q1 ?q2; (case q1 => k_is); (case q2 => rfl))
    (case yi_BadFlow => k_is)
    (case yb_BadFlow => kernel_rfl)
    (case lk_BadAge => refine' L3.clsLkG_of PySem.BX.base_VE ?q1 ?q2; (case q1 => k_is); (case q2 => rfl))
    (case yi_BadAge => k_is)
    (case yb_BadAge => kernel_rfl)
    (case lk_BadPart => refine' L3.clsLkG_of PySem.BX.base_VE ?q1 ?q2; (case q1 => k_is); (case q2 => rfl))
    (case yi_BadPart => k_is)
    (case yb_BadPart => kernel_rfl)
    (case lk_TooMany => refine' L3.clsLkG_of PySem.BX.base_VE ?q1 ?q2; (case q1 => k_is); (case q2 => rfl))
    (case yi_TooMany => k_is)
    (case yb_TooMany => kernel_rfl)
    (case lk_DuplicateName => refine' L3.clsLkG_of PySem.BX.base_VE ?q1 ?q2; (case q1 => k_is); (case q2 => rfl))
    (case yi_DuplicateName => k_is)
    (case yb_DuplicateName => kernel_rfl)
    (case lk_Idle => refine' L3.clsLkG_of PySem.BX.base_VE ?q1 ?q2; (case q1 => k_is); (case q2 => rfl))
    (case yi_Idle => k_is)
    (case yb_Idle => kernel_rfl)
    (case lk_Overpromised => refine' L3.clsLkG_of PySem.BX.base_VE ?q1 ?q2; (case q1 => k_is); (case q2 => rfl))
    (case yi_Overpromised => k_is)
    (case yb_Overpromised => kernel_rfl)
    (case lk_Small => refine' L3.clsLkG_of PySem.BX.base_VE ?q1 ?q2; (case q1 => k_is); (case q2 => rfl))
    (case yi_Small => k_is)
    (case yb_Small => kernel_rfl)
    (case lk_BadText => refine' L3.clsLkG_of PySem.BX.base_VE ?q1 ?q2; (case q1 => k_is); (case q2 => rfl))
    (case yi_BadText => k_is)
    (case yb_BadText => kernel_rfl)
    (case lk_BadManner => refine' L3.clsLkG_of PySem.BX.base_VE ?q1 ?q2; (case q1 => k_is); (case q2 => rfl))
    (case yi_BadManner => k_is)
    (case yb_BadManner => kernel_rfl)
    (case lk_BadCapacity => refine' L3.clsLkG_of PySem.BX.base_VE ?q1 ?q2; (case q1 => k_is); (case q2 => rfl))
    (case yi_BadCapacity => k_is)
    (case yb_BadCapacity => kernel_rfl)
    (case lk_BadSharing => refine' L3.clsLkG_of PySem.BX.base_VE ?q1 ?q2; (case q1 => k_is); (case q2 => rfl))
    (case yi_BadSharing => k_is)
    (case yb_BadSharing => kernel_rfl)
    (case lk_BadBand => refine' L3.clsLkG_of PySem.BX.base_VE ?q1 ?q2; (case q1 => k_is); (case q2 => rfl))
    (case yi_BadBand => k_is)
    (case yb_BadBand => kernel_rfl)
    (case ye_NotPlain => kernel_rfl)
    (case yq_NotPlain => k_is)
    (case yo_NotPlain => kernel_rfl)
    (case lk_Future => refine' L3.clsLkG_of PySem.BX.base_VE ?q1 ?q2; (case q1 => k_is); (case q2 => rfl))
    (case yi_Future => k_is)
    (case yb_Future => kernel_rfl)
    (case yb_Short => kernel_rfl)
    (case lk_BadValue => refine' L3.clsLkG_of PySem.BX.base_VE ?q1 ?q2; (case q1 => k_is); (case q2 => rfl))
    (case yi_BadValue => k_is)
    (case yb_BadValue => kernel_rfl)
    (case lk_BadState => refine' L3.clsLkG_of PySem.BX.base_VE ?q1 ?q2; (case q1 => k_is); (case q2 => rfl))
    (case yi_BadState => k_is)
    (case yb_BadState => kernel_rfl)
    (case lk_BadCount => refine' L3.clsLkG_of PySem.BX.base_VE ?q1 ?q2; (case q1 => k_is); (case q2 => rfl))
    (case yi_BadCount => k_is)
    (case yb_BadCount => kernel_rfl)
    (case lk_BadDeed => refine' L3.clsLkG_of PySem.BX.base_VE ?q1 ?q2; (case q1 => k_is); (case q2 => rfl))
    (case yi_BadDeed => k_is)
    (case yb_BadDeed => kernel_rfl)
    (case lk_UnknownName => refine' L3.clsLkG_of PySem.BX.base_LE ?q1 ?q2; (case q1 => k_is); (case q2 => rfl))
    (case yi_UnknownName => k_is)
    (case yb_UnknownName => kernel_rfl)
    (case lk_UnknownChannel => refine' L3.clsLkG_of PySem.BX.base_LE ?q1 ?q2; (case q1 => k_is); (case q2 => rfl))
    (case yi_UnknownChannel => k_is)
    (case yb_UnknownChannel => kernel_rfl)
    (case yb_UnknownHop => kernel_rfl)
    (case lk_NoSuchLetter => refine' L3.clsLkG_of PySem.BX.base_LE ?q1 ?q2; (case q1 => k_is); (case q2 => rfl))
    (case yi_NoSuchLetter => k_is)
    (case yb_NoSuchLetter => kernel_rfl)
    (case lk_NoSuchTick => refine' L3.clsLkG_of PySem.BX.base_LE ?q1 ?q2; (case q1 => k_is); (case q2 => rfl))
    (case yi_NoSuchTick => k_is)
    (case yb_NoSuchTick => kernel_rfl)
    (case yb_Started => kernel_rfl)
    (case lk_NotStrange => refine' L3.clsLkG_of PySem.BX.base_RE ?q1 ?q2; (case q1 => k_is); (case q2 => rfl))
    (case yi_NotStrange => k_is)
    (case yb_NotStrange => kernel_rfl)
    (case lk_NotShaky => refine' L3.clsLkG_of PySem.BX.base_RE ?q1 ?q2; (case q1 => k_is); (case q2 => rfl))
    (case yi_NotShaky => k_is)
    (case yb_NotShaky => kernel_rfl)
    (case lk_Unseen => refine' L3.clsLkG_of PySem.BX.base_RE ?q1 ?q2; (case q1 => k_is); (case q2 => rfl))
    (case yi_Unseen => k_is)
    (case yb_Unseen => kernel_rfl)
    (case yt_UnknownName => kernel_rfl)
    (case yt_UnknownChannel => kernel_rfl)
    (case yt_UnknownHop => kernel_rfl)
    (case yt_NoSuchLetter => kernel_rfl)
    (case yt_NoSuchTick => kernel_rfl)
    (case yt_Started => kernel_rfl)
    (case yt_NotStrange => kernel_rfl)
    (case yt_NotShaky => kernel_rfl)
    (case yt_Unseen => kernel_rfl)
    (case yt_BadManner => kernel_rfl)
    (case yt_BadCapacity => kernel_rfl)
    (case yt_BadSharing => kernel_rfl)
    (case yt_BadBand => kernel_rfl)
    (case yt_NotPlain => kernel_rfl)
    (case yt_Future => kernel_rfl)
    (case yt_Short => kernel_rfl)
    (case yt_BadValue => kernel_rfl)
    (case yt_BadState => kernel_rfl)
    (case yt_BadCount => kernel_rfl)
    (case yt_BadDeed => kernel_rfl)
    (case yt_BadAmount => kernel_rfl)
    (case yt_BadLink => kernel_rfl)
    (case yt_BadFlow => kernel_rfl)
    (case yt_BadAge => kernel_rfl)
    (case yt_BadPart => kernel_rfl)
    (case yt_TooMany => kernel_rfl)
    (case yt_DuplicateName => kernel_rfl)
    (case yt_Idle => kernel_rfl)
    (case yt_Overpromised => kernel_rfl)
    (case yt_Small => kernel_rfl)
    (case yt_BadText => kernel_rfl)
    (case yt_BandError => kernel_rfl)
    (case yt_Missing => kernel_rfl)
    (case yt_Refused => kernel_rfl)
    (case yt_ValueError => kernel_rfl)
    (case yt_LookupError => kernel_rfl)
    (case yt_RuntimeError => kernel_rfl)
    (case yx_law_taken => kernel_rfl)
    (case l_Started_init => k_is)
    (case co_Started_init => k_is)
    (case kp_Started_init => k_is)
    (case l_UnknownHop_init => k_is)
    (case co_UnknownHop_init => k_is)
    (case kp_UnknownHop_init => k_is)
    (case l_Short_init => k_is)
    (case co_Short_init => k_is)
    (case kp_Short_init => k_is)
    (case l_BadAmount_init => k_is)
    (case co_BadAmount_init => k_is)
    (case kp_BadAmount_init => k_is)
    (case l_BadLink_init => k_is)
    (case co_BadLink_init => k_is)
    (case kp_BadLink_init => k_is)
    (case l_BadFlow_init => k_is)
    (case co_BadFlow_init => k_is)
    (case kp_BadFlow_init => k_is)
    (case l_BadAge_init => k_is)
    (case co_BadAge_init => k_is)
    (case kp_BadAge_init => k_is)
    (case l_BadPart_init => k_is)
    (case co_BadPart_init => k_is)
    (case kp_BadPart_init => k_is)
    (case l_TooMany_init => k_is)
    (case co_TooMany_init => k_is)
    (case kp_TooMany_init => k_is)
    (case l_DuplicateName_init => k_is)
    (case co_DuplicateName_init => k_is)
    (case kp_DuplicateName_init => k_is)
    (case l_Idle_init => k_is)
    (case co_Idle_init => k_is)
    (case kp_Idle_init => k_is)
    (case l_Overpromised_init => k_is)
    (case co_Overpromised_init => k_is)
    (case kp_Overpromised_init => k_is)
    (case l_Small_init => k_is)
    (case co_Small_init => k_is)
    (case kp_Small_init => k_is)
    (case l_BadText_init => k_is)
    (case co_BadText_init => k_is)
    (case kp_BadText_init => k_is)
    (case l_BadManner_init => k_is)
    (case co_BadManner_init => k_is)
    (case kp_BadManner_init => k_is)
    (case l_BadCapacity_init => k_is)
    (case co_BadCapacity_init => k_is)
    (case kp_BadCapacity_init => k_is)
    (case l_BadSharing_init => k_is)
    (case co_BadSharing_init => k_is)
    (case kp_BadSharing_init => k_is)
    (case l_BadBand_init => k_is)
    (case co_BadBand_init => k_is)
    (case kp_BadBand_init => k_is)
    (case l_Future_init => k_is)
    (case co_Future_init => k_is)
    (case kp_Future_init => k_is)
    (case l_BadValue_init => k_is)
    (case co_BadValue_init => k_is)
    (case kp_BadValue_init => k_is)
    (case l_BadState_init => k_is)
    (case co_BadState_init => k_is)
    (case kp_BadState_init => k_is)
    (case l_BadCount_init => k_is)
    (case co_BadCount_init => k_is)
    (case kp_BadCount_init => k_is)
    (case l_BadDeed_init => k_is)
    (case co_BadDeed_init => k_is)
    (case kp_BadDeed_init => k_is)
    (case l_UnknownName_init => k_is)
    (case co_UnknownName_init => k_is)
    (case kp_UnknownName_init => k_is)
    (case l_UnknownChannel_init => k_is)
    (case co_UnknownChannel_init => k_is)
    (case kp_UnknownChannel_init => k_is)
    (case l_NoSuchLetter_init => k_is)
    (case co_NoSuchLetter_init => k_is)
    (case kp_NoSuchLetter_init => k_is)
    (case l_NoSuchTick_init => k_is)
    (case co_NoSuchTick_init => k_is)
    (case kp_NoSuchTick_init => k_is)
    (case l_NotStrange_init => k_is)
    (case co_NotStrange_init => k_is)
    (case kp_NotStrange_init => k_is)
    (case l_NotShaky_init => k_is)
    (case co_NotShaky_init => k_is)
    (case kp_NotShaky_init => k_is)
    (case l_Unseen_init => k_is)
    (case co_Unseen_init => k_is)
    (case kp_Unseen_init => k_is)
    (case a_law_bag => k_is)
    (case l_law_bag => k_is)
    (case co_law_bag => k_is)
    (case kp_law_bag => k_is)
    (case a_law_draw => k_is)
    (case l_law_draw => k_is)
    (case co_law_draw => k_is)
    (case kp_law_draw => k_is)
    (case a_law_of => k_is)
    (case l_law_of => k_is)
    (case co_law_of => k_is)
    (case kp_law_of => k_is)
    (case a_law_taken => k_is)
    (case l_law_taken => k_is)
    (case co_law_taken => k_is)
    (case kp_law_taken => k_is)
    (case a_law_last_made => k_is)
    (case l_law_last_made => k_is)
    (case co_law_last_made => k_is)
    (case kp_law_last_made => k_is)
    (case a_law_like => k_is)
    (case l_law_like => k_is)
    (case co_law_like => k_is)
    (case kp_law_like => k_is)
    (case a_law_odd => k_is)
    (case l_law_odd => k_is)
    (case co_law_odd => k_is)
    (case kp_law_odd => k_is)
    (case a_law_word => k_is)
    (case l_law_word => k_is)
    (case co_law_word => k_is)
    (case kp_law_word => k_is)
    (case a_law_pair => k_is)
    (case l_law_pair => k_is)
    (case co_law_pair => k_is)
    (case kp_law_pair => k_is)
    (case a_law_wide => k_is)
    (case l_law_wide => k_is)
    (case co_law_wide => k_is)
    (case kp_law_wide => k_is)
    (case a_law_great => k_is)
    (case l_law_great => k_is)
    (case co_law_great => k_is)
    (case kp_law_great => k_is)
    (case a_law_amount => k_is)
    (case l_law_amount => k_is)
    (case co_law_amount => k_is)
    (case kp_law_amount => k_is)
    (case a_law_first_made => k_is)
    (case l_law_first_made => k_is)
    (case co_law_first_made => k_is)
    (case kp_law_first_made => k_is)
    (case a_law_middle_made => k_is)
    (case l_law_middle_made => k_is)
    (case co_law_middle_made => k_is)
    (case kp_law_middle_made => k_is)
    (case a_law_last_ones => k_is)
    (case l_law_last_ones => k_is)
    (case co_law_last_ones => k_is)
    (case kp_law_last_ones => k_is)
    (case a_law_middle_ones => k_is)
    (case l_law_middle_ones => k_is)
    (case co_law_middle_ones => k_is)
    (case kp_law_middle_ones => k_is)
    (case a_law_first_ones => k_is)
    (case l_law_first_ones => k_is)
    (case co_law_first_ones => k_is)
    (case kp_law_first_ones => k_is)
    (case a_law_known => k_is)
    (case l_law_known => k_is)
    (case co_law_known => k_is)
    (case kp_law_known => k_is)
    (case a_law_rows_so => k_is)
    (case l_law_rows_so => k_is)
    (case co_law_rows_so => k_is)
    (case kp_law_rows_so => k_is)
    (case a_law_thrown => k_is)
    (case l_law_thrown => k_is)
    (case co_law_thrown => k_is)
    (case kp_law_thrown => k_is)
    (case a_law_missed => k_is)
    (case l_law_missed => k_is)
    (case co_law_missed => k_is)
    (case kp_law_missed => k_is)
    (case a_law_refused => k_is)
    (case l_law_refused => k_is)
    (case co_law_refused => k_is)
    (case kp_law_refused => k_is)
    (case a_law => k_is)
    (case l_law => k_is)
    (case co_law => k_is)
    (case kp_law => k_is)
    (case z_int => k_is)
    (case z_list => k_is)
    (case z_len => k_is)
    (case z_isinstance => k_is)
    (case z_tuple => k_is)
    (case z_all => k_is)
    (case z_zip => k_is)
    (case z_bool => k_is)
    (case z_str => k_is)
    (case z_range => k_is)
    (case z_max => k_is)
    (case z_ValueError => k_is)
    (case z_LookupError => k_is)
    (case z_RuntimeError => k_is)
    (case z_sorted => k_is)
    (case tb_law => exact (PySem.W.tab_of (x := "law") (c := 791) (P := 787) GG.T KX rfl (by kernel_rfl)).2)
    (case tn_law => kernel_rfl)
    (case tc_law => exact (PySem.W.tab_of (x := "law") (c := 791) (P := 787) GG.T KX rfl (by kernel_rfl)).1)
    (case te_law => rfl)
    (case hnd => decide)
end K70
end
section
/-! L3: a layer over HandS: tuples and never-changed lists are values; memory holds only what may change. -/
namespace L3
open PySem L2
inductive D where
  | non | bl (b : Bool) | int (i : Int) | str (x : Str) | tup (ds : List D) | lst (ds : List D) | ref (a : Addr)
/-- what grows: the facts that never cease (tuples, lists that are never changed) -/
def Sub (G G' : Hp) : Prop := ∀ a o, G a = some o → G' a = some o
theorem Sub.refl (G : Hp) : Sub G G := fun _ _ h => h
theorem Sub.trans {G G1 G2 : Hp} (a : Sub G G1) (b : Sub G1 G2) : Sub G G2 := fun x o h => b x o (a x o h)
theorem Sub.new {G : Hp} {p : Addr} {o : HO} (h : G p = none) : Sub G (upd G p o) := fun a u e => by
  rw [upd_ne (ne_of_none e h)]; exact e
theorem Sub.rd {G G' : Hp} (e : Sub G G') {a : Addr} {u : HO} (h : Rd G a u) : Rd G' a u := by
  rcases h with h | ⟨o, h⟩
  · exact .inl (e a _ h)
  · exact .inr ⟨o, e a _ h⟩
theorem Sub.l {K : PySem.W.Frag} {G G' : Hp} (e : Sub G G') {a : Addr} {xs : List V} (h : SqL K G a xs) : SqL K G' a xs := by
  rcases h with h | h
  · exact .inl (e.rd h)
  · exact .inr h
theorem Sub.t {K : PySem.W.Frag} {G G' : Hp} (e : Sub G G') {a : Addr} {xs : List V} (h : SqT K G a xs) : SqT K G' a xs := by
  rcases h with h | h
  · exact .inl (e.rd h)
  · exact .inr h
section
variable (K : PySem.W.Frag) (G : Hp)
mutual
/-- the value of V that a datum stands for -/
def RV : D → V → Prop
  | .non, v => v = .non
  | .bl b, v => v = .bl b
  | .int i, v => v = .int i
  | .str x, v => v = .str x
  | .ref a, v => v = .ref a
  | .tup ds, v => ∃ a xs, v = .ref a ∧ SqT K G a xs ∧ RVs ds xs
  | .lst ds, v => ∃ a xs, v = .ref a ∧ SqL K G a xs ∧ RVs ds xs
def RVs : List D → List V → Prop
  | [], xs => xs = []
  | d :: ds, xs => ∃ x r, xs = x :: r ∧ RV d x ∧ RVs ds r
end
end
section
variable {K : PySem.W.Frag} {G G' : Hp}
mutual
theorem RV.mono (e : Sub G G') : ∀ (d : D) {v : V}, RV K G d v → RV K G' d v
  | .non, _, h => h
  | .bl _, _, h => h
  | .int _, _, h => h
  | .str _, _, h => h
  | .ref _, _, h => h
  | .tup ds, _, ⟨a, xs, h1, h2, h3⟩ => ⟨a, xs, h1, e.t h2, RVs.mono e ds h3⟩
  | .lst ds, _, ⟨a, xs, h1, h2, h3⟩ => ⟨a, xs, h1, e.l h2, RVs.mono e ds h3⟩
theorem RVs.mono (e : Sub G G') : ∀ (ds : List D) {xs : List V}, RVs K G ds xs → RVs K G' ds xs
  | [], _, h => h
  | d :: ds, _, ⟨x, r, h1, h2, h3⟩ => ⟨x, r, h1, RV.mono e d h2, RVs.mono e ds h3⟩
end
theorem RVs.length : ∀ {ds : List D} {xs : List V}, RVs K G ds xs → ds.length = xs.length
  | [], _, h => by rw [show _ = [] from h]; rfl
  | d :: ds, _, ⟨x, r, h1, h2, h3⟩ => by rw [h1, List.length_cons, List.length_cons, RVs.length h3]
theorem RVs.nil : RVs K G [] [] := rfl
theorem RVs.cons {d : D} {ds : List D} {x : V} {xs : List V} (h : RV K G d x) (t : RVs K G ds xs) : RVs K G (d :: ds) (x :: xs) := ⟨x, xs, rfl, h, t⟩
theorem RVs.get : ∀ {ds : List D} {xs : List V} {i : Nat} {d : D}, RVs K G ds xs → ds[i]? = some d → ∃ x, xs[i]? = some x ∧ RV K G d x
  | [], _, _, _, _, e => by simp at e
  | _ :: _, _, 0, d, ⟨x, r, h1, h2, h3⟩, e => by
    have e : _ = d := Option.some.inj e
    subst e; subst h1
    exact ⟨x, rfl, h2⟩
  | _ :: _, _, i + 1, d, ⟨x, r, h1, h2, h3⟩, e => by
    subst h1
    exact RVs.get (i := i) h3 e
theorem RVs.getV : ∀ {ds : List D} {xs : List V} {i : Nat} {x : V}, RVs K G ds xs → xs[i]? = some x → ∃ d, ds[i]? = some d ∧ RV K G d x
  | [], _, _, _, h, e => by rw [show _ = [] from h] at e; simp at e
  | d :: _, _, 0, y, ⟨x, r, h1, h2, h3⟩, e => by
    subst h1
    have e : x = y := Option.some.inj e
    subst e
    exact ⟨d, rfl, h2⟩
  | _ :: _, _, i + 1, _, ⟨x, r, h1, h2, h3⟩, e => by
    subst h1
    exact RVs.getV (i := i) h3 e
theorem RVs.append : ∀ {ds es : List D} {xs ys : List V}, RVs K G ds xs → RVs K G es ys → RVs K G (ds ++ es) (xs ++ ys)
  | [], _, _, _, h, t => by rw [show _ = [] from h]; exact t
  | _ :: _, _, _, _, ⟨x, r, h1, h2, h3⟩, t => by subst h1; exact ⟨x, _, rfl, h2, RVs.append h3 t⟩
theorem RVs.one {d : D} {x : V} (h : RV K G d x) : RVs K G [d] [x] := RVs.cons h RVs.nil
theorem RVs.take : ∀ {ds : List D} {xs : List V} (n : Nat), RVs K G ds xs → RVs K G (ds.take n) (xs.take n)
  | _, _, 0, _ => rfl
  | [], _, _ + 1, h => by rw [show _ = [] from h]; rfl
  | _ :: _, _, n + 1, ⟨x, r, h1, h2, h3⟩ => by subst h1; exact ⟨x, _, rfl, h2, RVs.take n h3⟩
theorem RVs.drop : ∀ {ds : List D} {xs : List V} (n : Nat), RVs K G ds xs → RVs K G (ds.drop n) (xs.drop n)
  | _, _, 0, h => h
  | [], _, _ + 1, h => by rw [show _ = [] from h]; rfl
  | _ :: _, _, n + 1, ⟨x, r, h1, h2, h3⟩ => by subst h1; exact RVs.drop n h3
theorem RVs.set {d : D} {x : V} (r : RV K G d x) : ∀ {ds : List D} {xs : List V} (i : Nat), RVs K G ds xs → RVs K G (ds.set i d) (xs.set i x)
  | [], _, _, h => by rw [show _ = [] from h]; rfl
  | _ :: _, _, 0, ⟨y, q, h1, h2, h3⟩ => by subst h1; exact ⟨x, _, rfl, r, h3⟩
  | _ :: _, _, i + 1, ⟨y, q, h1, h2, h3⟩ => by subst h1; exact ⟨y, _, rfl, h2, RVs.set r i h3⟩
theorem RVs.of_ints : ∀ (ns : List Int), RVs K G (ns.map D.int) (ns.map V.int)
  | [] => rfl
  | n :: ns => ⟨_, _, rfl, rfl, RVs.of_ints ns⟩
theorem RVs.bls : ∀ {ns : List Bool} {xs : List V}, RVs K G (ns.map D.bl) xs → xs = ns.map V.bl
  | [], _, h => h
  | n :: ns, _, ⟨x, r, h1, h2, h3⟩ => by
    subst h1
    rw [show x = V.bl n from h2, RVs.bls h3]; rfl
theorem RVs.strs : ∀ {ns : List Str} {xs : List V}, RVs K G (ns.map D.str) xs → xs = ns.map V.str
  | [], _, h => h
  | n :: ns, _, ⟨x, r, h1, h2, h3⟩ => by
    subst h1
    rw [show x = V.str n from h2, RVs.strs h3]; rfl
end
/-- what may change, as it stands at an address -/
inductive AO where
  | lst (ds : List D)
  | dK (kvs : List (Key × D))
  | dT (kvs : List (List Key × D))
  | ins (C : Addr) (fs : List (Str × D))
  /-- a list of which just P is known -/
  | any (P : List D → Prop)
  /-- a dict that is walked -/
  | fz (kvs : List (Key × D))
  | fzT (kvs : List (List Key × D))
  /-- the fields of an exception that was made -/
  | xd (fs : List (Str × D))
  /-- a def's table of code objects, each of the name q -/
  | tab (q : Str)
  /-- an exception that is held as a value, at a: its class, its own dict -/
  | exc (a : Addr) (cls : Value) (od : Option Addr)
  /-- a thing of another kind, as HandS has it -/
  | raw (u : HO)
/-- at a: an exception of that class, with that dict -/
def exk (a : Addr) (cls : Value) (d : Option Addr) : HO := .ext fun h => ∃ (oe : Obj) (vs : Array Value), h.get? a = some oe ∧ oe.cls = cls ∧ oe.dict = d ∧ oe.data = .fields vs
section
variable (K : PySem.W.Frag) (G : Hp)
/-- pairs of the same keys -/
def RKs {κ : Type} : List (κ × D) → List (κ × V) → Prop
  | [], xs => xs = []
  | p :: ds, xs => ∃ x r, xs = (p.1, x) :: r ∧ RV K G p.2 x ∧ RKs ds r
def RO : AO → HO → Prop
  | .lst ds, u => ∃ xs, u = .lst xs ∧ RVs K G ds xs
  | .any P, u => ∃ ds xs, P ds ∧ u = .lst xs ∧ RVs K G ds xs
  | .dK ks, u => ∃ xs, u = .dK xs ∧ RKs K G ks xs
  | .dT ks, u => ∃ xs, u = .dT xs ∧ RKs K G ks xs
  | .ins C fs, u => ∃ dx xs, u = .ins C dx xs ∧ RKs K G fs xs
  | .fz ks, u => ∃ o xs, u = .frz o (.dK xs) ∧ RKs K G ks xs
  | .fzT ks, u => ∃ o xs, u = .frz o (.dT xs) ∧ RKs K G ks xs
  | .xd fs, u => ∃ xs, u = .xd xs ∧ RKs K G fs xs
  | .tab q, u => ∃ ps : Array Value, u = .tbl ps ∧ TriplesOk ps.toList ∧ ∀ (pos : Pos) (cv : Value), codeAmong pos ps.toList = some cv → ∃ c, cv = .ref c ∧ G c = some (LamX.CodeO c q)
  | .exc a cls od, u => u = exk a cls od
  | .raw u', u => u = u' ∧ ∀ c q, u' ≠ LamX.CodeO c q
end
section
variable {K : PySem.W.Frag} {G G' : Hp} {κ : Type}
theorem RKs.mono (e : Sub G G') : ∀ {ds : List (κ × D)} {xs : List (κ × V)}, RKs K G ds xs → RKs K G' ds xs
  | [], _, h => h
  | p :: ds, _, ⟨x, r, h1, h2, h3⟩ => ⟨x, r, h1, RV.mono e _ h2, RKs.mono e h3⟩
theorem RO.mono (e : Sub G G') : ∀ {o : AO} {u : HO}, RO K G o u → RO K G' o u
  | .lst ds, _, ⟨xs, h1, h2⟩ => ⟨xs, h1, RVs.mono e _ h2⟩
  | .any P, _, ⟨ds, xs, h0, h1, h2⟩ => ⟨ds, xs, h0, h1, RVs.mono e _ h2⟩
  | .dK ds, _, ⟨xs, h1, h2⟩ => ⟨xs, h1, RKs.mono e h2⟩
  | .dT ds, _, ⟨xs, h1, h2⟩ => ⟨xs, h1, RKs.mono e h2⟩
  | .ins C fs, _, ⟨dx, xs, h1, h2⟩ => ⟨dx, xs, h1, RKs.mono e h2⟩
  | .fz ds, _, ⟨o, xs, h1, h2⟩ => ⟨o, xs, h1, RKs.mono e h2⟩
  | .fzT ds, _, ⟨o, xs, h1, h2⟩ => ⟨o, xs, h1, RKs.mono e h2⟩
  | .xd ds, _, ⟨xs, h1, h2⟩ => ⟨xs, h1, RKs.mono e h2⟩
  | .tab q, _, ⟨ps, h1, h2, h3⟩ => ⟨ps, h1, h2, fun pos cv h => let ⟨c, e1, e2⟩ := h3 pos cv h; ⟨c, e1, e c _ e2⟩⟩
  | .exc _ _ _, _, h => h
  | .raw _, _, h => h
theorem RKs.length : ∀ {ds : List (κ × D)} {xs : List (κ × V)}, RKs K G ds xs → ds.length = xs.length
  | [], _, h => by rw [show _ = [] from h]; rfl
  | _ :: _, _, ⟨x, r, h1, h2, h3⟩ => by rw [h1, List.length_cons, List.length_cons, RKs.length h3]
theorem RKs.append : ∀ {ds es : List (κ × D)} {xs ys : List (κ × V)}, RKs K G ds xs → RKs K G es ys → RKs K G (ds ++ es) (xs ++ ys)
  | [], _, _, _, h, t => by rw [show _ = [] from h]; exact t
  | _ :: _, _, _, _, ⟨x, r, h1, h2, h3⟩, t => by subst h1; exact ⟨x, _, rfl, h2, RKs.append h3 t⟩
end
/-! ### dicts and fields by keys -/
section
variable {κ : Type} [DecidableEq κ]
def valD (kvs : List (κ × D)) (k : κ) : Option D := (kvs.find? fun kv => decide (kv.1 = k)).map (·.2)
def putD (kvs : List (κ × D)) (k : κ) (v : D) : List (κ × D) :=
  if (kvs.any fun kv => decide (kv.1 = k)) = true then kvs.map (fun kv => if kv.1 = k then (kv.1, v) else kv) else kvs ++ [(k, v)]
def dropD (kvs : List (κ × D)) (k : κ) : List (κ × D) := kvs.filter fun kv => decide (kv.1 ≠ k)
end
def RVo (K : PySem.W.Frag) (G : Hp) : Option D → Option V → Prop
  | some d, some v => RV K G d v
  | none, none => True
  | _, _ => False
section
variable {K : PySem.W.Frag} {G : Hp} {κ : Type} [DecidableEq κ]
theorem RKs.val (k : κ) : ∀ {ds : List (κ × D)} {xs : List (κ × V)}, RKs K G ds xs → RVo K G (valD ds k) (valV xs k)
  | [], _, h => by rw [show _ = [] from h]; trivial
  | p :: ds, _, ⟨x, r, h1, h2, h3⟩ => by
    subst h1
    have ih := RKs.val k h3
    by_cases e : p.1 = k
    · unfold valD valV
      rw [List.find?_cons_of_pos (by simp [e]), List.find?_cons_of_pos (by simp [e])]
      exact h2
    · unfold valD valV at ih ⊢
      rw [List.find?_cons_of_neg (by simp [e]), List.find?_cons_of_neg (by simp [e])]
      exact ih
theorem RVo.some {d : D} {o : Option V} (h : RVo K G (some d) o) : ∃ v, o = some v ∧ RV K G d v := by
  cases o with
  | none => exact h.elim
  | some v => exact ⟨v, rfl, h⟩
theorem RKs.any (f : κ → Bool) : ∀ {ds : List (κ × D)} {xs : List (κ × V)}, RKs K G ds xs → (ds.any fun kv => f kv.1) = (xs.any fun kv => f kv.1)
  | [], _, h => by rw [show _ = [] from h]; rfl
  | p :: ds, _, ⟨x, r, h1, h2, h3⟩ => by
    subst h1
    rw [List.any_cons, List.any_cons, RKs.any f h3]
theorem RKs.rep (k : κ) {d : D} {v : V} (r : RV K G d v) : ∀ {ds : List (κ × D)} {xs : List (κ × V)}, RKs K G ds xs → RKs K G (ds.map fun kv => if kv.1 = k then (kv.1, d) else kv) (xs.map fun kv => if kv.1 = k then (kv.1, v) else kv)
  | [], _, h => by rw [show _ = [] from h]; rfl
  | p :: ds, _, ⟨x, q, h1, h2, h3⟩ => by
    subst h1
    have ih := RKs.rep k r h3
    rw [List.map_cons, List.map_cons]
    by_cases e : p.1 = k
    · rw [if_pos e, if_pos e]; exact ⟨v, _, rfl, r, ih⟩
    · rw [if_neg e, if_neg e]; exact ⟨x, _, rfl, h2, ih⟩
theorem RKs.put (k : κ) {d : D} {v : V} (r : RV K G d v) {ds : List (κ × D)} {xs : List (κ × V)} (h : RKs K G ds xs) : RKs K G (putD ds k d) (putK xs k v) := by
  unfold putD putK
  rw [RKs.any (fun z => decide (z = k)) h]
  split
  · exact RKs.rep k r h
  · exact RKs.append h ⟨v, [], rfl, r, rfl⟩
end
/-- fields -/
def putFD (f : Str) (v : D) : List (Str × D) → List (Str × D)
  | [] => [(f, v)]
  | (g, x) :: r => if g = f then (g, v) :: r else (g, x) :: putFD f v r
theorem RKs.lookup {K : PySem.W.Frag} {G : Hp} (f : Str) : ∀ {ds : List (Str × D)} {xs : List (Str × V)}, RKs K G ds xs → RVo K G (ds.lookup f) (xs.lookup f)
  | [], _, h => by rw [show _ = [] from h]; trivial
  | p :: ds, _, ⟨x, q, h1, h2, h3⟩ => by
    subst h1
    have ih := RKs.lookup f h3
    obtain ⟨g, y⟩ := p
    rw [List.lookup_cons, List.lookup_cons]
    show RVo K G (match f == g with | true => some y | false => List.lookup f ds) (match f == g with | true => some x | false => List.lookup f q)
    cases f == g with
    | true => exact h2
    | false => exact ih
/-! ### the state -/
abbrev Mem := Addr → Option AO
abbrev DSt := List (Option D)
def mset (m : Mem) (a : Addr) (o : AO) : Mem := fun b => if b = a then some o else m b
def mdel (m : Mem) (a : Addr) : Mem := fun b => if b = a then none else m b
theorem mset_same {m : Mem} {a : Addr} {o : AO} : mset m a o a = some o := if_pos rfl
theorem mset_ne {m : Mem} {a b : Addr} {o : AO} (h : b ≠ a) : mset m a o b = m b := if_neg h
theorem mset_mset {m : Mem} {a : Addr} {o u : AO} : mset (mset m a o) a u = mset m a u := by
  funext b; unfold mset; split <;> rfl
theorem mdel_same {m : Mem} {a : Addr} : mdel m a a = none := if_pos rfl
theorem mdel_ne {m : Mem} {a b : Addr} (h : b ≠ a) : mdel m a b = m b := if_neg h
theorem mdel_mset {m : Mem} {a : Addr} {o : AO} (h : m a = none) : mdel (mset m a o) a = m := by
  funext b; unfold mdel mset; split
  · rename_i e; rw [e, h]
  · rfl
theorem mne {m : Mem} {a b : Addr} {o : AO} (h : m a = some o) (h' : m b = none) : a ≠ b := by
  intro e; subst e; rw [h] at h'; cases h'
/-- what is walked stands among the facts; what may change does not -/
def GC (o : AO) (g h : Option HO) : Prop := match o with
  | .fz _ => g = h
  | .fzT _ => g = h
  | _ => g = none
def NF (o : AO) : Prop := match o with
  | .fz _ => False
  | .fzT _ => False
  | _ => True
theorem GC.none_ {o : AO} {g h : Option HO} (n : NF o) (c : GC o g h) : g = none := by cases o <;> first | exact c | exact n.elim
theorem NF.gc {o : AO} {h : Option HO} (n : NF o) : GC o none h := by cases o <;> first | exact rfl | exact n.elim
structure RelM (K : PySem.W.Frag) (m : Mem) (G H : Hp) : Prop where
  sub : Sub G H
  mem : ∀ a o, m a = some o → GC o (G a) (H a) ∧ ∃ u, H a = some u ∧ RO K G o u
structure RelS (K : PySem.W.Frag) (s : DSt) (G : Hp) (σ : St) : Prop where
  len : s.length = σ.length
  loc : ∀ (i : Nat) (d : D), s[i]? = some (some d) → ∃ v, σ[i]? = some (some v) ∧ RV K G d v
section
variable {K : PySem.W.Frag} {s : DSt} {m m' : Mem} {G G' H H' : Hp} {σ : St} {a p : Addr} {o : AO} {u : HO} {d : D} {v : V}
theorem RelS.mono (r : RelS K s G σ) (e : Sub G G') : RelS K s G' σ := ⟨r.len, fun i d h => let ⟨v, h1, h2⟩ := r.loc i d h; ⟨v, h1, RV.mono e d h2⟩⟩
theorem RelS.set (r : RelS K s G σ) (i : Nat) (h : RV K G d v) : RelS K (s.set i (some d)) G (σ.set i (some v)) := by
  refine ⟨by rw [List.length_set, List.length_set]; exact r.len, fun j e hj => ?_⟩
  rw [List.getElem?_set] at hj
  rw [List.getElem?_set]
  split at hj
  · rename_i e1
    subst e1
    split at hj
    · rename_i h2
      have hj : d = e := Option.some.inj (Option.some.inj hj)
      subst hj
      rw [if_pos rfl, if_pos (by rw [← r.len]; exact h2)]
      exact ⟨v, rfl, h⟩
    · cases hj
  · rename_i e1
    rw [if_neg e1]
    exact r.loc j e hj
/-- a thing that may change is laid -/
theorem RelM.new (r : RelM K m G H) (hp : H p = none) (h : RO K G o u) (n : NF o := by exact trivial) : RelM K (mset m p o) G (upd H p u) := by
  have gp : G p = none := by
    cases e : G p with
    | none => rfl
    | some w => have := r.sub p w e; rw [hp] at this; cases this
  refine ⟨fun a w e => by rw [upd_ne (ne_of_none e gp)]; exact r.sub a w e, fun a w e => ?_⟩
  by_cases ha : a = p
  · subst ha
    rw [mset_same] at e; cases e
    rw [gp]
    exact ⟨n.gc, u, upd_same, h⟩
  · rw [mset_ne ha] at e
    obtain ⟨h1, w', h2, h3⟩ := r.mem a w e
    exact ⟨by rw [upd_ne ha]; exact h1, w', by rw [upd_ne ha]; exact h2, h3⟩
/-- a fact that never ceases is laid -/
theorem RelM.lay (r : RelM K m G H) (hp : H p = none) : RelM K m (upd G p u) (upd H p u) ∧ Sub G (upd G p u) := by
  have gp : G p = none := by
    cases e : G p with
    | none => rfl
    | some w => have := r.sub p w e; rw [hp] at this; cases this
  have s1 : Sub G (upd G p u) := Sub.new gp
  refine ⟨⟨fun a w e => ?_, fun a w e => ?_⟩, s1⟩
  · by_cases ha : a = p
    · subst ha; rw [upd_same] at e ⊢; exact e
    · rw [upd_ne ha] at e ⊢; exact r.sub a w e
  · obtain ⟨h1, w', h2, h3⟩ := r.mem a w e
    have ha : a ≠ p := ne_of_none h2 hp
    exact ⟨by rw [upd_ne ha, upd_ne ha]; exact h1, w', by rw [upd_ne ha]; exact h2, h3.mono s1⟩
/-- what may change is changed -/
theorem RelM.put (r : RelM K m G H) {o' : AO} (hm : m a = some o') (h : RO K G o u) (n : NF o := by exact trivial) (n' : NF o' := by exact trivial) : RelM K (mset m a o) G (upd H a u) := by
  obtain ⟨g, _⟩ := r.mem a o' hm
  have g := g.none_ n'
  refine ⟨fun b w e => by rw [upd_ne (fun z => by subst z; rw [g] at e; cases e)]; exact r.sub b w e, fun b w e => ?_⟩
  by_cases hb : b = a
  · subst hb
    rw [mset_same] at e; cases e
    rw [g]
    exact ⟨n.gc, u, upd_same, h⟩
  · rw [mset_ne hb] at e
    obtain ⟨h1, w', h2, h3⟩ := r.mem b w e
    exact ⟨by rw [upd_ne hb]; exact h1, w', by rw [upd_ne hb]; exact h2, h3⟩
theorem RelM.free (r : RelM K m G H) (hp : H p = none) : m p = none := by
  cases e : m p with
  | none => rfl
  | some o => obtain ⟨_, u, h, _⟩ := r.mem p o e; rw [hp] at h; cases h
/-- an untracked change of the heap at new places (a dict of an instance) -/
theorem RelM.frame (r : RelM K m G H) (h : ∀ a o, H a = some o → H' a = some o) : RelM K m G H' :=
  ⟨fun a o e => h a o (r.sub a o e), fun a o e => let ⟨h1, u, h2, h3⟩ := r.mem a o e; ⟨by rw [h2] at h1; rw [h a u h2]; exact h1, u, h a u h2, h3⟩⟩
/-- a list that is never changed any more -/
theorem RelM.freeze {ds : List D} (r : RelM K m G H) (hm : m a = some (.lst ds)) : ∃ G', Sub G G' ∧ RelM K (mdel m a) G' H ∧ RV K G' (.lst ds) (.ref a) := by
  obtain ⟨g, u, hu, xs, rfl, h⟩ := r.mem a _ hm
  have s1 : Sub G (upd G a (.lst xs)) := Sub.new g
  refine ⟨upd G a (.lst xs), s1, ⟨fun b w e => ?_, fun b w e => ?_⟩, a, xs, rfl, .inl (.inl upd_same), RVs.mono s1 _ h⟩
  · by_cases hb : b = a
    · subst hb; rw [upd_same] at e; rw [hu]; exact e
    · rw [upd_ne hb] at e; exact r.sub b w e
  · by_cases hb : b = a
    · subst hb; rw [mdel_same] at e; cases e
    · rw [mdel_ne hb] at e
      obtain ⟨h1, w', h2, h3⟩ := r.mem b w e
      exact ⟨by rw [upd_ne hb]; exact h1, w', h2, h3.mono s1⟩
end
def unl (G : Hp) (a : Addr) : Hp := fun b => if b = a then none else G b
-- what is walked: no fact about tuples and lists hangs on it
/-- m' tells less than m -/
def ALe : AO → AO → Prop
  | .lst ds, .any P => P ds
  | .any P, .any P' => ∀ ds, P ds → P' ds
  | o, o' => o = o'
def MLe (m m' : Mem) : Prop := ∀ a o', m' a = some o' → ∃ o, m a = some o ∧ (o = o' ∨ (∃ ds P, o = .lst ds ∧ o' = .any P ∧ P ds) ∨ ∃ P P', o = .any P ∧ o' = .any P' ∧ ∀ ds, P ds → P' ds)
theorem MLe.refl (m : Mem) : MLe m m := fun _ o h => ⟨o, h, .inl rfl⟩
theorem RelM.le {K : PySem.W.Frag} {m m' : Mem} {G H : Hp} (r : RelM K m G H) (h : MLe m m') : RelM K m' G H := ⟨r.sub, fun a o e => by
  obtain ⟨o', h1, h2⟩ := h a o e
  obtain ⟨g, u, hu, ho⟩ := r.mem a o' h1
  rcases h2 with rfl | ⟨ds, P, rfl, rfl, p⟩ | ⟨P, P', rfl, rfl, p⟩
  · exact ⟨g, u, hu, ho⟩
  · obtain ⟨xs, e1, e2⟩ := ho; exact ⟨g, u, hu, ds, xs, p, e1, e2⟩
  · obtain ⟨ds, xs, p0, e1, e2⟩ := ho; exact ⟨g, u, hu, ds, xs, p ds p0, e1, e2⟩⟩
theorem MLe.close {m : Mem} {a : Addr} {ds : List D} {P : List D → Prop} (hm : m a = some (.any P)) (p : P ds) : MLe (mset m a (.lst ds)) m := fun b o h => by
  by_cases hb : b = a
  · subst hb
    rw [hm] at h; cases h
    exact ⟨_, mset_same, .inr (.inl ⟨ds, P, rfl, rfl, p⟩)⟩
  · exact ⟨o, by rw [mset_ne hb]; exact h, .inl rfl⟩
theorem MLe.drop {m : Mem} {a : Addr} {o : AO} (hm : m a = none) : MLe (mset m a o) m := fun b u h => ⟨u, by rw [mset_ne (mne h hm)]; exact h, .inl rfl⟩
end L3
end
section
namespace L3
open PySem L2
/-! ### readings over data -/
abbrev DK := D → Mem → Prop
abbrev QE := DSt → Mem → DK → Prop
abbrev QT := DSt → Mem → (Bool → Mem → Prop) → Prop
abbrev QA := DSt → Mem → (List D → Mem → Prop) → Prop
/-- what is wanted of an exception: its class, its own fields -/
abbrev DX := Value → List (Str × D) → Mem → Prop
structure DE where
  nx : DSt → Mem → Prop
  rt : DK
  bk : DSt → Mem → Prop
  ct : DSt → Mem → Prop
abbrev QS := DE → DSt → Mem → Prop
abbrev LSp := List D → Mem → DK → Prop
abbrev LSpX := List D → Mem → DK → DX → Prop
section
variable (K : PySem.W.Frag)
def KQ (G : Hp) (Φ : DK) (Q : VK) : Prop := ∀ G' d m' v H', Sub G G' → RelM K m' G' H' → RV K G' d v → Φ d m' → Q v H'
def KB (G : Hp) (Φ : Bool → Mem → Prop) (Q : Bool → Hp → Prop) : Prop := ∀ G' b m' H', Sub G G' → RelM K m' G' H' → Φ b m' → Q b H'
def KA (G : Hp) (Φ : List D → Mem → Prop) (Q : List V → Hp → Prop) : Prop := ∀ G' ds m' vs H', Sub G G' → RelM K m' G' H' → RVs K G' ds vs → Φ ds m' → Q vs H'
def KS (G : Hp) (Φ : DSt → Mem → Prop) (Q : St → Hp → Prop) : Prop := ∀ G' s' m' σ' H', Sub G G' → RelM K m' G' H' → RelS K s' G' σ' → Φ s' m' → Q σ' H'
def KX (G : Hp) (Ψ : DX) (E : XK) : Prop := ∀ G' cls fs m' od H', Sub G G' → RelM K m' G' H' → ((od = none ∧ fs = []) ∨ ∃ d xs, od = some d ∧ H' d = some (.xd xs) ∧ RKs K G' fs xs) → Ψ cls fs m' → E cls od H'
def liftE (q : QE) : TE := fun σ H Q => ∃ G s m Φ, RelM K m G H ∧ RelS K s G σ ∧ q s m Φ ∧ KQ K G Φ Q
def liftT (q : QT) : TT := fun σ H Q => ∃ G s m Φ, RelM K m G H ∧ RelS K s G σ ∧ q s m Φ ∧ KB K G Φ Q
def liftA (q : QA) : TA := fun σ H Q => ∃ G s m Φ, RelM K m G H ∧ RelS K s G σ ∧ q s m Φ ∧ KA K G Φ Q
def liftS (q : QS) : TS := fun D σ H => ∃ (G : Hp) (s : DSt) (m : Mem) (E : DE), RelM K m G H ∧ RelS K s G σ ∧ q E s m ∧ KS K G E.nx D.nx ∧ KQ K G E.rt D.rt ∧ KS K G E.bk D.bk ∧ KS K G E.ct D.ct
def liftSp (sp : LSp) : Sp := fun vs H Q _ => ∃ G m ds Φ, RelM K m G H ∧ RVs K G ds vs ∧ sp ds m Φ ∧ KQ K G Φ Q
def liftSpX (sp : LSpX) : Sp := fun vs H Q E => ∃ G m ds Φ Ψ, RelM K m G H ∧ RVs K G ds vs ∧ sp ds m Φ Ψ ∧ KQ K G Φ Q ∧ KX K G Ψ E
def liftR (q : D → D → Mem → DK → Prop) : R2 := fun x y H Q => ∃ G m dx dy Φ, RelM K m G H ∧ RV K G dx x ∧ RV K G dy y ∧ q dx dy m Φ ∧ KQ K G Φ Q
def liftU (q : D → Mem → DK → Prop) : V → Hp → VK → Prop := fun x H Q => ∃ G m dx Φ, RelM K m G H ∧ RV K G dx x ∧ q dx m Φ ∧ KQ K G Φ Q
def liftTr (q : D → Mem → (Bool → Mem → Prop) → Prop) : V → Hp → (Bool → Hp → Prop) → Prop := fun x H Q => ∃ G m dx Φ, RelM K m G H ∧ RV K G dx x ∧ q dx m Φ ∧ KB K G Φ Q
def liftC (q : LSp) : List V → Hp → VK → Prop := fun vs H Q => ∃ G m ds Φ, RelM K m G H ∧ RVs K G ds vs ∧ q ds m Φ ∧ KQ K G Φ Q
def liftMt (q : D → LSp) : V → List V → Hp → VK → Prop := fun x vs H Q => ∃ G m dx ds Φ, RelM K m G H ∧ RV K G dx x ∧ RVs K G ds vs ∧ q dx ds m Φ ∧ KQ K G Φ Q
end
section
variable {K : PySem.W.Frag} {G G' : Hp}
theorem KQ.mono {Φ : DK} {Q : VK} (k : KQ K G Φ Q) (e : Sub G G') : KQ K G' Φ Q := fun G2 d m v H e2 => k G2 d m v H (e.trans e2)
theorem KB.mono {Φ : Bool → Mem → Prop} {Q : Bool → Hp → Prop} (k : KB K G Φ Q) (e : Sub G G') : KB K G' Φ Q := fun G2 d m H e2 => k G2 d m H (e.trans e2)
theorem KS.mono {Φ : DSt → Mem → Prop} {Q : St → Hp → Prop} (k : KS K G Φ Q) (e : Sub G G') : KS K G' Φ Q := fun G2 d m v H e2 => k G2 d m v H (e.trans e2)
end
/-! ### consequence -/
section
variable {X : Cx}
theorem pe_imp {e : Expr} {t t' : TE} (h : PE X e t) (i : ∀ σ H Q, t' σ H Q → t σ H Q) : PE X e t' := ⟨fun pins s σ H Q I w => h.run pins s σ H Q I (i σ H Q w)⟩
theorem pt_imp {e : Expr} {t t' : TT} (h : PT X e t) (i : ∀ σ H Q, t' σ H Q → t σ H Q) : PT X e t' := ⟨fun pins s σ H Q I w => h.run pins s σ H Q I (i σ H Q w)⟩
theorem pw_imp {e : Expr} {t t' : TT} (h : PW X e t) (i : ∀ σ H Q, t' σ H Q → t σ H Q) : PW X e t' := ⟨fun wh pins s σ H Q I w => h.run wh pins s σ H Q I (i σ H Q w)⟩
theorem pa_imp {e : List Expr} {t t' : TA} (h : PA X e t) (i : ∀ σ H Q, t' σ H Q → t σ H Q) : PA X e t' := ⟨fun pos pins s σ H Q I w => h.run pos pins s σ H Q I (i σ H Q w)⟩
theorem ps_imp {e : Stmt} {t t' : TS} (h : PS X e t) (i : ∀ D σ H, t' D σ H → t D σ H) : PS X e t' := ⟨fun pins s σ H D I w => h.run pins s σ H D I (i D σ H w)⟩
theorem pss_imp {e : List Stmt} {t t' : TS} (h : PSs X e t) (i : ∀ D σ H, t' D σ H → t D σ H) : PSs X e t' := ⟨fun pins s σ H D I w => h.run pins s σ H D I (i D σ H w)⟩
theorem op_imp {f : Value → Value → Sem Value} {r r' : R2} (h : OpR X f r) (i : ∀ x y H Q, r' x y H Q → r x y H Q) : OpR X f r' := fun pins s σ H x y v u Q I rx ry w => h pins s σ H x y v u Q I rx ry (i x y H Q w)
theorem call_imp {f : Value} {r r' : List V → Hp → VK → Prop} (h : CallR X f r) (i : ∀ x H Q, r' x H Q → r x H Q) : CallR X f r' := fun pins s σ H x u Q I rx w => h pins s σ H x u Q I rx (i x H Q w)
theorem ix_imp {r r' : R2} (h : IxR X r) (i : ∀ x y H Q, r' x y H Q → r x y H Q) : IxR X r' := fun value slice pins s σ H x y v u Q I rx ry w => h value slice pins s σ H x y v u Q I rx ry (i x y H Q w)
theorem mt_imp {id : String} {r r' : V → List V → Hp → VK → Prop} (h : MtR X id r) (i : ∀ x xs H Q, r' x xs H Q → r x xs H Q) : MtR X id r' := fun pins s σ H x xs v us Q I rx ry w => h pins s σ H x xs v us Q I rx ry (i x xs H Q w)
end
/-! ### names and constants -/
def look : DSt → Nat → Option D
  | [], _ => none
  | x :: _, 0 => x
  | _ :: r, n + 1 => look r n
theorem look_get : ∀ {s : DSt} {i : Nat} {d : D}, look s i = some d → s[i]? = some (some d)
  | [], _, _, h => by cases h
  | x :: _, 0, d, h => by rw [show x = some d from h]; rfl
  | _ :: r, n + 1, d, h => by
    have := look_get (s := r) (i := n) h
    simpa using this
def qVar (i : Nat) : QE := fun s m Φ => match look s i with | some d => Φ d m | none => False
def qC (d : D) : QE := fun _ m Φ => Φ d m
section
variable {X : Cx}
theorem de_var {e : Expr} {i : Nat} (h : PE X e (tVar i)) : PE X e (liftE X.K (qVar i)) := pe_imp h fun σ H Q ⟨G, s, m, Φ, r, rs, q, k⟩ => by
  unfold qVar at q
  cases e : look s i with
  | none => rw [e] at q; exact q.elim
  | some d =>
    rw [e] at q
    obtain ⟨v, h1, h2⟩ := rs.loc i d (look_get e)
    exact ⟨v, h1, k G d m v H (Sub.refl G) r h2 q⟩
/-- the name that stands in the i-th slot -/
theorem dv (i : Nat) {x : Str} {pos : Pos} (hN : X.N[i]? = some x := by rfl) (hv : Vis X.env.scope x := by first | exact Or.inl rfl | exact Or.inr (Or.inl rfl) | exact Or.inr (Or.inr rfl)) (hd : (x == ("__debug__" : Str)) = false := by decide)
    (hcd : (x == ("__classdict__" : Str)) = false := by decide) : PE X (.Name x pos) (liftE X.K (qVar i)) := de_var (pe_var hN hv hd hcd)
theorem de_c {e : Expr} {v : V} (d : D) (h : PE X e (tC v)) (r : ∀ G, RV X.K G d v) : PE X e (liftE X.K (qC d)) := pe_imp h fun σ H Q ⟨G, s, m, Φ, rm, rs, q, k⟩ => k G d m v H (Sub.refl G) rm (r G) q
theorem de_int {i j pos} : PE X (.Constant (.int i) j pos) (liftE X.K (qC (.int i))) := de_c _ pe_int fun _ => rfl
theorem de_bl {i j pos} : PE X (.Constant (.bool i) j pos) (liftE X.K (qC (.bl i))) := de_c _ pe_bl fun _ => rfl
theorem de_non {j pos} : PE X (.Constant .none j pos) (liftE X.K (qC .non)) := de_c _ pe_non fun _ => rfl
theorem de_str {i j pos} : PE X (.Constant (.str i) j pos) (liftE X.K (qC (.str i))) := de_c _ pe_str fun _ => rfl
end
/-! ### two-place operations -/
def qOp (r : D → D → Mem → DK → Prop) (qa qb : QE) : QE := fun s m Φ => qa s m fun x m1 => qb s m1 fun y m2 => r x y m2 Φ
section
variable {X : Cx} {a b c : Expr} {qa qb qc : QE} {pos : Pos}
theorem lift_op {K : PySem.W.Frag} {r : D → D → Mem → DK → Prop} : ∀ σ H Q, liftE K (qOp r qa qb) σ H Q → tOp (liftR K r) (liftE K qa) (liftE K qb) σ H Q := fun σ H Q ⟨G, s, m, Φ, rm, rs, q, k⟩ =>
  ⟨G, s, m, _, rm, rs, q, fun G1 x m1 v H1 e1 r1 rx q1 => ⟨G1, s, m1, _, r1, rs.mono e1, q1, fun G2 y m2 u H2 e2 r2 ry q2 => ⟨G2, m2, x, y, Φ, r2, RV.mono e2 x rx, ry, q2, k.mono (e1.trans e2)⟩⟩⟩
theorem de_op {op : Operator} {r : D → D → Mem → DK → Prop} (ho : OpR X (binaryOp op) (liftR X.K r)) (ha : PE X a (liftE X.K qa)) (hb : PE X b (liftE X.K qb)) : PE X (.BinOp a op b pos) (liftE X.K (qOp r qa qb)) := pe_imp (pe_op ho ha hb) lift_op
theorem de_cmp {op : CmpOp} {r : D → D → Mem → DK → Prop} (ho : OpR X (compareOp op) (liftR X.K r)) (ha : PE X a (liftE X.K qa)) (hb : PE X b (liftE X.K qb)) (hm : behindInMarks op b = false) : PE X (.Compare a [op] [b] pos) (liftE X.K (qOp r qa qb)) := pe_imp (pe_cmpR ho ha hb hm) lift_op
/-- a value that is a bool, as a test -/
def qB (q : QE) : QT := fun s m Φ => q s m fun d m1 => match d with | .bl b => Φ b m1 | _ => False
theorem lift_B {K : PySem.W.Frag} : ∀ σ H Q, liftT K (qB qa) σ H Q → tB (liftE K qa) σ H Q := fun σ H Q ⟨G, s, m, Φ, rm, rs, q, k⟩ =>
  ⟨G, s, m, _, rm, rs, q, fun G1 x m1 v H1 e1 r1 rx q1 => by
    cases x with
    | bl b => exact ⟨b, rx, k G1 b m1 H1 e1 r1 q1⟩
    | _ => exact q1.elim⟩
theorem dt_cmp {op : CmpOp} {r : D → D → Mem → DK → Prop} (ho : OpR X (compareOp op) (liftR X.K r)) (ha : PE X a (liftE X.K qa)) (hb : PE X b (liftE X.K qb)) (hm : behindInMarks op b = false) : PT X (.Compare a [op] [b] pos) (liftT X.K (qB (qOp r qa qb))) :=
  pt_imp (pt_cmpR ho ha hb hm) fun σ H Q h => by
    obtain ⟨G, s, m, Φ, rm, rs, q, k⟩ := lift_B (K := X.K) σ H Q h
    exact lift_op σ H _ ⟨G, s, m, Φ, rm, rs, q, k⟩
theorem dt_val {e : Expr} {qe : QE} (h : PE X e (liftE X.K qe)) (he : ∀ whole, isTrue e X.env whole = (do let v ← whole; standAt e.pos; holding [v] (truthy v)) := by intro _; rfl) : PT X e (liftT X.K (qB qe)) := pt_imp (pt_val h he) lift_B
/-- a branch on a known bool -/
@[irreducible] def qIf (c : Bool) (A B : Prop) : Prop := if c = true then A else B
theorem qif {c : Bool} {A B : Prop} (h1 : c = true → A) (h2 : c = false → B) : qIf c A B := by
  unfold qIf; split
  · rename_i h; exact h1 h
  · rename_i h; exact h2 (by simpa using h)
theorem qif_t {c : Bool} {A B : Prop} (h : c = true) (a : A) : qIf c A B := qif (fun _ => a) (fun z => by rw [h] at z; cases z)
theorem qif_f {c : Bool} {A B : Prop} (h : c = false) (b : B) : qIf c A B := qif (fun z => by rw [h] at z; cases z) (fun _ => b)
theorem qif_e {c : Bool} {A B : Prop} (h : qIf c A B) : if c = true then A else B := by unfold qIf at h; exact h
/-- a op1 b op2 c -/
def qChain (r r' : D → D → Mem → DK → Prop) (qa qb qc : QE) : QE := fun s m Φ => qa s m fun x m1 => qb s m1 fun y m2 => r x y m2 fun z m3 => match z with
  | .bl c => qIf c (qc s m3 fun w m4 => r' y w m4 Φ) (Φ (.bl false) m3)
  | _ => False
end
/-! ### truth -/
def truD (d : D) (m : Mem) (Φ : Bool → Mem → Prop) : Prop := match d with
  | .non => Φ false m
  | .bl b => Φ b m
  | .int i => Φ (i != 0) m
  | .str y => y.length ≤ sizeLine ∧ Φ ((y.length : Int) != 0) m
  | .tup ds => Φ (!ds.isEmpty) m
  | .lst ds => Φ (!ds.isEmpty) m
  | .ref a => (∃ ds, m a = some (.lst ds) ∧ Φ (!ds.isEmpty) m) ∨ ∃ ks, m a = some (.dK ks) ∧ Φ (!ks.isEmpty) m
def qTru (q : QE) : QT := fun s m Φ => q s m fun d m1 => truD d m1 Φ
section
variable {X : Cx} {a b : Expr} {qa qb : QE} {ta tb : QT} {pos : Pos} {rest : List Expr}
/-- and, or, not as tests -/
def qAnd (t u : QT) : QT := fun s m Φ => t s m fun c m1 => qIf c (u s m1 Φ) (Φ false m1)
def qOr (t u : QT) : QT := fun s m Φ => t s m fun c m1 => qIf c (Φ true m1) (u s m1 Φ)
def qNot (t : QT) : QT := fun s m Φ => t s m fun c m1 => Φ (!c) m1
theorem dw_and1 (ha : PT X a (liftT X.K ta)) : PW X (.BoolOp .And [a] pos) (liftT X.K ta) := pw_and1 ha
theorem dw_or1 (ha : PT X a (liftT X.K ta)) : PW X (.BoolOp .Or [a] pos) (liftT X.K ta) := pw_or1 ha
theorem dw_and (ha : PT X a (liftT X.K ta)) (hb : PW X (.BoolOp .And (b :: rest) pos) (liftT X.K tb)) : PW X (.BoolOp .And (a :: b :: rest) pos) (liftT X.K (qAnd ta tb)) :=
  pw_imp (pw_and ha hb) fun σ H Q ⟨G, s, m, Φ, rm, rs, q, k⟩ => ⟨G, s, m, _, rm, rs, q, fun G1 c m1 H1 e1 r1 q1 => by
    have q1 := qif_e q1
    dsimp only
    cases c with
    | true => rw [if_pos rfl] at q1 ⊢; exact ⟨G1, s, m1, Φ, r1, rs.mono e1, q1, k.mono e1⟩
    | false => rw [if_neg Bool.false_ne_true] at q1 ⊢; exact k G1 false m1 H1 e1 r1 q1⟩
theorem dw_or (ha : PT X a (liftT X.K ta)) (hb : PW X (.BoolOp .Or (b :: rest) pos) (liftT X.K tb)) : PW X (.BoolOp .Or (a :: b :: rest) pos) (liftT X.K (qOr ta tb)) :=
  pw_imp (pw_or ha hb) fun σ H Q ⟨G, s, m, Φ, rm, rs, q, k⟩ => ⟨G, s, m, _, rm, rs, q, fun G1 c m1 H1 e1 r1 q1 => by
    have q1 := qif_e q1
    dsimp only
    cases c with
    | false => rw [if_neg Bool.false_ne_true] at q1 ⊢; exact ⟨G1, s, m1, Φ, r1, rs.mono e1, q1, k.mono e1⟩
    | true => rw [if_pos rfl] at q1 ⊢; exact k G1 true m1 H1 e1 r1 q1⟩
theorem dt_not (ha : PT X a (liftT X.K ta)) : PT X (.UnaryOp .Not a pos) (liftT X.K (qNot ta)) :=
  pt_imp (pt_not ha) fun σ H Q ⟨G, s, m, Φ, rm, rs, q, k⟩ => ⟨G, s, m, _, rm, rs, q, fun G1 c m1 H1 e1 r1 q1 => k G1 _ m1 H1 e1 r1 q1⟩
/-- .. as values that are bools -/
def qAndV (qa qb : QE) : QE := fun s m Φ => qa s m fun x m1 => match x with | .bl c => qIf c (qb s m1 Φ) (Φ (.bl false) m1) | _ => False
def qOrV (qa qb : QE) : QE := fun s m Φ => qa s m fun x m1 => match x with | .bl c => qIf c (Φ (.bl true) m1) (qb s m1 Φ) | _ => False
def qNotV (qa : QE) : QE := fun s m Φ => qa s m fun x m1 => match x with | .bl c => Φ (.bl (!c)) m1 | _ => False
theorem de_one {op} (h : PE X a (liftE X.K qa)) : PE X (.BoolOp op [a] pos) (liftE X.K qa) := pe_one h
theorem de_and (ha : PE X a (liftE X.K qa)) (hb : PE X (.BoolOp .And (b :: rest) pos) (liftE X.K qb)) : PE X (.BoolOp .And (a :: b :: rest) pos) (liftE X.K (qAndV qa qb)) :=
  pe_imp (pe_and ha hb) fun σ H Q ⟨G, s, m, Φ, rm, rs, q, k⟩ => ⟨G, s, m, _, rm, rs, q, fun G1 x m1 v H1 e1 r1 rx q1 => by
    cases x with
    | bl c =>
      obtain rfl : v = .bl c := rx
      have q1 := qif_e q1
      refine ⟨c, rfl, ?_⟩
      cases c with
      | true => rw [if_pos rfl] at q1 ⊢; exact ⟨G1, s, m1, Φ, r1, rs.mono e1, q1, k.mono e1⟩
      | false => rw [if_neg Bool.false_ne_true] at q1 ⊢; exact k G1 (.bl _) m1 _ H1 e1 r1 rfl q1
    | _ => exact q1.elim⟩
/-- a if t else b -/
def qIfE (t : QT) (qa qb : QE) : QE := fun s m Φ => t s m fun c m1 => qIf c (qa s m1 Φ) (qb s m1 Φ)
end
/-! ### argument lists, displays -/
def qNil : QA := fun _ m Φ => Φ [] m
def qCons (qa : QE) (qr : QA) : QA := fun s m Φ => qa s m fun x m1 => qr s m1 fun xs m2 => Φ (x :: xs) m2
def qTup (qa : QA) : QE := fun s m Φ => qa s m fun ds m1 => ds.length ≤ sizeLine ∧ Φ (.tup ds) m1
/-- a list display: one that will not be changed | one that may be -/
def qLstF (qa : QA) : QE := fun s m Φ => qa s m fun ds m1 => ds.length ≤ sizeLine ∧ Φ (.lst ds) m1
def qLstM (qa : QA) : QE := fun s m Φ => qa s m fun ds m1 => ds.length ≤ sizeLine ∧ ∀ p, m1 p = none → Φ (.ref p) (mset m1 p (.lst ds))
section
variable {X : Cx} {e : Expr} {es : List Expr} {qe : QE} {qa : QA} {pos : Pos}
theorem da_nil : PA X [] (liftA X.K qNil) := pa_imp pa_nil fun σ H Q ⟨G, s, m, Φ, rm, rs, q, k⟩ => k G [] m [] H (Sub.refl G) rm rfl q
theorem da_cons (ha : PE X e (liftE X.K qe)) (hr : PA X es (liftA X.K qa)) (hs : starEach (e :: es) X.env = (false, eval e X.env) :: starEach es X.env := by rfl) : PA X (e :: es) (liftA X.K (qCons qe qa)) :=
  pa_imp (pa_cons ha hr hs) fun σ H Q ⟨G, s, m, Φ, rm, rs, q, k⟩ => ⟨G, s, m, _, rm, rs, q, fun G1 x m1 v H1 e1 r1 rx q1 => ⟨G1, s, m1, _, r1, rs.mono e1, q1, fun G2 xs m2 vs H2 e2 r2 rxs q2 =>
    k G2 _ m2 _ H2 (e1.trans e2) r2 (RVs.cons (RV.mono e2 x rx) rxs) q2⟩⟩
theorem lift_tup {K : PySem.W.Frag} {G H : Hp} {m : Mem} {ds : List D} {vs : List V} {Φ : DK} {Q : VK} (rm : RelM K m G H) (r : RVs K G ds vs) (q : Φ (.tup ds) m) (k : KQ K G Φ Q) : ∀ p, H p = none → Q (.ref p) (upd H p (.tup vs)) := fun p hp => by
  obtain ⟨r1, e1⟩ := rm.lay (u := .tup vs) hp
  exact k _ (.tup ds) m _ _ e1 r1 ⟨p, vs, rfl, .inl (.inl upd_same), RVs.mono e1 _ r⟩ q
theorem lift_lstF {K : PySem.W.Frag} {G H : Hp} {m : Mem} {ds : List D} {vs : List V} {Φ : DK} {Q : VK} (rm : RelM K m G H) (r : RVs K G ds vs) (q : Φ (.lst ds) m) (k : KQ K G Φ Q) : ∀ p, H p = none → Q (.ref p) (upd H p (.lst vs)) := fun p hp => by
  obtain ⟨r1, e1⟩ := rm.lay (u := .lst vs) hp
  exact k _ (.lst ds) m _ _ e1 r1 ⟨p, vs, rfl, .inl (.inl upd_same), RVs.mono e1 _ r⟩ q
theorem lift_lstM {K : PySem.W.Frag} {G H : Hp} {m : Mem} {ds : List D} {vs : List V} {Φ : DK} {Q : VK} (rm : RelM K m G H) (r : RVs K G ds vs) (q : ∀ p, m p = none → Φ (.ref p) (mset m p (.lst ds))) (k : KQ K G Φ Q) : ∀ p, H p = none → Q (.ref p) (upd H p (.lst vs)) := fun p hp =>
  k G (.ref p) _ _ _ (Sub.refl G) (rm.new (o := .lst ds) hp ⟨vs, rfl, r⟩) rfl (q p (rm.free hp))
theorem de_tup {x1} (h : PA X es (liftA X.K qa)) : PE X (.Tuple es x1 pos) (liftE X.K (qTup qa)) :=
  pe_imp (pe_tup h) fun σ H Q ⟨G, s, m, Φ, rm, rs, q, k⟩ => ⟨G, s, m, _, rm, rs, q, fun G1 ds m1 vs H1 e1 r1 rd q1 => ⟨by rw [← rd.length]; exact q1.1, lift_tup r1 rd q1.2 (k.mono e1)⟩⟩
theorem de_lstF (h : PA X es (liftA X.K qa)) : PE X (.List es pos) (liftE X.K (qLstF qa)) :=
  pe_imp (pe_lst h) fun σ H Q ⟨G, s, m, Φ, rm, rs, q, k⟩ => ⟨G, s, m, _, rm, rs, q, fun G1 ds m1 vs H1 e1 r1 rd q1 => ⟨by rw [← rd.length]; exact q1.1, lift_lstF r1 rd q1.2 (k.mono e1)⟩⟩
theorem de_lstM (h : PA X es (liftA X.K qa)) : PE X (.List es pos) (liftE X.K (qLstM qa)) :=
  pe_imp (pe_lst h) fun σ H Q ⟨G, s, m, Φ, rm, rs, q, k⟩ => ⟨G, s, m, _, rm, rs, q, fun G1 ds m1 vs H1 e1 r1 rd q1 => ⟨by rw [← rd.length]; exact q1.1, lift_lstM r1 rd q1.2 (k.mono e1)⟩⟩
/-- {} -/
def qDNewK : QE := fun _ m Φ => ∀ p, m p = none → Φ (.ref p) (mset m p (.dK []))
def qDNewT : QE := fun _ m Φ => ∀ p, m p = none → Φ (.ref p) (mset m p (.dT []))
end
/-- a list that was just made, taken as one that never changes -/
def qFreeze (qe : QE) : QE := fun s m Φ => qe s m fun d m1 => match d with
  | .ref a => ∃ ds, m1 a = some (.lst ds) ∧ Φ (.lst ds) (mdel m1 a)
  | _ => False
theorem de_freeze {X : Cx} {e : Expr} {qe : QE} (h : PE X e (liftE X.K qe)) : PE X e (liftE X.K (qFreeze qe)) :=
  pe_imp h fun σ H Q ⟨G, s, m, Φ, rm, rs, q, k⟩ => ⟨G, s, m, _, rm, rs, q, fun G1 d m1 v H1 e1 r1 rd q1 => by
    cases d with
    | ref a =>
      obtain rfl : v = .ref a := rd
      obtain ⟨ds, hm, q1⟩ := q1
      obtain ⟨G2, e2, r2, rv⟩ := r1.freeze hm
      exact k G2 _ _ _ H1 (e1.trans e2) r2 rv q1
    | _ => exact q1.elim⟩
/-! ### defs and calls -/
/-- f(..), its promise sp; dds: the defaults -/
def qCall (sp : LSp) (qa : QA) : QE := fun s m Φ => qa s m fun ds m1 => sp ds m1 Φ
def FnD (P : Program) (w : World) (K : PySem.W.Frag) (mg : Str → Option Value) (base : Heap) (k : Nat) (f : Addr) (sp : LSp) : Prop := FnR P w K mg base CX0 k f (liftSp K sp)
section
variable {X : Cx} {k : Nat} {f : Addr} {sp : Sp} {E : XK} {x : Str} {p pos : Pos} {e : Expr} {es : List Expr} {t : TA} {CX : CXT}
theorem pe_callR (F : FnR X.prog X.w X.K X.mg X.base CX k f sp) (hr : Room k X.A) (hg : Gl X x) (hm : X.mg x = some (.ref f)) (hk : PySem.W.keepIn X.K (.ref f) = true) (hx : Passes CX X E)
    (ha : PA X (e :: es) t) (hdb : (x == ("__debug__" : Str)) = false := by decide) (he : starEach (e :: es) X.env = (false, eval e X.env) :: starEach es X.env := by rfl) (hpl : (backTo pos (starEach es X.env)).any (·.1) = false := by rfl) :
    PE X (.Call (.Name x p) (e :: es) [] pos) (fun σ H Q => t σ H fun vs H1 => sp vs H1 Q E) := by
  refine ⟨fun pins s σ H Q I h => ?_⟩
  refine wpAny_Call_Name_kw (ld_glob I hg hm ?_ hdb)
  refine PySem.W.callWith_K (h₀ := X.base) I.ok.mod.kin hk (thn (ha.run pos pins s σ H _ I h) fun us s1 ⟨vs, H1, I1, r, q⟩ => ⟨I1.kIn, ?_⟩) he hpl
  exact wpAny_call (run_fnR F hr hx I1 r q)
theorem lift_call {K : PySem.W.Frag} {qa : QA} {sp : LSp} : ∀ σ H Q, liftE K (qCall sp qa) σ H Q → liftA K qa σ H fun vs H1 => liftSp K sp vs H1 Q E0 := fun σ H Q ⟨G, s, m, Φ, rm, rs, q, k⟩ =>
  ⟨G, s, m, _, rm, rs, q, fun G1 ds m1 vs H1 e1 r1 rd q1 => ⟨G1, m1, ds, Φ, r1, rd, q1, k.mono e1⟩⟩
theorem de_call {sp : LSp} {qa : QA} (F : FnD X.prog X.w X.K X.mg X.base k f sp) (hr : Room k X.A) (hg : Gl X x) (hm : X.mg x = some (.ref f)) (hk : PySem.W.keepIn X.K (.ref f) = true)
    (ha : PA X (e :: es) (liftA X.K qa)) (hdb : (x == ("__debug__" : Str)) = false := by decide) (he : starEach (e :: es) X.env = (false, eval e X.env) :: starEach es X.env := by rfl) (hpl : (backTo pos (starEach es X.env)).any (·.1) = false := by rfl) :
    PE X (.Call (.Name x p) (e :: es) [] pos) (liftE X.K (qCall sp qa)) := pe_imp (pe_callR F hr hg hm hk pass0 ha hdb he hpl) lift_call
/-- the items of a list or a tuple -/
def itemsQ (d : D) (m : Mem) (R : List D → Prop) : Prop := match d with
  | .tup ds => R ds
  | .lst ds => R ds
  | .ref a => ∃ ds, m a = some (.lst ds) ∧ R ds
  | _ => False
theorem items_lift {K : PySem.W.Frag} {d : D} {v : V} {m : Mem} {G H : Hp} {R : List D → Prop} (rm : RelM K m G H) (rv : RV K G d v) (h : itemsQ d m R) : ∃ a ds xs, v = .ref a ∧ (SqT K H a xs ∨ SqL K H a xs) ∧ RVs K G ds xs ∧ R ds := by
  cases d with
  | tup ds => obtain ⟨a, xs, rfl, h1, h2⟩ := rv; exact ⟨a, ds, xs, rfl, .inl (rm.sub.t h1), h2, h⟩
  | lst ds => obtain ⟨a, xs, rfl, h1, h2⟩ := rv; exact ⟨a, ds, xs, rfl, .inr (rm.sub.l h1), h2, h⟩
  | ref a =>
    obtain rfl : v = .ref a := rv
    obtain ⟨ds, hm, h⟩ := h
    obtain ⟨_, u, hu, xs, rfl, h2⟩ := rm.mem a _ hm
    exact ⟨a, ds, xs, rfl, .inr (.inl (.inl hu)), h2, h⟩
  | _ => exact h.elim
/-- f(*y) -/
def qCallS1 (sp : LSp) (qe : QE) : QE := fun s m Φ => qe s m fun d m1 => itemsQ d m1 fun ds => sp ds m1 Φ
def qStar (qe : QE) (qr : QA) : QA := fun s m Φ => qe s m fun d m1 => itemsQ d m1 fun ds => qr s m1 fun es m2 => Φ (ds ++ es) m2
end
/-- a def keeps its promise: its body, from the parameters' data -/
def begin_ (n : Nat) (ds : List D) : DSt := ds.map some ++ List.replicate (n - ds.length) none
theorem relS_start {K : PySem.W.Frag} {G : Hp} {N : List Str} : ∀ {ds : List D} {vs : List V}, RVs K G ds vs → RelS K (begin_ N.length ds) G (L2.start N vs) := fun {ds vs} r => by
  have hl := r.length
  refine ⟨by simp [begin_, L2.start, hl], fun i d h => ?_⟩
  unfold begin_ at h
  unfold L2.start
  by_cases hi : i < ds.length
  · rw [List.getElem?_append_left (by simpa using hi), List.getElem?_map] at h
    cases e : ds[i]? with
    | none => rw [e] at h; cases h
    | some d' =>
      rw [e] at h
      have h : d' = d := Option.some.inj (Option.some.inj h)
      subst h
      obtain ⟨v, h1, h2⟩ := r.get e
      exact ⟨v, by rw [List.getElem?_append_left (by rw [List.length_map, ← hl]; exact hi), List.getElem?_map, h1]; rfl, h2⟩
  · rw [List.getElem?_append_right (by simpa using hi)] at h
    rw [List.getElem?_replicate] at h
    split at h <;> cases h
def bodyE (Φ : DK) : DE := { nx := fun _ m => Φ .non m, rt := Φ, bk := fun _ _ => False, ct := fun _ _ => False }
section
variable {P : Program} {w : World} {K : PySem.W.Frag} {mg : Str → Option Value} {base : Heap}
end
end L3
end
section
/-! L3v: two lists joined, whichever they are -/
namespace L3
open PySem PySem.Spec PyProof.Rows L2
def rCatQ (K : PySem.W.Frag) : R2 := fun x y H Q => ∃ l b xs zs, x = .ref l ∧ y = .ref b ∧ SqL K H l xs ∧ SqL K H b zs ∧ xs.length + zs.length ≤ sizeLine ∧ ∀ p, H p = none → Q (.ref p) (upd H p (.lst (xs ++ zs)))
theorem op_catQ {X : Cx} : OpR X (binaryOp .Add) (rCatQ X.K) := by
  intro pins s σ H x y v u Q I rx ry h
  obtain ⟨l, b, xs, zs, rfl, rfl, hH, hB, hz, q⟩ := h
  cases rx
  cases ry
  obtain ⟨its, r, p1, _⟩ := I.list hH
  obtain ⟨its2, r2, p2, _⟩ := I.list hB
  have e1 := r.length
  have e2 := r2.length
  obtain ⟨⟨cls, dd, data, sl⟩, n, ho, hc, _, hd⟩ := p1
  obtain ⟨⟨cls2, dd2, data2, sl2⟩, n2, ho2, hc2, _, hd2⟩ := p2
  simp only at hc hd hc2 hd2
  subst hc hd hc2 hd2
  have ea : its.toArray ++ its2.toArray = (its ++ its2).toArray := by simp
  refine concat_meets ⟨_, ho, rfl⟩ ⟨_, ho2, rfl⟩ noFill_list_add seq_list_add PySem.F.slot_list_add PySem.F.entry_list_add (PySem.F.args_list_add_2 _ _) (list_addW l b its.toArray its2.toArray n n2 dd dd2 sl sl2 (by rw [List.size_toArray, List.size_toArray]; omega)) ⟨ho, ho2, ?_⟩
  rw [ea]
  exact ⟨.ref _, _, I.lnew (t' := s.toks) (r.append r2) (by rw [List.length_append]; omega), rfl, q _ I.fresh⟩
end L3
end
section
namespace L3
open PySem L2
/-! ### ints -/
def qI0 (g : Int → Int → D) : D → D → Mem → DK → Prop := fun x y m Φ => match x, y with | .int i, .int j => Φ (g i j) m | _, _ => False
def qIC (C : Int → Int → Prop) (g : Int → Int → D) : D → D → Mem → DK → Prop := fun x y m Φ => match x, y with | .int i, .int j => C i j ∧ Φ (g i j) m | _, _ => False
section
variable {X : Cx}
theorem do_I0 {f : Value → Value → Sem Value} {g : Int → Int → V} (g' : Int → Int → D) (h : OpR X f (rI0 g)) (r : ∀ G i j, RV X.K G (g' i j) (g i j)) : OpR X f (liftR X.K (qI0 g')) := op_imp h fun x y H Q ⟨G, m, dx, dy, Φ, rm, rx, ry, q, k⟩ => by
  cases dx with
  | int i => cases dy with
    | int j => exact ⟨i, j, rx, ry, k G _ m _ H (Sub.refl G) rm (r G i j) q⟩
    | _ => exact q.elim
  | _ => exact q.elim
theorem do_IC {f : Value → Value → Sem Value} {C : Int → Int → Prop} {g : Int → Int → V} (g' : Int → Int → D) (h : OpR X f (rI C g)) (r : ∀ G i j, RV X.K G (g' i j) (g i j)) : OpR X f (liftR X.K (qIC C g')) := op_imp h fun x y H Q ⟨G, m, dx, dy, Φ, rm, rx, ry, q, k⟩ => by
  cases dx with
  | int i => cases dy with
    | int j => exact ⟨i, j, rx, ry, q.1, k G _ m _ H (Sub.refl G) rm (r G i j) q.2⟩
    | _ => exact q.elim
  | _ => exact q.elim
theorem do_sub : OpR X (binaryOp .Sub) (liftR X.K (qI0 fun i j => .int (i - j))) := do_I0 _ op_sub fun _ _ _ => rfl
def CM (i j : Int) : Prop := CMul i j ∨ CMulW i j
theorem do_mul : OpR X (binaryOp .Mult) (liftR X.K (qIC CM fun i j => .int (i * j))) := do_IC _ (C := CM) (g := fun i j => .int (i * j)) (op_imp (OpR.or op_mul op_mulW) fun x y H Q ⟨i, j, h1, h2, c, q⟩ => c.elim (fun c => .inl ⟨i, j, h1, h2, c, q⟩) fun c => .inr ⟨i, j, h1, h2, c, q⟩) fun _ _ _ => rfl
theorem do_fdiv : OpR X (binaryOp .FloorDiv) (liftR X.K (qIC CDivW fun i j => .int (i / j))) := do_IC _ op_fdivW fun _ _ _ => rfl
theorem do_mod : OpR X (binaryOp .Mod) (liftR X.K (qIC (fun _ j => 0 < j) fun i j => .int (i % j))) := do_IC _ op_mod fun _ _ _ => rfl
theorem do_pow : OpR X (binaryOp .Pow) (liftR X.K (qIC CPow fun i j => .int (i ^ j.toNat))) := do_IC _ op_pow fun _ _ _ => rfl
theorem do_lt : OpR X (compareOp .Lt) (liftR X.K (qI0 fun i j => .bl (decide (i < j)))) := do_I0 _ op_lt fun _ _ _ => rfl
theorem do_gt : OpR X (compareOp .Gt) (liftR X.K (qI0 fun i j => .bl (decide (j < i)))) := do_I0 _ op_gt fun _ _ _ => rfl
theorem do_ge : OpR X (compareOp .GtE) (liftR X.K (qI0 fun i j => .bl (decide (j ≤ i)))) := do_I0 _ op_ge fun _ _ _ => rfl
/-- +: ints, texts, lists (a new list that may change) -/
def qAdd : D → D → Mem → DK → Prop := fun x y m Φ => match x, y with
  | .int i, .int j => Φ (.int (i + j)) m
  | .str i, .str j => i.length + j.length ≤ sizeLine ∧ Φ (.str (i ++ j)) m
  | .ref a, .ref b => ∃ xs ys, m a = some (.lst xs) ∧ m b = some (.lst ys) ∧ xs.length + ys.length ≤ sizeLine ∧ ∀ p, m p = none → Φ (.ref p) (mset m p (.lst (xs ++ ys)))
  | .lst xs, .lst ys => xs.length + ys.length ≤ sizeLine ∧ Φ (.lst (xs ++ ys)) m
  | .ref a, .lst ys => ∃ xs, m a = some (.lst xs) ∧ xs.length + ys.length ≤ sizeLine ∧ Φ (.lst (xs ++ ys)) m
  | .lst xs, .ref b => ∃ ys, m b = some (.lst ys) ∧ xs.length + ys.length ≤ sizeLine ∧ Φ (.lst (xs ++ ys)) m
  | _, _ => False
theorem add_lift {f : Value → Value → Sem Value} (h1 : OpR X f (rI0 fun i j => .int (i + j))) (h2 : OpR X f (fun x y H Q => ∃ i j, x = .str i ∧ y = .str j ∧ i.length + j.length ≤ sizeLine ∧ Q (.str (i ++ j)) H)) (h3 : OpR X f (rCatQ X.K)) :
    OpR X f (liftR X.K qAdd) := op_imp (OpR.or h1 (OpR.or h2 h3)) fun x y H Q ⟨G, m, dx, dy, Φ, rm, rx, ry, q, k⟩ => by
  cases dx with
  | int i => cases dy with
    | int j => exact .inl ⟨i, j, rx, ry, k G (.int _) m _ H (Sub.refl G) rm rfl q⟩
    | _ => exact q.elim
  | str i => cases dy with
    | str j => exact .inr (.inl ⟨i, j, rx, ry, q.1, k G (.str _) m _ H (Sub.refl G) rm rfl q.2⟩)
    | _ => exact q.elim
  | ref a => cases dy with
    | ref b =>
      obtain ⟨xs, ys, hx, hy, hl, q⟩ := q
      obtain ⟨_, u, hu, vs, rfl, r1⟩ := rm.mem a _ hx
      obtain ⟨_, u', hu', ws, rfl, r2⟩ := rm.mem b _ hy
      exact .inr (.inr ⟨a, b, vs, ws, rx, ry, .inl (.inl hu), .inl (.inl hu'), by rw [← r1.length, ← r2.length]; exact hl, lift_lstM rm (r1.append r2) q k⟩)
    | lst ys =>
      obtain ⟨xs, hx, hl, q⟩ := q
      obtain ⟨_, u, hu, vs, rfl, r1⟩ := rm.mem a _ hx
      obtain ⟨b, ws, rfl, h1, r2⟩ := ry
      exact .inr (.inr ⟨a, b, vs, ws, rx, rfl, .inl (.inl hu), rm.sub.l h1, by rw [← r1.length, ← r2.length]; exact hl, lift_lstF rm (r1.append r2) q k⟩)
    | _ => exact q.elim
  | lst xs => cases dy with
    | lst ys =>
      obtain ⟨a, vs, rfl, h0, r1⟩ := rx
      obtain ⟨b, ws, rfl, h1, r2⟩ := ry
      exact .inr (.inr ⟨a, b, vs, ws, rfl, rfl, rm.sub.l h0, rm.sub.l h1, by rw [← r1.length, ← r2.length]; exact q.1, lift_lstF rm (r1.append r2) q.2 k⟩)
    | ref b =>
      obtain ⟨ys, hx, hl, q⟩ := q
      obtain ⟨a, vs, rfl, h0, r1⟩ := rx
      obtain ⟨_, u, hu, ws, rfl, r2⟩ := rm.mem b _ hx
      exact .inr (.inr ⟨a, b, vs, ws, rfl, ry, rm.sub.l h0, .inl (.inl hu), by rw [← r1.length, ← r2.length]; exact hl, lift_lstF rm (r1.append r2) q k⟩)
    | _ => exact q.elim
  | _ => exact q.elim
theorem do_add : OpR X (binaryOp .Add) (liftR X.K qAdd) := add_lift op_add op_add_str op_catQ
def qIAdd : D → D → Mem → DK → Prop := fun x y m Φ => match x, y with
  | .int i, .int j => Φ (.int (i + j)) m
  | .str i, .str j => i.length + j.length ≤ sizeLine ∧ Φ (.str (i ++ j)) m
  | _, _ => False
/-- -e -/
def qNeg (qa : QE) : QE := fun s m Φ => qa s m fun x m1 => match x with | .int i => Φ (.int (-i)) m1 | _ => False
theorem de_neg {a : Expr} {qa : QE} {pos : Pos} (ha : PE X a (liftE X.K qa)) : PE X (.UnaryOp .USub a pos) (liftE X.K (qNeg qa)) := pe_imp (pe_un un_neg ha) fun σ H Q ⟨G, s, m, Φ, rm, rs, q, k⟩ => ⟨G, s, m, _, rm, rs, q, fun G1 x m1 v H1 e1 r1 rx q1 => by
  cases x with
  | int i => exact ⟨i, rx, k G1 (.int (-i)) m1 _ H1 e1 r1 rfl q1⟩
  | _ => exact q1.elim⟩
end
/-! ### data as a whole -/
mutual
def toPy : D → Option PyData
  | .non => some .none
  | .bl b => some (.bool b)
  | .int i => some (.int i)
  | .str x => some (.str x)
  | .tup ds => (toPys ds).map .tuple
  | .lst ds => (toPys ds).map .list
  | .ref _ => none
def toPys : List D → Option (List PyData)
  | [] => some []
  | d :: ds => match toPy d, toPys ds with
    | some p, some ps => some (p :: ps)
    | _, _ => none
end
section
variable {K : PySem.W.Frag} {G H : Hp}
mutual
theorem RV.dp (e : Sub G H) : ∀ (d : D) {v : V} {p : PyData}, RV K G d v → toPy d = some p → Dp K H v p
  | .non, v, p, h, t => by
    obtain rfl : v = .non := h
    obtain rfl : PyData.none = p := Option.some.inj t
    exact .non
  | .bl b, v, p, h, t => by
    obtain rfl : v = .bl b := h
    obtain rfl : PyData.bool b = p := Option.some.inj t
    exact .bl b
  | .int b, v, p, h, t => by
    obtain rfl : v = .int b := h
    obtain rfl : PyData.int b = p := Option.some.inj t
    exact .int b
  | .str b, v, p, h, t => by
    obtain rfl : v = .str b := h
    obtain rfl : PyData.str b = p := Option.some.inj t
    exact .str b
  | .ref _, v, p, h, t => by cases t
  | .tup ds, v, p, ⟨a, xs, h1, h2, h3⟩, t => by
    subst h1
    rw [toPy] at t
    cases e1 : toPys ds with
    | none => rw [e1] at t; cases t
    | some ps =>
      rw [e1] at t
      obtain rfl : PyData.tuple ps = p := Option.some.inj t
      exact .tup (e.t h2) (RVs.dp e ds h3 e1)
  | .lst ds, v, p, ⟨a, xs, h1, h2, h3⟩, t => by
    subst h1
    rw [toPy] at t
    cases e1 : toPys ds with
    | none => rw [e1] at t; cases t
    | some ps =>
      rw [e1] at t
      obtain rfl : PyData.list ps = p := Option.some.inj t
      exact .lst (e.l h2) (RVs.dp e ds h3 e1)
theorem RVs.dp (e : Sub G H) : ∀ (ds : List D) {vs : List V} {ps : List PyData}, RVs K G ds vs → toPys ds = some ps → DpAll K H vs ps
  | [], vs, ps, h, t => by
    rw [show vs = [] from h]
    obtain rfl : [] = ps := Option.some.inj t
    exact .nil
  | d :: ds, vs, ps, ⟨x, r, h1, h2, h3⟩, t => by
    subst h1
    rw [toPys] at t
    cases e1 : toPy d with
    | none => rw [e1] at t; cases t
    | some p =>
      cases e2 : toPys ds with
      | none => rw [e1, e2] at t; cases t
      | some qs =>
        rw [e1, e2] at t
        obtain rfl : p :: qs = ps := Option.some.inj t
        exact .cons (RV.dp e d h2 e1) (RVs.dp e ds h3 e2)
end
/-- the data at d, a changing list's items read off the memory -/
def pyOf (m : Mem) (d : D) (p : PyData) : Prop := toPy d = some p ∨ ∃ a ds ps, d = .ref a ∧ m a = some (.lst ds) ∧ toPys ds = some ps ∧ p = .list ps
theorem py_lift {m : Mem} {d : D} {v : V} {p : PyData} (rm : RelM K m G H) (rv : RV K G d v) (h : pyOf m d p) : Dp K H v p := by
  rcases h with h | ⟨a, ds, ps, rfl, hm, h, rfl⟩
  · exact RV.dp rm.sub d rv h
  · obtain rfl : v = .ref a := rv
    obtain ⟨_, u, hu, xs, rfl, h2⟩ := rm.mem a _ hm
    exact .lst (.inl (.inl hu)) (RVs.dp rm.sub ds h2 h)
end
def qEq : D → D → Mem → DK → Prop := fun x y m Φ => ∃ p q, pyOf m x p ∧ pyOf m y q ∧ SeqAt.shaped p = true ∧ SeqAt.shaped q = true ∧ Φ (.bl (PyData.eqv p q)) m
def qNe : D → D → Mem → DK → Prop := fun x y m Φ => ∃ p q, pyOf m x p ∧ pyOf m y q ∧ SeqAt.shaped p = true ∧ SeqAt.shaped q = true ∧ Φ (.bl (!PyData.eqv p q)) m
/-- x in a list (or a tuple of flat items) -/
def qIn : D → D → Mem → DK → Prop := fun x y m Φ => ∃ p qs, toPy x = some p ∧ pyOf m y (.list qs) ∧ SeqAt.shaped p = true ∧ SeqAt.shaped (.list qs) = true ∧ Φ (.bl (qs.any fun z => PyData.eqv z p)) m
def qNotIn : D → D → Mem → DK → Prop := fun x y m Φ => ∃ p qs, toPy x = some p ∧ pyOf m y (.list qs) ∧ SeqAt.shaped p = true ∧ SeqAt.shaped (.list qs) = true ∧ Φ (.bl (!(qs.any fun z => PyData.eqv z p))) m
/-- is None -/
def isNonD : D → Bool | .non => true | _ => false
def qIsN : D → D → Mem → DK → Prop := fun x y m Φ => match y with | .non => Φ (.bl (isNonD x)) m | _ => False
def qNotN : D → D → Mem → DK → Prop := fun x y m Φ => match y with | .non => Φ (.bl (!isNonD x)) m | _ => False
theorem RV.isNon {K : PySem.W.Frag} {G : Hp} {d : D} {v : V} (h : RV K G d v) : decide (v = .non) = isNonD d := by
  cases d with
  | non => obtain rfl : v = .non := h; rfl
  | tup ds => obtain ⟨a, xs, rfl, _⟩ := h; rfl
  | lst ds => obtain ⟨a, xs, rfl, _⟩ := h; rfl
  | bl b => obtain rfl : v = .bl b := h; rfl
  | int b => obtain rfl : v = .int b := h; rfl
  | str b => obtain rfl : v = .str b := h; rfl
  | ref b => obtain rfl : v = .ref b := h; rfl
section
variable {X : Cx}
theorem do_eq (hu : X.A.units + 64 < cLine) : OpR X (compareOp .Eq) (liftR X.K qEq) := op_imp (op_eqD hu) fun x y H Q ⟨G, m, dx, dy, Φ, rm, rx, ry, ⟨p, q, h1, h2, s1, s2, h⟩, k⟩ =>
  ⟨p, q, py_lift rm rx h1, py_lift rm ry h2, s1, s2, k G (.bl _) m _ H (Sub.refl G) rm rfl h⟩
theorem do_ne (hu : X.A.units + 64 < cLine) : OpR X (compareOp .NotEq) (liftR X.K qNe) := op_imp (op_neD hu) fun x y H Q ⟨G, m, dx, dy, Φ, rm, rx, ry, ⟨p, q, h1, h2, s1, s2, h⟩, k⟩ =>
  ⟨p, q, py_lift rm rx h1, py_lift rm ry h2, s1, s2, k G (.bl _) m _ H (Sub.refl G) rm rfl h⟩
theorem do_isN : OpR X (compareOp .Is) (liftR X.K qIsN) := op_imp op_isN fun x y H Q ⟨G, m, dx, dy, Φ, rm, rx, ry, h, k⟩ => by
  cases dy with
  | non => exact ⟨ry, by rw [rx.isNon]; exact k G (.bl _) m _ H (Sub.refl G) rm rfl h⟩
  | _ => exact h.elim
end
/-! ### subscripts -/
/-- xs[i] of a list, a tuple, a text -/
def qIx : D → D → Mem → DK → Prop := fun x y m Φ => match x, y with
  | .tup ds, .int i => ∃ d, atI ds i = some d ∧ Φ d m
  | .lst ds, .int i => ∃ d, atI ds i = some d ∧ Φ d m
  | .ref a, .int i => ∃ ds d, m a = some (.lst ds) ∧ atI ds i = some d ∧ Φ d m
  | .str z, .int i => ∃ c, z.length ≤ sizeLine ∧ atI z.cps.toList i = some c ∧ Φ (.str ⟨#[c]⟩) m
  | _, _ => False
theorem RVs.atI {K : PySem.W.Frag} {G : Hp} {ds : List D} {xs : List V} {i : Int} {d : D} (r : RVs K G ds xs) (h : L2.atI ds i = some d) : ∃ v, L2.atI xs i = some v ∧ RV K G d v := by
  unfold L2.atI at h ⊢
  rw [← r.length]
  cases e : ixN ds.length i with
  | none => rw [e] at h; cases h
  | some j =>
    rw [e] at h
    obtain ⟨v, h1, h2⟩ := r.get (i := j) (d := d) h
    exact ⟨v, h1, h2⟩
section
variable {X : Cx} {a b : Expr} {qa qb : QE} {pos : Pos}
theorem ix_lift {K : PySem.W.Frag} {x y : V} {H : Hp} {Q : VK} (h : liftR K qIx x y H Q) : rIx K x y H Q := by
  obtain ⟨G, m, dx, dy, Φ, rm, rx, ry, q, k⟩ := h
  cases dx with
  | tup ds => cases dy with
    | int i =>
      obtain ⟨d, h1, h2⟩ := q
      obtain ⟨p, xs, rfl, e1, e2⟩ := rx
      obtain ⟨v, e3, e4⟩ := e2.atI h1
      exact .inr (.inl ⟨p, xs, i, v, rfl, ry, rm.sub.t e1, e3, k G d m v H (Sub.refl G) rm e4 h2⟩)
    | _ => exact q.elim
  | lst ds => cases dy with
    | int i =>
      obtain ⟨d, h1, h2⟩ := q
      obtain ⟨p, xs, rfl, e1, e2⟩ := rx
      obtain ⟨v, e3, e4⟩ := e2.atI h1
      exact .inl ⟨p, xs, i, v, rfl, ry, rm.sub.l e1, e3, k G d m v H (Sub.refl G) rm e4 h2⟩
    | _ => exact q.elim
  | ref p => cases dy with
    | int i =>
      obtain ⟨ds, d, hm, h1, h2⟩ := q
      obtain rfl : x = .ref p := rx
      obtain ⟨_, u, hu, xs, rfl, e2⟩ := rm.mem p _ hm
      obtain ⟨v, e3, e4⟩ := e2.atI h1
      exact .inl ⟨p, xs, i, v, rfl, ry, .inl (.inl hu), e3, k G d m v H (Sub.refl G) rm e4 h2⟩
    | _ => exact q.elim
  | str z => cases dy with
    | int i =>
      obtain ⟨c, h0, h1, h2⟩ := q
      exact .inr (.inr ⟨z, i, c, rx, ry, h0, h1, k G (.str _) m _ H (Sub.refl G) rm rfl h2⟩)
    | _ => exact q.elim
  | _ => exact q.elim
/-- a key -/
def keyD : D → Option Key
  | .int i => some (.inl i)
  | .str x => some (.inr x)
  | _ => none
def keysD : List D → Option (List Key)
  | [] => some []
  | d :: ds => match keyD d, keysD ds with
    | some k, some ks => some (k :: ks)
    | _, _ => none
theorem RV.key {K : PySem.W.Frag} {G : Hp} {d : D} {v : V} {k : Key} (r : RV K G d v) (h : keyD d = some k) : v = kV k := by
  cases d <;> first | (cases h; exact r) | cases h
/-- what a dict at a holds at y -/
def dGet (m : Mem) (a : Addr) (y : D) (o : Option D) : Prop := ∃ ks k, (m a = some (.dK ks) ∨ m a = some (.fz ks)) ∧ keyD y = some k ∧ o = valD ks k
theorem dget_lift {K : PySem.W.Frag} {G H : Hp} {m : Mem} {a : Addr} {y : D} {v : V} {o : Option D} (rm : RelM K m G H) (ry : RV K G y v) (g : dGet m a y o) : ∃ o', DGet H a v o' ∧ RVo K G o o' := by
  obtain ⟨ks, k, hm, hk, rfl⟩ := g
  have ev := ry.key hk
  rcases hm with hm | hm
  · obtain ⟨_, u, hu, xs, rfl, r⟩ := rm.mem a _ hm
    exact ⟨valV xs k, .inl ⟨xs, k, .inl hu, ev, rfl⟩, r.val k⟩
  · obtain ⟨_, u, hu, ob, xs, rfl, r⟩ := rm.mem a _ hm
    exact ⟨valV xs k, .inl ⟨xs, k, .inr ⟨ob, hu⟩, ev, rfl⟩, r.val k⟩
/-- d[y] -/
def qDGet (qd qy : QE) : QE := fun s m Φ => qd s m fun x m1 => qy s m1 fun y m2 => match x with
  | .ref a => ∃ d, dGet m2 a y (some d) ∧ Φ d m2
  | _ => False
/-- y in d -/
def qDIn (neg : Bool) (qy qd : QE) : QE := fun s m Φ => qy s m fun y m1 => qd s m1 fun x m2 => match x with
  | .ref a => ∃ o, dGet m2 a y o ∧ Φ (.bl (if neg then !o.isSome else o.isSome)) m2
  | _ => False
/-- d.get(y), d.get(y, z) -/
def qDGet1 (qd qy : QE) : QE := fun s m Φ => qd s m fun x m1 => match x with
  | .ref a => (∃ ks, m1 a = some (.dK ks) ∨ m1 a = some (.fz ks)) ∧ qy s m1 fun y m2 => ∃ o, dGet m2 a y o ∧ Φ (o.getD .non) m2
  | _ => False
def qDGet2 (qd qy qz : QE) : QE := fun s m Φ => qd s m fun x m1 => match x with
  | .ref a => (∃ ks, m1 a = some (.dK ks) ∨ m1 a = some (.fz ks)) ∧ qy s m1 fun y m2 => qz s m2 fun z m3 => ∃ o, dGet m3 a y o ∧ Φ (o.getD z) m3
  | _ => False
/-- d.pop(k), there -/
def qDPop1 (qd qy : QE) : QE := fun s m Φ => qd s m fun x m1 => match x with
  | .ref a => (∃ ks, m1 a = some (.dK ks) ∨ m1 a = some (.fz ks)) ∧ qy s m1 fun y m2 => ∃ ks k d, m2 a = some (.dK ks) ∧ keyD y = some k ∧ valD ks k = some d ∧ Φ d (mset m2 a (.dK (dropD ks k)))
  | _ => False
/-! ### slices -/
abbrev QO := DSt → Mem → (Option Int → Mem → Prop) → Prop
def KO (K : PySem.W.Frag) (G : Hp) (Φ : Option Int → Mem → Prop) (Q : Option Int → Hp → Prop) : Prop := ∀ G' o m' H', Sub G G' → RelM K m' G' H' → Φ o m' → Q o H'
def liftO (K : PySem.W.Frag) (q : QO) : TO := fun σ H Q => ∃ G s m Φ, RelM K m G H ∧ RelS K s G σ ∧ q s m Φ ∧ KO K G Φ Q
def qNoPart : QO := fun _ m Φ => Φ none m
def qPart (q : QE) : QO := fun s m Φ => q s m fun x m1 => match x with | .int i => Φ (some i) m1 | _ => False
theorem po_imp {e : Option Expr} {t t' : TO} (h : PO X e t) (i : ∀ σ H Q, t' σ H Q → t σ H Q) : PO X e t' := ⟨fun pins s σ H Q I w => h.run pins s σ H Q I (i σ H Q w)⟩
theorem do_none : PO X none (liftO X.K qNoPart) := po_imp po_none fun σ H Q ⟨G, s, m, Φ, rm, rs, q, k⟩ => k G none m H (Sub.refl G) rm q
theorem do_some {e : Expr} {qe : QE} (h : PE X e (liftE X.K qe)) : PO X (some e) (liftO X.K (qPart qe)) := po_imp (po_some h) fun σ H Q ⟨G, s, m, Φ, rm, rs, q, k⟩ => ⟨G, s, m, _, rm, rs, q, fun G1 x m1 v H1 e1 r1 rx q1 => by
  cases x with
  | int i => exact ⟨i, rx, k G1 (some i) m1 H1 e1 r1 q1⟩
  | _ => exact q1.elim⟩
def cutD (xs : List D) (lo hi : Option Int) : List D := (xs.drop (HT.sIx xs.length 0 lo)).take (HT.sIx xs.length xs.length hi - HT.sIx xs.length 0 lo)
theorem RVs.cut {K : PySem.W.Frag} {G : Hp} {ds : List D} {xs : List V} (r : RVs K G ds xs) (lo hi : Option Int) : RVs K G (cutD ds lo hi) (cutV xs lo hi) := by
  unfold cutD cutV
  rw [r.length]
  exact (r.drop _).take _
/-- xs[lo:hi] of a list: a new list, taken as one that never changes -/
def qSlL (qe : QE) (ql qh : QO) : QE := fun s m Φ => qe s m fun x m1 => ql s m1 fun l m2 => qh s m2 fun u m3 => match x with
  | .lst ds => Φ (.lst (cutD ds l u)) m3
  | .ref a => ∃ ds, m3 a = some (.lst ds) ∧ Φ (.lst (cutD ds l u)) m3
  | _ => False
theorem de_slL {e : Expr} {qe : QE} {ql qh : QO} {lo hi : Option Expr} {p2 : Pos} (he : PE X e (liftE X.K qe)) (hl : PO X lo (liftO X.K ql)) (hu : PO X hi (liftO X.K qh)) : PE X (.Subscript e (.Slice lo hi none p2) pos) (liftE X.K (qSlL qe ql qh)) :=
  pe_imp (pe_slice sl_list he hl hu) fun σ H Q ⟨G, s, m, Φ, rm, rs, q, k⟩ => ⟨G, s, m, _, rm, rs, q, fun G1 x m1 v H1 e1 r1 rx q1 => ⟨G1, s, m1, _, r1, rs.mono e1, q1, fun G2 l m2 H2 e2 r2 q2 => ⟨G2, s, m2, _, r2, rs.mono (e1.trans e2), q2, fun G3 u m3 H3 e3 r3 q3 => by
    cases x with
    | lst ds =>
      obtain ⟨a, xs, rfl, h1, h2⟩ := rx
      exact ⟨a, xs, rfl, r3.sub.l ((e2.trans e3).l h1), lift_lstF r3 (RVs.mono (e2.trans e3) _ (h2.cut l u)) q3 (k.mono ((e1.trans e2).trans e3))⟩
    | ref a =>
      obtain rfl : v = .ref a := rx
      obtain ⟨ds, hm, q3⟩ := q3
      obtain ⟨_, w, hw, xs, rfl, h2⟩ := r3.mem a _ hm
      exact ⟨a, xs, rfl, .inl (.inl hw), lift_lstF r3 (h2.cut l u) q3 (k.mono ((e1.trans e2).trans e3))⟩
    | _ => exact q3.elim⟩⟩⟩
/-- t[lo:hi], not the whole -/
def qSlT (qe : QE) (ql qh : QO) : QE := fun s m Φ => qe s m fun x m1 => ql s m1 fun l m2 => qh s m2 fun u m3 => match x with
  | .tup ds => ¬ (HT.sIx ds.length 0 l = 0 ∧ HT.sIx ds.length ds.length u = ds.length) ∧ Φ (.tup (cutD ds l u)) m3
  | _ => False
end
/-! ### calls of built-ins -/
def qCB (r : LSp) (qa : QA) : QE := fun s m Φ => qa s m fun ds m1 => r ds m1 Φ
section
variable {X : Cx} {x : Str} {p pos : Pos} {e : Expr} {es : List Expr} {qa : QA} {id T : String} {r : LSp}
theorem lift_CB {K : PySem.W.Frag} : ∀ σ H Q, liftE K (qCB r qa) σ H Q → tCB (liftC K r) (liftA K qa) σ H Q := fun σ H Q ⟨G, s, m, Φ, rm, rs, q, k⟩ =>
  ⟨G, s, m, _, rm, rs, q, fun G1 ds m1 vs H1 e1 r1 rd q1 => ⟨G1, m1, ds, Φ, r1, rd, q1, k.mono e1⟩⟩
theorem de_callB (hc : CallR X (.builtin id) (liftC X.K r)) (hg : Gl X x) (hm : X.mg x = none) (hv : bootBuiltins x = some (.builtin id)) (ha : PA X (e :: es) (liftA X.K qa)) (hn : x ≠ "__name__" := by decide) (hdb : (x == ("__debug__" : Str)) = false := by decide)
    (he : starEach (e :: es) X.env = (false, eval e X.env) :: starEach es X.env := by rfl) (hpl : (backTo pos (starEach es X.env)).any (·.1) = false := by rfl) : PE X (.Call (.Name x p) (e :: es) [] pos) (liftE X.K (qCB r qa)) := pe_imp (pe_callB hc hg hm hv ha hn hdb he hpl) lift_CB
theorem de_callTy (hc : CallR X (.type T) (liftC X.K r)) (hg : Gl X x) (hm : X.mg x = none) (hv : bootBuiltins x = some (.type T)) (ha : PA X (e :: es) (liftA X.K qa)) (hn : x ≠ "__name__" := by decide) (hdb : (x == ("__debug__" : Str)) = false := by decide)
    (he : starEach (e :: es) X.env = (false, eval e X.env) :: starEach es X.env := by rfl) (hpl : (backTo pos (starEach es X.env)).any (·.1) = false := by rfl) : PE X (.Call (.Name x p) (e :: es) [] pos) (liftE X.K (qCB r qa)) := pe_imp (pe_callTy hc hg hm hv ha hn hdb he hpl) lift_CB
theorem rv1 {K : PySem.W.Frag} {G : Hp} {a : D} {vs : List V} (h : RVs K G [a] vs) : ∃ v, vs = [v] ∧ RV K G a v := by
  obtain ⟨x, r, rfl, h2, h3⟩ := h
  exact ⟨x, by rw [show r = [] from h3], h2⟩
theorem rv2 {K : PySem.W.Frag} {G : Hp} {a b : D} {vs : List V} (h : RVs K G [a, b] vs) : ∃ v u, vs = [v, u] ∧ RV K G a v ∧ RV K G b u := by
  obtain ⟨x, r, rfl, h2, h3⟩ := h
  obtain ⟨u, rfl, h4⟩ := rv1 h3
  exact ⟨x, u, rfl, h2, h4⟩
/-- int(x) of an int -/
def bInt : LSp := fun ds m Φ => match ds with | [.int i] => Φ (.int i) m | [.bl b] => Φ (.int (if b then 1 else 0)) m | _ => False
theorem db_int : CallR X (.type "int") (liftC X.K bInt) := call_imp call_int1 fun vs H Q ⟨G, m, ds, Φ, rm, rd, q, k⟩ => by
  unfold bInt at q
  split at q
  · rename_i i
    obtain ⟨v, rfl, h⟩ := rv1 rd
    obtain rfl : v = .int i := h
    exact .inl ⟨i, rfl, k G (.int i) m _ H (Sub.refl G) rm rfl q⟩
  · rename_i i
    obtain ⟨v, rfl, h⟩ := rv1 rd
    obtain rfl : v = .bl i := h
    exact .inr ⟨i, rfl, k G (.int _) m _ H (Sub.refl G) rm rfl q⟩
  · exact q.elim
/-- len -/
def bLen : LSp := fun ds m Φ => match ds with
  | [.tup xs] => Φ (.int xs.length) m
  | [.lst xs] => Φ (.int xs.length) m
  | [.str z] => z.length ≤ sizeLine ∧ Φ (.int z.length) m
  | [.ref a] => (∃ xs, m a = some (.lst xs) ∧ Φ (.int xs.length) m) ∨ ∃ ks, m a = some (.dK ks) ∧ Φ (.int ks.length) m
  | _ => False
theorem db_len : CallR X (.builtin "len") (liftC X.K bLen) := call_imp (CallR.or call_len_seq (CallR.or call_len_str call_lenD)) fun vs H Q ⟨G, m, ds, Φ, rm, rd, q, k⟩ => by
  unfold bLen at q
  split at q
  · obtain ⟨v, rfl, a, xs, rfl, h1, h2⟩ := rv1 rd
    exact .inl ⟨a, xs, rfl, .inr (rm.sub.t h1), k G (.int _) m _ H (Sub.refl G) rm (by rw [h2.length]; rfl) q⟩
  · obtain ⟨v, rfl, a, xs, rfl, h1, h2⟩ := rv1 rd
    exact .inl ⟨a, xs, rfl, .inl (rm.sub.l h1), k G (.int _) m _ H (Sub.refl G) rm (by rw [h2.length]; rfl) q⟩
  · rename_i z
    obtain ⟨v, rfl, h⟩ := rv1 rd
    obtain rfl : v = .str z := h
    exact .inr (.inl ⟨z, rfl, q.1, k G (.int _) m _ H (Sub.refl G) rm rfl q.2⟩)
  · rename_i a
    obtain ⟨v, rfl, h⟩ := rv1 rd
    obtain rfl : v = .ref a := h
    rcases q with ⟨xs, hm, q⟩ | ⟨ks, hm, q⟩
    · obtain ⟨_, w, hw, ys, rfl, h2⟩ := rm.mem a _ hm
      exact .inl ⟨a, ys, rfl, .inl (.inl (.inl hw)), k G (.int _) m _ H (Sub.refl G) rm (by rw [h2.length]; rfl) q⟩
    · obtain ⟨_, w, hw, ys, rfl, h2⟩ := rm.mem a _ hm
      exact .inr (.inr ⟨a, ys, rfl, hw, k G (.int _) m _ H (Sub.refl G) rm (by rw [h2.length]; rfl) q⟩)
  · exact q.elim
/-- list(xs): a new list that may change -/
def bList : LSp := fun ds m Φ => match ds with
  | [d] => itemsQ d m fun xs => ∀ p, m p = none → Φ (.ref p) (mset m p (.lst xs))
  | _ => False
theorem db_list : CallR X (.type "list") (liftC X.K bList) := call_imp call_list_of fun vs H Q ⟨G, m, ds, Φ, rm, rd, q, k⟩ => by
  unfold bList at q
  split at q
  · obtain ⟨v, rfl, h⟩ := rv1 rd
    obtain ⟨a, xs, ys, rfl, h1, h2, h3⟩ := items_lift rm h q
    exact ⟨a, ys, rfl, h1.symm, lift_lstM rm h2 h3 k⟩
  · exact q.elim
/-- tuple(xs) -/
def bTuple : LSp := fun ds m Φ => match ds with
  | [.tup xs] => Φ (.tup xs) m
  | [.lst xs] => Φ (.tup xs) m
  | [.ref a] => ∃ xs, m a = some (.lst xs) ∧ Φ (.tup xs) m
  | _ => False
/-- the items of a list -/
def itemsL (d : D) (m : Mem) (R : List D → Prop) : Prop := match d with
  | .lst ds => R ds
  | .ref a => ∃ ds, m a = some (.lst ds) ∧ R ds
  | _ => False
theorem itemsL_lift {K : PySem.W.Frag} {d : D} {v : V} {m : Mem} {G H : Hp} {R : List D → Prop} (rm : RelM K m G H) (rv : RV K G d v) (h : itemsL d m R) : ∃ a ds xs, v = .ref a ∧ SqL K H a xs ∧ RVs K G ds xs ∧ R ds := by
  cases d with
  | lst ds => obtain ⟨a, xs, rfl, h1, h2⟩ := rv; exact ⟨a, ds, xs, rfl, rm.sub.l h1, h2, h⟩
  | ref a =>
    obtain rfl : v = .ref a := rv
    obtain ⟨ds, hm, h⟩ := h
    obtain ⟨_, u, hu, xs, rfl, h2⟩ := rm.mem a _ hm
    exact ⟨a, ds, xs, rfl, .inl (.inl hu), h2, h⟩
  | _ => exact h.elim
/-- sum, all, any of lists of ints, of bools -/
def bSum : LSp := fun ds m Φ => match ds with
  | [d] => itemsL d m fun xs => ∃ ns : List Int, xs = ns.map D.int ∧ Φ (.int ns.sum) m
  | _ => False
def bAll : LSp := fun ds m Φ => match ds with
  | [d] => itemsL d m fun xs => ∃ bs : List Bool, xs = bs.map D.bl ∧ Φ (.bl (bs.all _root_.id)) m
  | _ => False
def bAny : LSp := fun ds m Φ => match ds with
  | [d] => itemsL d m fun xs => ∃ bs : List Bool, xs = bs.map D.bl ∧ Φ (.bl (bs.any _root_.id)) m
  | _ => False
theorem db_all (hc : X.calm = true) : CallR X (.builtin "all") (liftC X.K bAll) := call_imp (cr_all hc) fun vs H Q ⟨G, m, ds, Φ, rm, rd, q, k⟩ => by
  unfold bAll at q
  split at q
  · obtain ⟨v, rfl, h⟩ := rv1 rd
    obtain ⟨a, xs, ys, rfl, h1, h2, ns, rfl, h3⟩ := itemsL_lift rm h q
    have e := h2.bls
    subst e
    exact ⟨a, ns, rfl, h1, k G (.bl _) m _ H (Sub.refl G) rm rfl h3⟩
  · exact q.elim
def bMax2 : LSp := fun ds m Φ => match ds with | [.int i, .int j] => Φ (.int (if j > i then j else i)) m | _ => False
def bMin2 : LSp := fun ds m Φ => match ds with | [.int i, .int j] => Φ (.int (if j < i then j else i)) m | _ => False
theorem db_max2 (hc : X.calm = true) : CallR X (.builtin "max") (liftC X.K bMax2) := call_imp (call_max2 hc) fun vs H Q ⟨G, m, ds, Φ, rm, rd, q, k⟩ => by
  unfold bMax2 at q
  split at q
  · rename_i i j
    obtain ⟨v, u, rfl, h, h'⟩ := rv2 rd
    obtain rfl : v = .int i := h
    obtain rfl : u = .int j := h'
    exact ⟨i, j, rfl, k G (.int _) m _ H (Sub.refl G) rm rfl q⟩
  · exact q.elim
def bGcd : LSp := fun ds m Φ => match ds with | [.int i, .int j] => Φ (.int ((Nat.gcd i.natAbs j.natAbs : Nat) : Int)) m | _ => False
/-- dict(d): a copy -/
def bDict : LSp := fun ds m Φ => match ds with
  | [.ref a] => ∃ ks, (m a = some (.dK ks) ∨ m a = some (.fz ks)) ∧ ∀ p, m p = none → Φ (.ref p) (mset m p (.dK ks))
  | _ => False
/-! ### isinstance -/
/-- the type's name of a datum that is no instance -/
def tyN (d : D) (m : Mem) : String → Prop := fun T => match d with
  | .non => T = "NoneType"
  | .bl _ => T = "bool"
  | .int _ => T = "int"
  | .str _ => T = "str"
  | .tup _ => T = "tuple"
  | .lst _ => T = "list"
  | .ref a => (T = "list" ∧ ∃ ds, m a = some (.lst ds)) ∨ (T = "dict" ∧ ∃ ks, m a = some (.dK ks))
theorem SqL.ty {K : PySem.W.Frag} {H : Hp} {a : Addr} {xs : List V} (h : SqL K H a xs) : TyX K H (.ref a) (.type "list") := by
  rcases h with (h | ⟨o, h⟩) | ⟨o, its, n, h1, h2, _⟩
  · exact .base (.lst h)
  · exact .base (.frz h)
  · exact .kList h1 h2
theorem SqT.ty {K : PySem.W.Frag} {H : Hp} {a : Addr} {xs : List V} (h : SqT K H a xs) : TyX K H (.ref a) (.type "tuple") := by
  rcases h with (h | ⟨o, h⟩) | ⟨o, its, n, h1, h2, _⟩
  · exact .base (.tup h)
  · exact .fTuple h
  · exact .kTuple h1 h2
theorem tyN_lift {K : PySem.W.Frag} {d : D} {v : V} {m : Mem} {G H : Hp} {T : String} (rm : RelM K m G H) (rv : RV K G d v) (h : tyN d m T) : TyX K H v (.type T) := by
  cases d with
  | non => obtain rfl : v = .non := rv; obtain rfl : T = _ := h; exact .base .non
  | bl b => obtain rfl : v = .bl b := rv; obtain rfl : T = _ := h; exact .base (.bl b)
  | int b => obtain rfl : v = .int b := rv; obtain rfl : T = _ := h; exact .base (.int b)
  | str b => obtain rfl : v = .str b := rv; obtain rfl : T = _ := h; exact .base (.str b)
  | tup ds => obtain ⟨a, xs, rfl, h1, h2⟩ := rv; obtain rfl : T = _ := h; exact SqT.ty (rm.sub.t h1)
  | lst ds => obtain ⟨a, xs, rfl, h1, h2⟩ := rv; obtain rfl : T = _ := h; exact SqL.ty (rm.sub.l h1)
  | ref a =>
    obtain rfl : v = .ref a := rv
    rcases h with ⟨rfl, ds, hm⟩ | ⟨rfl, ks, hm⟩
    · obtain ⟨_, w, hw, ys, rfl, h2⟩ := rm.mem a _ hm
      exact .base (.lst hw)
    · obtain ⟨_, w, hw, ys, rfl, h2⟩ := rm.mem a _ hm
      exact .base (.dK hw)
/-- isinstance(x, T), T a built-in type | a written tuple of such -/
def qIsi (T : String) (qa : QE) : QE := fun s m Φ => qa s m fun x m1 => ∃ t b, tyN x m1 t ∧ kitB t T = some b ∧ Φ (.bl b) m1
theorem de_isi {T : String} {a : Expr} {qa : QE} {tn : Str} {p2 : Pos} (hg : Gl X "isinstance") (hm : X.mg "isinstance" = none) (ha : PE X a (liftE X.K qa)) (hT : PE X (.Name tn p2) (tC (.ty T)))
    (he : starEach (a :: [.Name tn p2]) X.env = (false, eval a X.env) :: starEach [.Name tn p2] X.env := by rfl) (he2 : starEach (.Name tn p2 :: []) X.env = (false, eval (.Name tn p2) X.env) :: starEach [] X.env := by rfl) (hpl : (backTo pos (starEach [.Name tn p2] X.env)).any (·.1) = false := by rfl) :
    PE X (.Call (.Name "isinstance" p) [a, .Name tn p2] [] pos) (liftE X.K (qIsi T qa)) :=
  pe_imp (pe_callB call_isi hg hm (by decide +kernel) (pa_cons ha (pa_cons hT pa_nil he2) he) (by decide) (by decide) he hpl) fun σ H Q ⟨G, s, m, Φ, rm, rs, q, k⟩ => ⟨G, s, m, _, rm, rs, q, fun G1 x m1 v H1 e1 r1 rx ⟨t, b, ht, hb, q1⟩ =>
    ⟨v, .ty T, .type t, .type T, b, rfl, .ty T, tyN_lift r1 rx ht, kit_ty hb, k G1 (.bl b) m1 _ H1 e1 r1 rfl q1⟩⟩
def kitBs (t : String) : List String → Option Bool
  | [] => some false
  | T :: Ts => match kitB t T with
    | some true => some true
    | some false => kitBs t Ts
    | none => none
theorem kitBs_ok {K : PySem.W.Frag} {t : String} : ∀ {Ts : List String} {b : Bool}, kitBs t Ts = some b → PySem.W.kitAny K (.type t) (Ts.map Value.type) = some b
  | [], b, h => by
    obtain rfl : false = b := Option.some.inj h
    exact kitAny_nil
  | T :: Ts, b, h => by
    rw [kitBs] at h
    cases e : kitB t T with
    | none => rw [e] at h; cases h
    | some c =>
      rw [e] at h
      cases c with
      | true =>
        obtain rfl : true = b := Option.some.inj h
        exact kitAny_cons (kit_ty e) (fun z => by cases z) (fun _ => rfl)
      | false => exact kitAny_cons (kit_ty e) (fun _ => kitBs_ok h) (fun z => by cases z)
def qIsiT (Ts : List String) (qa : QE) : QE := fun s m Φ => qa s m fun x m1 => ∃ t b, tyN x m1 t ∧ kitBs t Ts = some b ∧ Φ (.bl b) m1
theorem de_isi2 {T U : String} {a : Expr} {qa : QE} {tn un : Str} {p2 p3 p4 : Pos} {x1} (hg : Gl X "isinstance") (hm : X.mg "isinstance" = none) (ha : PE X a (liftE X.K qa)) (hT : PE X (.Name tn p2) (tC (.ty T))) (hU : PE X (.Name un p3) (tC (.ty U)))
    (he : starEach (a :: [.Tuple [.Name tn p2, .Name un p3] x1 p4]) X.env = (false, eval a X.env) :: starEach [.Tuple [.Name tn p2, .Name un p3] x1 p4] X.env := by rfl)
    (he2 : starEach (.Tuple [.Name tn p2, .Name un p3] x1 p4 :: []) X.env = (false, eval (.Tuple [.Name tn p2, .Name un p3] x1 p4) X.env) :: starEach [] X.env := by rfl)
    (he3 : starEach (.Name tn p2 :: [.Name un p3]) X.env = (false, eval (.Name tn p2) X.env) :: starEach [.Name un p3] X.env := by rfl) (he4 : starEach (.Name un p3 :: []) X.env = (false, eval (.Name un p3) X.env) :: starEach [] X.env := by rfl)
    (hpl : (backTo pos (starEach [.Tuple [.Name tn p2, .Name un p3] x1 p4] X.env)).any (·.1) = false := by rfl) :
    PE X (.Call (.Name "isinstance" p) [a, .Tuple [.Name tn p2, .Name un p3] x1 p4] [] pos) (liftE X.K (qIsiT [T, U] qa)) :=
  pe_imp (pe_callB call_isiT hg hm (by decide +kernel) (pa_cons ha (pa_cons (pe_tup (pa_cons hT (pa_cons hU pa_nil he4) he3)) pa_nil he2) he) (by decide) (by decide) he hpl) fun σ H Q ⟨G, s, m, Φ, rm, rs, q, k⟩ => ⟨G, s, m, _, rm, rs, q, fun G1 x m1 v H1 e1 r1 rx ⟨t, b, ht, hb, q1⟩ =>
    ⟨by show 2 ≤ sizeLine; decide, fun tp htp => ⟨v, tp, [.ty T, .ty U], .type t, [.type T, .type U], b, rfl, upd_same, .cons (.ty T) (.cons (.ty U) .nil), tyN_lift (RelM.frame r1 fun a o z => by rw [upd_ne (ne_of_none z htp)]; exact z) rx ht, kitBs_ok (Ts := [T, U]) hb,
      k G1 (.bl b) m1 _ _ e1 (RelM.frame r1 fun a o z => by rw [upd_ne (ne_of_none z htp)]; exact z) rfl q1⟩⟩⟩
end
end L3
end
section
namespace L3
open PySem L2
/-! ### instances -/
section
variable {X : Cx} {e o : Expr} {es : List Expr} {qe qo qv : QE} {qa : QA} {f m : Str} {pos apos pos' tpos : Pos} {C g : Addr} {k : Nat}
/-- e.f of an instance of the class at C -/
def qFld (C : Addr) (f : Str) (qe : QE) : QE := fun s m Φ => qe s m fun x m1 => match x with
  | .ref a => ∃ fs d, m1 a = some (.ins C fs) ∧ fs.lookup f = some d ∧ Φ d m1
  | _ => False
/-- e.f = v -/
def sSetF (C : Addr) (f : Str) (qo qv : QE) : QS := fun E s m => qv s m fun y m1 => qo s m1 fun x m2 => match x with
  | .ref a => ∃ fs, m2 a = some (.ins C fs) ∧ fs.length < 1000 ∧ E.nx s (mset m2 a (.ins C (putFD f y fs)))
  | _ => False
/-- o.m(..) -/
def qMeth (C : Addr) (m : Str) (sp : LSp) (qo : QE) (qa : QA) : QE := fun s mm Φ => qo s mm fun x m1 => match x with
  | .ref a => ∃ fs, m1 a = some (.ins C fs) ∧ fs.lookup m = none ∧ qa s m1 fun ds m2 => sp (x :: ds) m2 Φ
  | _ => False
end
section
variable {X : Cx} {CX : CXT} {k : Nat} {f C : Addr} {sp : Sp} {E : XK} {m x : Str} {pos apos p : Pos} {e o : Expr} {es : List Expr} {ta : TE} {t : TA}
end
section
variable {X : Cx} {k : Nat} {f C : Addr} {sp : LSp} {m x : Str} {pos apos p : Pos} {e o : Expr} {es : List Expr} {qo qe : QE} {qa : QA}
/-- C(..) -/
def qMake (C : Addr) (sp : LSp) (qa : QA) : QE := fun s m Φ => qa s m fun ds m1 => ∀ a, m1 a = none → sp (.ref a :: ds) (mset m1 a (.ins C [])) fun d m2 => match d with | .non => Φ (.ref a) m2 | _ => False
/-- e.f, a property whose getter keeps the promise -/
def qProp (C : Addr) (sp : LSp) (qe : QE) : QE := fun s m Φ => qe s m fun x m1 => match x with
  | .ref a => (∃ fs, m1 a = some (.ins C fs)) ∧ sp [x] m1 Φ
  | _ => False
end
/-! ### methods of built-in types -/
def tyD (T : String) (x : D) (m : Mem) : Prop := match x with
  | .str _ => T = "str"
  | .lst _ => T = "list"
  | .ref a => (T = "list" ∧ ∃ ds, m a = some (.lst ds)) ∨ (T = "dict" ∧ ∃ ks, m a = some (.dK ks))
  | _ => False
theorem tyD_lift {K : PySem.W.Frag} {T : String} {x : D} {v : V} {m : Mem} {G H : Hp} (rm : RelM K m G H) (rx : RV K G x v) (h : tyD T x m) : tyV K T v H := by
  cases x with
  | str z => obtain rfl : v = .str z := rx; exact h
  | lst ds => obtain ⟨a, xs, rfl, h1, h2⟩ := rx; exact .inl ⟨h, xs, rm.sub.l h1⟩
  | ref a =>
    obtain rfl : v = .ref a := rx
    rcases h with ⟨rfl, ds, hm⟩ | ⟨rfl, ks, hm⟩
    · obtain ⟨_, w, hw, ys, rfl, h2⟩ := rm.mem a _ hm
      exact .inl ⟨rfl, ys, .inl (.inl hw)⟩
    · obtain ⟨_, w, hw, ys, rfl, h2⟩ := rm.mem a _ hm
      exact .inr (.inr (.inl ⟨rfl, .inl ⟨ys, hw⟩⟩))
  | _ => exact h.elim
def qBM (T : String) (r : D → LSp) (qo : QE) (qa : QA) : QE := fun s m Φ => qo s m fun x m1 => tyD T x m1 ∧ qa s m1 fun ds m2 => r x ds m2 Φ
section
variable {X : Cx} {o e : Expr} {es : List Expr} {qo : QE} {qa : QA} {name : Str} {apos cpos : Pos} {T id : String} {r : D → LSp}
theorem de_bm (pa : PlainAttrs T) (slot : Slot T name id) (hty : typeOf (.builtin id) = pure (.type "method_descriptor")) (hm : MtR X id (liftMt X.K r)) (ho : PE X o (liftE X.K qo)) (ha : PA X (e :: es) (liftA X.K qa))
    (hbase : attributeBase o name X.env (eval o X.env) = eval o X.env := by rfl)
    (hfew : ((backTo cpos (starEach (e :: es) X.env)).all (fun x => !x.1) && (backToKw cpos (keywordEach [] X.env)).all (fun x => x.1.isSome)
      && decide ((e :: es).length + ([] : List Keyword).length + (if ([] : List Keyword).isEmpty then 0 else 1) < 30)) = true := by rfl)
    (hline : (apos.endLine == cpos.line) = true := by rfl) (hs : starEach (e :: es) X.env = (false, eval e X.env) :: starEach es X.env := by rfl) (hplain : (backTo cpos (starEach es X.env)).any (·.1) = false := by rfl) :
    PE X (.Call (.Attribute o name apos) (e :: es) [] cpos) (liftE X.K (qBM T r qo qa)) :=
  pe_imp (pe_bm pa slot hty hm ho ha hbase hfew hline hs hplain) fun σ H Q ⟨G, s, mm, Φ, rm, rs, q, k⟩ => ⟨G, s, mm, _, rm, rs, q, fun G1 x m1 v H1 e1 r1 rx ⟨ht, q1⟩ =>
    ⟨tyD_lift r1 rx ht, G1, s, m1, _, r1, rs.mono e1, q1, fun G2 ds m2 vs H2 e2 r2 rd q2 => ⟨G2, m2, x, ds, Φ, r2, RV.mono e2 x rx, rd, q2, k.mono (e1.trans e2)⟩⟩⟩
/-- a method of a list that may change: with its arguments, the list's items; the value and the items behind -/
def mtL (g : List D → List D → (D → List D → Prop) → Prop) : D → LSp := fun x ds m Φ => match x with
  | .ref a => ∃ xs, m a = some (.lst xs) ∧ g ds xs fun d ys => Φ d (mset m a (.lst ys))
  | _ => False
def gAppend : List D → List D → (D → List D → Prop) → Prop := fun ds xs R => match ds with | [y] => xs.length < sizeLine ∧ R .non (xs ++ [y]) | _ => False
theorem dm_append : MtR X "list.append" (liftMt X.K (mtL gAppend)) := mt_imp mt_append fun x vs H Q ⟨G, m, dx, ds, Φ, rm, rx, rd, q, k⟩ => by
  cases dx with
  | ref a =>
    obtain rfl : x = .ref a := rx
    obtain ⟨xs, hm, q⟩ := q
    unfold gAppend at q
    split at q
    · obtain ⟨v, rfl, hv⟩ := rv1 rd
      obtain ⟨_, w, hw, ys, rfl, h2⟩ := rm.mem a _ hm
      exact ⟨a, ys, v, rfl, rfl, hw, by rw [← h2.length]; exact q.1, k G .non _ _ _ (Sub.refl G) (rm.put (o := .lst _) hm ⟨_, rfl, h2.append (RVs.one hv)⟩) rfl q.2⟩
    · exact q.elim
  | _ => exact q.elim
def gInsert : List D → List D → (D → List D → Prop) → Prop := fun ds xs R => match ds with | [.int i, y] => xs.length < sizeLine ∧ 0 ≤ i ∧ i < 2 ^ 63 ∧ R .non (xs.take i.toNat ++ [y] ++ xs.drop i.toNat) | _ => False
def gPop : List D → List D → (D → List D → Prop) → Prop := fun ds xs R => match ds with | [] => ∃ y, xs[xs.length - 1]? = some y ∧ R y xs.dropLast | _ => False
def gPopAt : List D → List D → (D → List D → Prop) → Prop := fun ds xs R => match ds with | [.int i] => ∃ k y, -(2 ^ 63) ≤ i ∧ i < 2 ^ 63 ∧ seqIndex? i xs.length = some k ∧ xs[k]? = some y ∧ R y (xs.eraseIdx k) | _ => False
def gReverse : List D → List D → (D → List D → Prop) → Prop := fun ds xs R => match ds with | [] => R .non xs.reverse | _ => False
def gClear : List D → List D → (D → List D → Prop) → Prop := fun ds xs R => match ds with | [] => R .non [] | _ => False
/-- xs.extend(ys), ys a list that may change -/
def mExtend : D → LSp := fun x ds m Φ => match x, ds with
  | .ref a, [.ref b] => ∃ xs ys, m a = some (.lst xs) ∧ m b = some (.lst ys) ∧ xs.length + ys.length ≤ sizeLine ∧ Φ .non (mset m a (.lst (xs ++ ys)))
  | _, _ => False
end
end L3
end
section
/-! L3u: unpacking a list -/
namespace L3
open PySem PySem.Spec PyProof.Rows L2
section
variable {prog : Program} {w : World} {A : Around} {E : Value → Shared → Prop} {s : Shared}
theorem draw_list {it l : Addr} {items : Array Value} (hne : l ≠ it) : ∀ (n i : Nat) (s : Shared) (Q : List Value → Shared → Prop), s.heap.IsListIter it l i → PlainL s.heap l items → i + n ≤ items.size →
    (∀ h', h'.IsListIter it l (i + n) → Heap.SameBut it s.heap h' → Q ((items.toList.drop i).take n) { s with heap := h' }) → wpAny (model prog w) A (draw (.ref it) n) Q E s
  | 0, i, s, Q, hit, _, _, hQ => by
    show wpAny _ _ (pure []) Q E s
    exact wpAny_pure (by simpa using hQ s.heap hit (Heap.SameBut.refl ..))
  | n + 1, i, s, Q, hit, ht, hle, hQ => by
    have hlt : i < items.size := by omega
    show wpAny _ _ (pyNext (.ref it) >>= _) Q E s
    refine wpAny_bind (wpAny_pyNext_list_item hit ht.isList (x := items[i]) (by simp [hlt]) fun h₁ hit₁ hs₁ => ?_)
    refine wpAny_bind (wpAny_holding (draw_list hne n (i + 1) _ _ hit₁ (ht.extBut hs₁.extBut hne) (by omega) fun h₂ hit₂ hs₂ => wpAny_pure ?_))
    have hd : items.toList.drop i = items[i] :: items.toList.drop (i + 1) := by simp [List.drop_eq_getElem_cons, hlt]
    have := hQ h₂ (by rw [show i + (n + 1) = i + 1 + n by omega]; exact hit₂) (hs₁.trans hs₂)
    rw [hd, List.take_succ_cons] at this
    exact this
theorem unpackItems_list {l : Addr} {items : Array Value} {Q : List Value → Shared → Prop} (hh : A.handled = none) (ht : PlainL s.heap l items)
    (hQ : ∀ h', Heap.ExtBut s.heap.objs.size s.heap h' → Q items.toList { s with heap := h' }) : wpAny (model prog w) A (unpackItems (.ref l) items.size none) Q E s := by
  have hlt : l ≠ s.heap.objs.size := by obtain ⟨o, n, ho, _⟩ := ht; exact Nat.ne_of_lt (Heap.lt_size ho)
  unfold unpackItems
  refine wpAny_bind ?_
  · unfold notIterableAtAll
    refine wpAny_bind (wpAny_specialOf ht.isList.typeIs slot_list_iter.lookup ?_)
    refine wpAny_pure ?_
    simp only [Bool.false_eq_true, if_false]
    refine wpAny_bind (wpAny_holding (wpAny_pyIter_list ht.isList ?_))
    have ht0 : PlainL (s.heap.push { cls := .type "list_iterator", data := .fields #[.ref l, .int 0 0] }) l items := ht.keeps fun b o e => Heap.get?_push_of_some _ e
    refine wpAny_bind (wpAny_holding (draw_list hlt items.size 0 _ _ ⟨_, Heap.get?_push_size _ rfl, rfl, rfl⟩ ht0 (by omega) fun h₁ hit₁ hs₁ => ?_))
    have hall : List.take items.size (List.drop 0 items.toList) = items.toList := by
      rw [List.drop_zero]; exact List.take_of_length_le (by simp)
    rw [hall]
    rw [if_neg (by simp)]
    have ht₁ : PlainL h₁ l items := ht0.extBut hs₁.extBut hlt
    refine wpAny_bind (wpAny_holding (wpAny_pyNext_list_end hh hit₁ ht₁.isList (by simp) fun h₂ he₂ => ?_))
    simp only [Option.isSome_none, Bool.false_eq_true, if_false]
    refine wpAny_pure (hQ h₂ fun b o hb e => he₂ b o hb (hs₁.extBut b o hb (Heap.get?_push_of_some _ e)))
theorem assign_Tuple_list {env : Env} {elts : List Expr} {x1} {pos : Pos} {l : Addr} {items : Array Value} {Q : Unit → Shared → Prop} (hh : A.handled = none) (ht : PlainL s.heap l items)
    (hn : (assignEach elts env).length = items.size) (hstar : (assignEach elts env).findIdx? (·.1) = none)
    (h : ∀ h', Heap.ExtBut s.heap.objs.size s.heap h' → wpAny (model prog w) A (assignInOrder ((assignEach elts env).map (·.2)) items.toList) Q E { s with heap := h' }) :
    wpAny (model prog w) A (assign (.Tuple elts x1 pos) env (.ref l)) Q E s := by
  rw [assign_Tuple]
  refine wpAny_bind (wpAny_standAt ?_)
  unfold unpack
  rw [hn, hstar]
  exact wpAny_bind (wpAny_holding (unpackItems_list hh ht h))
end
/-- a, b = xs of a tuple or of a list -/
def gSeqT (K : PySem.W.Frag) (n : Nat) (t : TGs) : TG := fun v σ H Q => ∃ a xs, v = .ref a ∧ (SqT K H a xs ∨ SqL K H a xs) ∧ xs.length = n ∧ t xs σ H Q
section
variable {X : Cx} {pos : Pos}
theorem pg_seq {es : List Expr} {k : Nat} {t : TGs} {n : Nat} (hc : X.calm = true) (h : PGs X es t)
    (hn : (assignEach es X.env).length = n := by rfl) (hst : (assignEach es X.env).findIdx? (·.1) = none := by rfl) : PG X (.Tuple es k pos) (gSeqT X.K n t) := by
  refine ⟨fun pins s σ H v u Q I r hw => ?_⟩
  obtain ⟨a, xs, e1, hq, hl, hw⟩ := hw
  subst e1
  cases r
  rcases hq with hq | hq
  · obtain ⟨its, rv, ht, hz⟩ := I.tuple hq
    refine assign_Tuple_tuple (I.ok.hd hc) ht (by simp [hn, ← hl, rv.length]) hst fun h' hx => ?_
    have I1 : Inv X pins σ H { s with heap := h' } := I.kept (t' := s.toks) fun b o e => hx b o (Nat.ne_of_lt (Heap.lt_size e)) e
    exact h.run pins _ σ H xs _ Q I1 (by simpa using rv) hw
  · obtain ⟨its, rv, ht, hz⟩ := I.list hq
    refine assign_Tuple_list (I.ok.hd hc) ht (by simp [hn, ← hl, rv.length]) hst fun h' hx => ?_
    have I1 : Inv X pins σ H { s with heap := h' } := I.kept (t' := s.toks) fun b o e => hx b o (Nat.ne_of_lt (Heap.lt_size e)) e
    exact h.run pins _ σ H xs _ Q I1 (by simpa using rv) hw
end
end L3
end
section
namespace L3
open PySem L2
/-! ### targets -/
inductive Pat where
  | nm (i : Nat)
  | tp (ps : List Pat)
section
variable (K : PySem.W.Frag)
mutual
/-- the layer's own reading of a target -/
def tgOf : Pat → TG
  | .nm i => gName i
  | .tp ps => gSeqT K ps.length (tgsOf ps)
def tgsOf : List Pat → TGs
  | [] => gNil
  | p :: ps => gCons (tgOf p) (tgsOf ps)
end
end
mutual
/-- the slots behind the store of a datum -/
def asg : Pat → D → DSt → Option DSt
  | .nm i, d, s => some (s.set i (some d))
  | .tp ps, d, s => match d with
    | .tup ds => asgs ps ds s
    | .lst ds => asgs ps ds s
    | _ => none
def asgs : List Pat → List D → DSt → Option DSt
  | [], [], s => some s
  | p :: ps, d :: ds, s => match asg p d s with
    | some s1 => asgs ps ds s1
    | none => none
  | _, _, _ => none
end
mutual
def slots : Pat → List Nat
  | .nm i => [i]
  | .tp ps => slotss ps
def slotss : List Pat → List Nat
  | [] => []
  | p :: ps => slots p ++ slotss ps
end
theorem wipe_set {σ : St} {i : Nat} {x : Option V} : ∀ {vs : List Nat}, i ∈ vs → wipe (σ.set i x) vs = wipe σ vs
  | v :: vs, h => by
    show (wipe (σ.set i x) vs).set v none = (wipe σ vs).set v none
    by_cases hv : i ∈ vs
    · rw [wipe_set hv]
    · have e : i = v := by
        rcases List.mem_cons.mp h with h | h
        · exact h
        · exact absurd h hv
      subst e
      have q : ∀ (us : List Nat), i ∉ us → wipe (σ.set i x) us = (wipe σ us).set i x := by
        intro us
        induction us with
        | nil => intro _; rfl
        | cons u us ih =>
          intro hu
          show (wipe (σ.set i x) us).set u none = ((wipe σ us).set u none).set i x
          rw [ih (fun z => hu (List.mem_cons_of_mem _ z)), List.set_comm _ _ (fun z => hu (by rw [z]; exact List.mem_cons_self))]
      rw [q vs hv, List.set_set]
theorem asgs_len : ∀ {ps : List Pat} {ds : List D} {s s2 : DSt}, asgs ps ds s = some s2 → ds.length = ps.length
  | [], [], _, _, _ => rfl
  | [], _ :: _, _, _, h => by simp [asgs] at h
  | _ :: _, [], _, _, h => by simp [asgs] at h
  | p :: ps, d :: ds, s, s2, h => by
    rw [asgs] at h
    cases e : asg p d s with
    | none => rw [e] at h; cases h
    | some s1 => rw [e] at h; rw [List.length_cons, List.length_cons, asgs_len h]
section
variable {K : PySem.W.Frag} {G H : Hp}
mutual
theorem asg_run (e : Sub G H) : ∀ (p : Pat) {d : D} {v : V} {s s2 : DSt} {σ : St}, RV K G d v → RelS K s G σ → asg p d s = some s2 →
    ∃ σ2, RelS K s2 G σ2 ∧ (∀ Q : St → Hp → Prop, Q σ2 H → tgOf K p v σ H Q) ∧ ∀ vs : List Nat, (∀ i ∈ slots p, i ∈ vs) → wipe σ2 vs = wipe σ vs
  | .nm i, d, v, s, s2, σ, rv, rs, h => by
    obtain rfl : s.set i (some d) = s2 := Option.some.inj h
    exact ⟨σ.set i (some v), rs.set i rv, fun Q q => q, fun vs hv => wipe_set (hv i (by simp [slots]))⟩
  | .tp ps, d, v, s, s2, σ, rv, rs, h => by
    cases d with
    | tup ds =>
      obtain ⟨a, xs, rfl, h1, h2⟩ := rv
      have h' : asgs ps ds s = some s2 := h
      obtain ⟨σ2, r2, run, w⟩ := asgs_run e ps h2 rs h'
      exact ⟨σ2, r2, fun Q q => ⟨a, xs, rfl, .inl (e.t h1), by rw [← h2.length]; exact asgs_len h', run Q q⟩, w⟩
    | lst ds =>
      obtain ⟨a, xs, rfl, h1, h2⟩ := rv
      have h' : asgs ps ds s = some s2 := h
      obtain ⟨σ2, r2, run, w⟩ := asgs_run e ps h2 rs h'
      exact ⟨σ2, r2, fun Q q => ⟨a, xs, rfl, .inr (e.l h1), by rw [← h2.length]; exact asgs_len h', run Q q⟩, w⟩
    | _ => cases h
theorem asgs_run (e : Sub G H) : ∀ (ps : List Pat) {ds : List D} {xs : List V} {s s2 : DSt} {σ : St}, RVs K G ds xs → RelS K s G σ → asgs ps ds s = some s2 →
    ∃ σ2, RelS K s2 G σ2 ∧ (∀ Q : St → Hp → Prop, Q σ2 H → tgsOf K ps xs σ H Q) ∧ ∀ vs : List Nat, (∀ i ∈ slotss ps, i ∈ vs) → wipe σ2 vs = wipe σ vs
  | [], ds, xs, s, s2, σ, rv, rs, h => by
    cases ds with
    | nil =>
      obtain rfl : s = s2 := Option.some.inj h
      exact ⟨σ, rs, fun Q q => ⟨rv, q⟩, fun _ _ => rfl⟩
    | cons d ds => simp [asgs] at h
  | p :: ps, ds, xs, s, s2, σ, rv, rs, h => by
    cases ds with
    | nil => simp [asgs] at h
    | cons d ds =>
      obtain ⟨x, r, rfl, h2, h3⟩ := rv
      rw [asgs] at h
      cases e1 : asg p d s with
      | none => rw [e1] at h; cases h
      | some s1 =>
        rw [e1] at h
        obtain ⟨σ1, r1, run1, w1⟩ := asg_run e p h2 rs e1
        obtain ⟨σ2, r2, run2, w2⟩ := asgs_run e ps h3 r1 h
        exact ⟨σ2, r2, fun Q q => ⟨x, r, rfl, run1 _ (run2 Q q)⟩, fun vs hv => (w2 vs fun i hi => hv i (by simp [slotss, hi])).trans (w1 vs fun i hi => hv i (by simp [slotss, hi]))⟩
end
end
section
variable {X : Cx} {pos : Pos}
theorem pt_nm (i : Nat) {x : Str} (hN : X.N.Nodup) (hi : X.N[i]? = some x := by rfl) (hx : Loc X.env.scope x := by first | exact Or.inl rfl | exact Or.inr rfl) (hf : X.fn x = true ∨ X.env.scope.names.lookup x = some .local := by first | exact .inr rfl | exact .inl rfl | assumption) : PG X (.Name x pos) (tgOf X.K (.nm i)) := pg_name hN hi hx hf
theorem pt_tp {es : List Expr} {k : Nat} {ps : List Pat} (hc : X.calm = true) (h : PGs X es (tgsOf X.K ps)) (hn : (assignEach es X.env).length = ps.length := by rfl) (hst : (assignEach es X.env).findIdx? (·.1) = none := by rfl) : PG X (.Tuple es k pos) (tgOf X.K (.tp ps)) := pg_seq hc h hn hst
theorem pts_nl : PGs X [] (tgsOf X.K []) := pgs_nil
theorem pts_cn {e : Expr} {es : List Expr} {p : Pat} {ps : List Pat} (h1 : PG X e (tgOf X.K p)) (h2 : PGs X es (tgsOf X.K ps)) (hs : (assignEach (e :: es) X.env).map (·.2) = assign e X.env :: (assignEach es X.env).map (·.2) := by rfl) : PGs X (e :: es) (tgsOf X.K (p :: ps)) := pgs_cons h1 h2 hs
end
/-! ### statements -/
def sNext : QS := fun E s m => E.nx s m
def sSeq (t u : QS) : QS := fun E s m => t { E with nx := u E } s m
def sBreak : QS := fun E s m => E.bk s m
def sCont : QS := fun E s m => E.ct s m
def sExpr (qe : QE) : QS := fun E s m => qe s m fun _ m1 => E.nx s m1
def sRet (qe : QE) : QS := fun E s m => qe s m E.rt
def sRetN : QS := fun E _ m => E.rt .non m
def sIf (c : QT) (t u : QS) : QS := fun E s m => c s m fun b m1 => qIf b (t E s m1) (u E s m1)
def sNever : QS := fun _ _ _ => False
/-- target = value -/
def sAsg (p : Pat) (qe : QE) : QS := fun E s m => qe s m fun d m1 => match asg p d s with | some s2 => E.nx s2 m1 | none => False
def sPar (i j : Nat) (qa : QA) : QS := fun E s m => qa s m fun ds m1 => match ds with | [d, e] => E.nx ((s.set i (some d)).set j (some e)) m1 | _ => False
def sPar3 (i j l : Nat) (qa : QA) : QS := fun E s m => qa s m fun ds m1 => match ds with | [d, e, f] => E.nx (((s.set i (some d)).set j (some e)).set l (some f)) m1 | _ => False
def sAug (i : Nat) (r : D → D → Mem → DK → Prop) (qe : QE) : QS := fun E s m => match look s i with
  | some x => qe s m fun y m1 => r x y m1 fun z m2 => E.nx (s.set i (some z)) m2
  | none => False
section
variable {X : Cx} {st : Stmt} {rest : List Stmt} {t u : QS} {e : Expr} {qe : QE} {qa : QA} {pos : Pos}
theorem dss_nil : PSs X [] (liftS X.K sNext) := pss_imp pss_nil fun D σ H ⟨G, s, m, E, rm, rs, q, kn, kr, kb, kc⟩ => kn G s m σ H (Sub.refl G) rm rs q
theorem dss_cons (h1 : PS X st (liftS X.K t)) (h2 : PSs X rest (liftS X.K u)) : PSs X (st :: rest) (liftS X.K (sSeq t u)) :=
  pss_imp (pss_cons h1 h2) fun D σ H ⟨G, s, m, E, rm, rs, q, kn, kr, kb, kc⟩ => ⟨G, s, m, { E with nx := u E }, rm, rs, q, fun G1 s1 m1 σ1 H1 e1 r1 rs1 q1 => ⟨G1, s1, m1, E, r1, rs1, q1, kn.mono e1, kr.mono e1, kb.mono e1, kc.mono e1⟩, kr, kb, kc⟩
theorem dss_one (h1 : PS X st (liftS X.K t)) : PSs X [st] (liftS X.K t) := pss_one h1
theorem ds_expr (he : PE X e (liftE X.K qe)) (hs : swapsWith e none pos.line X.env = pure false := by rfl) : PS X (.Expr e pos) (liftS X.K (sExpr qe)) :=
  ps_imp (ps_expr he hs) fun D σ H ⟨G, s, m, E, rm, rs, q, kn, kr, kb, kc⟩ => ⟨G, s, m, _, rm, rs, q, fun G1 d m1 v H1 e1 r1 rv q1 => kn G1 s m1 σ H1 e1 r1 (rs.mono e1) q1⟩
theorem ds_ret (he : PE X e (liftE X.K qe)) : PS X (.Return (some e) pos) (liftS X.K (sRet qe)) :=
  ps_imp (ps_ret he) fun D σ H ⟨G, s, m, E, rm, rs, q, kn, kr, kb, kc⟩ => ⟨G, s, m, _, rm, rs, q, kr⟩
theorem ds_if {c : Expr} {a b : List Stmt} {qc : QT} (hc : PT X c (liftT X.K qc)) (ha : PSs X a (liftS X.K t)) (hb : PSs X b (liftS X.K u)) : PS X (.If c a b pos) (liftS X.K (sIf qc t u)) :=
  ps_imp (ps_if hc ha hb) fun D σ H ⟨G, s, m, E, rm, rs, q, kn, kr, kb, kc⟩ => ⟨G, s, m, _, rm, rs, q, fun G1 c m1 H1 e1 r1 q1 => by
    have q1 := qif_e q1
    dsimp only
    cases c with
    | true => rw [if_pos rfl] at q1 ⊢; exact ⟨G1, s, m1, E, r1, rs.mono e1, q1, kn.mono e1, kr.mono e1, kb.mono e1, kc.mono e1⟩
    | false => rw [if_neg Bool.false_ne_true] at q1 ⊢; exact ⟨G1, s, m1, E, r1, rs.mono e1, q1, kn.mono e1, kr.mono e1, kb.mono e1, kc.mono e1⟩⟩
theorem lift_asg {K : PySem.W.Frag} {p : Pat} : ∀ D σ H, liftS K (sAsg p qe) D σ H → tAsg (liftE K qe) (tgOf K p) D σ H := fun D σ H ⟨G, s, m, E, rm, rs, q, kn, kr, kb, kc⟩ => ⟨G, s, m, _, rm, rs, q, fun G1 d m1 v H1 e1 r1 rv q1 => by
  cases h : asg p d s with
  | none => rw [h] at q1; exact q1.elim
  | some s2 =>
    rw [h] at q1
    obtain ⟨σ2, r2, run, _⟩ := asg_run r1.sub p rv (rs.mono e1) h
    exact run _ (kn G1 s2 m1 σ2 H1 e1 r1 r2 q1)⟩
/-- name = value -/
theorem ds_set (i : Nat) {x : Str} {pos' : Pos} (hN : X.N.Nodup) (he : PE X e (liftE X.K qe)) (hi : X.N[i]? = some x := by rfl) (hx : Loc X.env.scope x := by first | exact Or.inl rfl | exact Or.inr rfl) (hs : swapsWith e (some (.Name x pos')) pos.line X.env = pure false := by rfl)
    (hf : X.fn x = true ∨ X.env.scope.names.lookup x = some .local := by first | exact .inr rfl | exact .inl rfl | assumption) : PS X (.Assign [.Name x pos'] e pos) (liftS X.K (sAsg (.nm i) qe)) := ps_imp (ps_set hN hi hx he hs hf) lift_asg
/-- pattern = value -/
theorem ds_asg {tg : Expr} {p : Pat} (he : PE X e (liftE X.K qe)) (hg : PG X tg (tgOf X.K p)) (hs : swapsWithSole [tg] e pos.line X.env = pure false := by rfl) (hw : swappedStores [tg] e X.env = pure none := by rfl)
    (h1 : (assignEach [tg] X.env).map (·.2) = [assign tg X.env] := by rfl) : PS X (.Assign [tg] e pos) (liftS X.K (sAsg p qe)) := ps_imp (ps_asg he hg hs hw h1) lift_asg
theorem ds_par {x y : Str} {a b : Expr} {px py pt : Pos} {kt k2 pt2} (i j : Nat) (hc : X.calm = true) (hN : X.N.Nodup) (ha : PA X [a, b] (liftA X.K qa)) (hij : i ≠ j := by decide) (hi : X.N[i]? = some x := by rfl) (hj : X.N[j]? = some y := by rfl)
    (hx : X.env.scope.names.lookup x = some .local := by rfl) (hy : X.env.scope.names.lookup y = some .local := by rfl)
    (hw : swappedStores [.Tuple [.Name x px, .Name y py] kt pt] (.Tuple [a, b] k2 pt2) X.env = pure (some [x, y]) := by rfl)
    (hs : swapsWithSole [.Tuple [.Name x px, .Name y py] kt pt] (.Tuple [a, b] k2 pt2) pos.line X.env = pure false := by rfl) :
    PS X (.Assign [.Tuple [.Name x px, .Name y py] kt pt] (.Tuple [a, b] k2 pt2) pos) (liftS X.K (sPar i j qa)) :=
  ps_imp (ps_par hc hN hi hj hij hx hy ha hw hs) fun D σ H ⟨G, s, m, E, rm, rs, q, kn, kr, kb, kc⟩ => ⟨G, s, m, _, rm, rs, q, fun G1 ds m1 vs H1 e1 r1 rd q1 => by
    split at q1
    · obtain ⟨v, w, rfl, h1, h2⟩ := rv2 rd
      exact ⟨v, w, rfl, kn G1 _ m1 _ H1 e1 r1 (((rs.mono e1).set i h1).set j h2) q1⟩
    · exact q1.elim⟩
/-! ### o[i] = v -/
def sSub (qo qi qv : QE) : QS := fun E s m => qv s m fun v m1 => qo s m1 fun o m2 => qi s m2 fun i m3 => match o with
  | .ref a => (∃ ds k j, i = .int k ∧ m3 a = some (.lst ds) ∧ ixN ds.length k = some j ∧ E.nx s (mset m3 a (.lst (ds.set j v)))) ∨
      ∃ ks k, m3 a = some (.dK ks) ∧ keyD i = some k ∧ ks.length < sizeLine ∧ E.nx s (mset m3 a (.dK (putD ks k v)))
  | _ => False
def rSetA : TSet := fun o i v H Q => rSetL o i v H Q ∨ ∃ a H', o = .ref a ∧ DPut H a i v H' ∧ Q H'
theorem set_any (hu : X.A.units + 1 < cLine) : PSet X rSetA := by
  intro pins s σ H o i v ov iv u Q I ro ri rv h
  rcases h with h | ⟨a, H', rfl, g, q⟩
  · exact set_list pins s σ H o i v ov iv u Q I ro ri rv h
  · obtain rfl : ov = Value.ref a := ro
    exact d_setItem hu I g ri rv fun s' I' => ⟨H', I', q⟩
theorem ds_sub {o i value : Expr} {qo qi qv : QE} {pos' : Pos} (hu : X.A.units + 1 < cLine) (ho : PE X o (liftE X.K qo)) (hi : PE X i (liftE X.K qi)) (hv : PE X value (liftE X.K qv))
    (ha : ∀ v, assign (.Subscript o i pos') X.env v = (do
      let ov ← holding [v] (eval o X.env)
      let iv ← holding [v, ov] (eval i X.env)
      standAt pos'
      holding [v, ov, iv] (setItem ov iv v)
      release [v, ov, iv] []) := by intro _; rfl)
    (hs : swapsWithSole [.Subscript o i pos'] value pos.line X.env = pure false := by rfl) (hw : swappedStores [.Subscript o i pos'] value X.env = pure none := by rfl)
    (h1 : (assignEach [.Subscript o i pos'] X.env).map (·.2) = [assign (.Subscript o i pos') X.env] := by rfl) :
    PS X (.Assign [.Subscript o i pos'] value pos) (liftS X.K (sSub qo qi qv)) :=
  ps_imp (ps_asg hv (pg_sub ho hi (set_any hu) ha) hs hw h1) fun D σ H ⟨G, s, m, E, rm, rs, q, kn, kr, kb, kc⟩ => ⟨G, s, m, _, rm, rs, q, fun G1 v m1 w1 H1 e1 r1 rv q1 => ⟨G1, s, m1, _, r1, rs.mono e1, q1, fun G2 o m2 w2 H2 e2 r2 ro q2 =>
    ⟨G2, s, m2, _, r2, rs.mono (e1.trans e2), q2, fun G3 i m3 w3 H3 e3 r3 ri q3 => by
      cases o with
      | ref a =>
        obtain rfl : w2 = .ref a := ro
        rcases q3 with ⟨ds, k, j, rfl, hm, hj, q3⟩ | ⟨ks, k, hm, hk, hl, q3⟩
        · obtain rfl : w3 = .int k := ri
          obtain ⟨_, w, hw, ys, rfl, h2⟩ := r3.mem a _ hm
          exact .inl ⟨a, ys, k, j, rfl, rfl, hw, by rw [← h2.length]; exact hj, kn G3 s _ σ _ ((e1.trans e2).trans e3) (r3.put (o := .lst _) hm ⟨_, rfl, RVs.set (RV.mono (e2.trans e3) v rv) j h2⟩) (rs.mono ((e1.trans e2).trans e3)) q3⟩
        · obtain ⟨_, w, hw, ys, rfl, h2⟩ := r3.mem a _ hm
          exact .inr ⟨a, _, rfl, .inl ⟨ys, k, hw, ri.key hk, by rw [← h2.length]; exact hl, rfl⟩, kn G3 s _ σ _ ((e1.trans e2).trans e3) (r3.put (o := .dK _) hm ⟨_, rfl, RKs.put k (RV.mono (e2.trans e3) v rv) h2⟩) (rs.mono ((e1.trans e2).trans e3)) q3⟩
      | _ => exact q3.elim⟩⟩⟩
/-! ### weakening what is known, opening what is hidden -/
def sWk (t : QS) : QS := fun E s m => ∃ m', MLe m m' ∧ t E s m'
end
/-! ### loops -/
/-- a walk over data: n turns -/
structure Wk (K : PySem.W.Frag) (J : It) (ds : List D) (C : Mem → Prop) (G0 : Hp) : Prop where
  stop : ∀ G m H, Sub G0 G → RelM K m G H → C m → J.stop ds.length H
  go : ∀ G m H i, Sub G0 G → RelM K m G H → C m → i < ds.length → J.go i H
  yld : ∀ G m H i x H', Sub G0 G → RelM K m G H → C m → i < ds.length → J.yld i H x H' → ∃ G' d, Sub G G' ∧ RelM K m G' H' ∧ ds[i]? = some d ∧ RV K G' d x
abbrev QI := DSt → Mem → (List D → (Mem → Prop) → Mem → Prop) → Prop
def liftI (K : PySem.W.Frag) (q : QI) : TI := fun σ H R => ∃ G s m Φ, RelM K m G H ∧ RelS K s G σ ∧ q s m Φ ∧ ∀ G' ds C m' J H', Sub G G' → RelM K m' G' H' → Wk K J ds C G' → Φ ds C m' → R J H'
theorem pi_imp {X : Cx} {tg e : Expr} {t t' : TI} (h : PI X tg e t) (i : ∀ σ H Q, t' σ H Q → t σ H Q) : PI X tg e t' := ⟨fun pins s σ H Q I w => h.run pins s σ H Q I (i σ H Q w)⟩
/-- for target in iter: I: the word by the turn -/
def sFor (qi : QI) (p : Pat) (qb : QS) : QS := fun E s m => qi s m fun ds C m1 => ∃ I : Nat → DSt → Mem → Prop, I 0 s m1 ∧ (∀ i s' m', i ≤ ds.length → I i s' m' → C m') ∧
  (∀ i d s' m', ds[i]? = some d → I i s' m' → match asg p d s' with
    | some s2 => qb { E with nx := I (i + 1), ct := I (i + 1), bk := E.nx } s2 m'
    | none => False) ∧ ∀ s' m', I ds.length s' m' → E.nx s' m'
theorem ds_for {X : Cx} {tg iter : Expr} {body : List Stmt} {qi : QI} {p : Pat} {qb : QS} {pos : Pos} (hp : PassesOwn (model X.prog X.w) X.A X.env X.xe) (hc : X.calm = true) (hi : PI X tg iter (liftI X.K qi)) (hg : PG X tg (tgOf X.K p)) (hb : PSs X body (liftS X.K qb))
    (hs : ∀ x, foldedSetIterable iter X.env x = pure x := by intro _; rfl) : PS X (.For tg iter body [] pos) (liftS X.K (sFor qi p qb)) :=
  ps_imp (ps_for hp hc hi hg hb hs) fun D σ H ⟨G, s, m, E, rm, rs, q, kn, kr, kb, kc⟩ => ⟨G, s, m, _, rm, rs, q, fun G1 ds C m1 J H1 e1 r1 wk ⟨I, h0, hC, hS, hE⟩ => by
    refine ⟨fun i n σ' H' => n = ds.length - i ∧ i ≤ ds.length ∧ ∃ G2 s2 m2, Sub G1 G2 ∧ RelM X.K m2 G2 H' ∧ RelS X.K s2 G2 σ' ∧ I i s2 m2, ⟨_, rfl, Nat.zero_le _, G1, s, m1, Sub.refl G1, r1, rs.mono e1, h0⟩, ?_⟩
    rintro i n σ' H' ⟨rfl, hi', G2, s2, m2, e2, r2, rs2, h2⟩
    by_cases hlt : i < ds.length
    · refine .inr ⟨wk.go G2 m2 H' i e2 r2 (hC i s2 m2 hi' h2) hlt, fun σ3 H3 => ∃ G3 s3 m3, Sub G1 G3 ∧ RelM X.K m3 G3 H3 ∧ RelS X.K s3 G3 σ3 ∧ I (i + 1) s3 m3, fun σ3 H3 ⟨G3, s3, m3, a, b, c, d⟩ => ⟨_, by omega, rfl, hlt, G3, s3, m3, a, b, c, d⟩, fun x H3 y => ?_⟩
      obtain ⟨G3, d, e3, r3, hd, rd⟩ := wk.yld G2 m2 H' i x H3 e2 r2 (hC i s2 m2 hi' h2) hlt y
      have hs := hS i d s2 m2 hd h2
      cases ha : asg p d s2 with
      | none => rw [ha] at hs; exact hs.elim
      | some s3 =>
        rw [ha] at hs
        obtain ⟨σ3, rs3, run, _⟩ := asg_run r3.sub p rd (rs2.mono e3) ha
        have ee := e2.trans e3
        refine run _ ⟨G3, s3, m2, _, r3, rs3, hs, ?_, kr.mono (e1.trans ee), kn.mono (e1.trans ee), ?_⟩
        · exact fun G4 s4 m4 σ4 H4 e4 r4 rs4 h4 => ⟨G4, s4, m4, ee.trans e4, r4, rs4, h4⟩
        · exact fun G4 s4 m4 σ4 H4 e4 r4 rs4 h4 => ⟨G4, s4, m4, ee.trans e4, r4, rs4, h4⟩
    · have e : i = ds.length := by omega
      subst e
      exact .inl ⟨wk.stop G2 m2 H' e2 r2 (hC _ s2 m2 hi' h2), kn G2 s2 m2 σ' H' (e1.trans e2) r2 rs2 (hE s2 m2 h2)⟩⟩
/-- while: I by a measure -/
def sWhile (c : QT) (qb : QS) : QS := fun E s m => ∃ I : Nat → DSt → Mem → Prop, (∃ n, I n s m) ∧ ∀ n s' m', I n s' m' → c s' m' fun b m1 => qIf b (qb { E with nx := fun s2 m2 => ∃ n', n' < n ∧ I n' s2 m2, ct := fun s2 m2 => ∃ n', n' < n ∧ I n' s2 m2, bk := E.nx } s' m1) (E.nx s' m1)
theorem ds_while {X : Cx} {c : Expr} {body : List Stmt} {qc : QT} {qb : QS} {pos : Pos} (hp : PassesOwn (model X.prog X.w) X.A X.env X.xe) (hc : PT X c (liftT X.K qc)) (hb : PSs X body (liftS X.K qb)) : PS X (.While c body [] pos) (liftS X.K (sWhile qc qb)) :=
  ps_imp (ps_while hp hc hb) fun D σ H ⟨G, s, m, E, rm, rs, ⟨I, ⟨n0, h0⟩, hS⟩, kn, kr, kb, kc⟩ => by
    refine ⟨fun n σ' H' => ∃ G2 s2 m2, Sub G G2 ∧ RelM X.K m2 G2 H' ∧ RelS X.K s2 G2 σ' ∧ I n s2 m2, ⟨n0, G, s, m, Sub.refl G, rm, rs, h0⟩, ?_⟩
    rintro n σ' H' ⟨G2, s2, m2, e2, r2, rs2, h2⟩
    refine ⟨G2, s2, m2, _, r2, rs2, hS n s2 m2 h2, fun G3 b m3 H3 e3 r3 q3 => ?_⟩
    have q3 := qif_e q3
    dsimp only
    have ee := e2.trans e3
    cases b with
    | true =>
      rw [if_pos rfl] at q3 ⊢
      refine ⟨fun σ4 H4 => ∃ n', n' < n ∧ ∃ G4 s4 m4, Sub G G4 ∧ RelM X.K m4 G4 H4 ∧ RelS X.K s4 G4 σ4 ∧ I n' s4 m4, fun σ4 H4 z => z, G3, s2, m3, _, r3, rs2.mono e3, q3, ?_, kr.mono ee, kn.mono ee, ?_⟩
      · exact fun G4 s4 m4 σ4 H4 e4 r4 rs4 ⟨n', hn, h4⟩ => ⟨n', hn, G4, s4, m4, ee.trans e4, r4, rs4, h4⟩
      · exact fun G4 s4 m4 σ4 H4 e4 r4 rs4 ⟨n', hn, h4⟩ => ⟨n', hn, G4, s4, m4, ee.trans e4, r4, rs4, h4⟩
    | false =>
      rw [if_neg Bool.false_ne_true] at q3 ⊢
      exact kn G3 s2 m3 σ' H3 ee r3 (rs2.mono e3) q3
/-! ### sources -/
section
variable {X : Cx} {tg e : Expr} {qe : QE} {qa : QA}
theorem wk_list {K : PySem.W.Frag} {G0 : Hp} {a : Addr} {ds : List D} {xs : List V} (h : SqL K G0 a xs) (r : RVs K G0 ds xs) : Wk K (Itl K a) ds (fun _ => True) G0 where
  stop := fun G m H e rm _ => ⟨xs, rm.sub.l (e.l h), by rw [r.length]; exact Nat.le_refl _⟩
  go := fun G m H i e rm _ hi => ⟨xs, xs[i]'(by rw [← r.length]; exact hi), rm.sub.l (e.l h), by simp [show i < xs.length by rw [← r.length]; exact hi]⟩
  yld := fun G m H i x H' e rm _ hi y => by
    obtain ⟨rfl, y⟩ := y
    obtain ⟨d, h1, h2⟩ := r.getV (y xs (rm.sub.l (e.l h)))
    exact ⟨G, d, Sub.refl G, rm, h1, RV.mono e d h2⟩
/-- a list that may change, but does not while it is walked -/
theorem wk_ref {K : PySem.W.Frag} {G0 : Hp} {a : Addr} {ds : List D} : Wk K (Itl K a) ds (fun m => m a = some (.lst ds)) G0 where
  stop := fun G m H e rm hm => by
    obtain ⟨_, w, hw, xs, rfl, h2⟩ := rm.mem a _ hm
    exact ⟨xs, .inl (.inl hw), by rw [h2.length]; exact Nat.le_refl _⟩
  go := fun G m H i e rm hm hi => by
    obtain ⟨_, w, hw, xs, rfl, h2⟩ := rm.mem a _ hm
    exact ⟨xs, xs[i]'(by rw [← h2.length]; exact hi), .inl (.inl hw), by simp [show i < xs.length by rw [← h2.length]; exact hi]⟩
  yld := fun G m H i x H' e rm hm hi y => by
    obtain ⟨_, w, hw, xs, rfl, h2⟩ := rm.mem a _ hm
    obtain ⟨rfl, y⟩ := y
    obtain ⟨d, h3, h4⟩ := h2.getV (y xs (.inl (.inl hw)))
    exact ⟨G, d, Sub.refl G, rm, h3, h4⟩
theorem wk_range {K : PySem.W.Frag} {G0 : Hp} {lo : Int} {n : Nat} : Wk K (Itr lo n) ((List.range n).map fun (i : Nat) => D.int (lo + i)) (fun _ => True) G0 where
  stop := fun G m H e rm _ => by rw [List.length_map, List.length_range]; exact Nat.le_refl _
  go := fun G m H i e rm _ hi => by rw [List.length_map, List.length_range] at hi; exact hi
  yld := fun G m H i x H' e rm _ hi y => by
    obtain ⟨rfl, rfl⟩ := y
    rw [List.length_map, List.length_range] at hi
    exact ⟨G, .int (lo + i), Sub.refl G, rm, by simp [hi], rfl⟩
def iLst (qe : QE) : QI := fun s m Φ => qe s m fun x m1 => match x with
  | .lst ds => Φ ds (fun _ => True) m1
  | .ref a => ∃ ds, m1 a = some (.lst ds) ∧ Φ ds (fun m => m a = some (.lst ds)) m1
  | _ => False
theorem di_lst (h : PE X e (liftE X.K qe)) : PI X tg e (liftI X.K (iLst qe)) := pi_imp (pi_list h) fun σ H R ⟨G, s, m, Φ, rm, rs, q, k⟩ => ⟨G, s, m, _, rm, rs, q, fun G1 x m1 v H1 e1 r1 rx q1 => by
  cases x with
  | lst ds =>
    obtain ⟨a, xs, rfl, h1, h2⟩ := rx
    exact ⟨a, rfl, ⟨xs, r1.sub.l h1⟩, k G1 ds _ m1 _ H1 e1 r1 (wk_list h1 h2) q1⟩
  | ref a =>
    obtain rfl : v = .ref a := rx
    obtain ⟨ds, hm, q1⟩ := q1
    obtain ⟨_, w, hw, xs, rfl, h2⟩ := r1.mem a _ hm
    exact ⟨a, rfl, ⟨xs, .inl (.inl hw)⟩, k G1 ds _ m1 _ H1 e1 r1 wk_ref q1⟩
  | _ => exact q1.elim⟩
def iTup (qe : QE) : QI := fun s m Φ => qe s m fun x m1 => match x with
  | .tup ds => Φ ds (fun _ => True) m1
  | _ => False
/-- range(n), range(i, j) -/
def intsD (lo : Int) (n : Nat) : List D := (List.range n).map fun (i : Nat) => D.int (lo + i)
def iRange1 (qa : QA) : QI := fun s m Φ => qa s m fun ds m1 => match ds with
  | [.int j] => -(2 ^ 62) ≤ j ∧ j < 2 ^ 62 ∧ Φ (intsD 0 j.toNat) (fun _ => True) m1
  | _ => False
theorem di_range1 {a : Expr} {p pos : Pos} (hg : Gl X "range") (hm : X.mg "range" = none) (ha : PA X [a] (liftA X.K qa)) (hs : starEach [a] X.env = [(false, eval a X.env)] := by rfl) : PI X tg (.Call (.Name "range" p) [a] [] pos) (liftI X.K (iRange1 qa)) :=
  pi_imp (pi_range1 hg hm ha hs) fun σ H R ⟨G, s, m, Φ, rm, rs, q, k⟩ => ⟨G, s, m, _, rm, rs, q, fun G1 ds m1 vs H1 e1 r1 rd q1 => by
    split at q1
    · rename_i j
      obtain ⟨v, rfl, h⟩ := rv1 rd
      obtain rfl : v = .int j := h
      exact ⟨j, rfl, q1.1, q1.2.1, k G1 _ _ m1 _ H1 e1 r1 wk_range q1.2.2⟩
    · exact q1.elim⟩
def iRange2 (qa : QA) : QI := fun s m Φ => qa s m fun ds m1 => match ds with
  | [.int i, .int j] => (-(2 ^ 62) ≤ i ∧ i < 2 ^ 62 ∧ -(2 ^ 62) ≤ j ∧ j < 2 ^ 62) ∧ Φ (intsD i (j - i).toNat) (fun _ => True) m1
  | _ => False
end
end L3
end
section
namespace L3
open PySem L2
/-! ### dicts walked -/
def dKey : Key → D
  | .inl i => .int i
  | .inr x => .str x
section
variable {K : PySem.W.Frag} {G0 : Hp} {a : Addr} {o : Obj} {ks : List (Key × D)} {xs : List (Key × V)}
end
def iDict (f : Key × D → D) (qe : QE) : QI := fun s m Φ => qe s m fun x m1 => match x with
  | .ref a => ∃ ks, m1 a = some (.fz ks) ∧ Φ (ks.map f) (fun m => m a = some (.fz ks)) m1
  | _ => False
abbrev fItem : Key × D → D := fun p => .tup [dKey p.1, p.2]
abbrev fKey : Key × D → D := fun p => dKey p.1
abbrev fVal : Key × D → D := fun p => p.2
section
variable {X : Cx} {tg e : Expr} {qe : QE} {apos cpos : Pos} {s : Shared}
/-- an expression, a statement, while a dict is locked -/
def qLock (q : QE) : QE := fun s m Φ => ∃ a ks, m a = some (.dK ks) ∧ q s (mset m a (.fz ks)) fun d m' => Φ d (mset m' a (.dK ks))
def sLock (q : QS) : QS := fun E s m => ∃ a ks, m a = some (.dK ks) ∧ q ⟨fun s' m' => E.nx s' (mset m' a (.dK ks)), fun d m' => E.rt d (mset m' a (.dK ks)), fun s' m' => E.bk s' (mset m' a (.dK ks)), fun s' m' => E.ct s' (mset m' a (.dK ks))⟩ s (mset m a (.fz ks))
end
/-! ### zip, enumerate -/
/-- pairs of the items, up to the shorter -/
def zipD : List D → List D → List D
  | x :: xs, y :: ys => .tup [x, y] :: zipD xs ys
  | _, _ => []
theorem zipD_length : ∀ xs ys : List D, (zipD xs ys).length = min xs.length ys.length
  | [], _ => by simp [zipD]
  | _ :: _, [] => by simp [zipD]
  | x :: xs, y :: ys => by
    rw [zipD, List.length_cons, zipD_length xs ys, List.length_cons, List.length_cons]; omega
theorem zipD_get : ∀ {xs ys : List D} {i : Nat} {x y : D}, xs[i]? = some x → ys[i]? = some y → (zipD xs ys)[i]? = some (.tup [x, y])
  | [], _, _, _, _, h, _ => by simp at h
  | _ :: _, [], _, _, _, _, h => by simp at h
  | a :: xs, b :: ys, 0, x, y, h1, h2 => by
    cases h1; cases h2; rfl
  | a :: xs, b :: ys, i + 1, x, y, h1, h2 => by
    rw [zipD]
    exact zipD_get (xs := xs) (ys := ys) (i := i) h1 h2
section
variable {K : PySem.W.Frag} {G0 : Hp} {a b : Addr} {ds es : List D}
/-- what tells the list at a -/
def LsAt (K : PySem.W.Frag) (C : Mem → Prop) (G0 : Hp) (a : Addr) (ds : List D) : Prop := ∀ G m H, Sub G0 G → RelM K m G H → C m → ∃ xs, SqL K H a xs ∧ RVs K G ds xs
theorem lsAt_lst {xs : List V} (h : SqL K G0 a xs) (r : RVs K G0 ds xs) : LsAt K (fun _ => True) G0 a ds := fun G m H e rm _ => ⟨xs, rm.sub.l (e.l h), RVs.mono e _ r⟩
theorem lsAt_ref : LsAt K (fun m => m a = some (.lst ds)) G0 a ds := fun G m H e rm hm => by
  obtain ⟨_, w, hw, xs, rfl, h2⟩ := rm.mem a _ hm
  exact ⟨xs, .inl (.inl hw), h2⟩
theorem wk_zip {C1 C2 : Mem → Prop} (h1 : LsAt K C1 G0 a ds) (h2 : LsAt K C2 G0 b es) : Wk K (Itz K a b) (zipD ds es) (fun m => C1 m ∧ C2 m) G0 where
  stop := fun G m H e rm hc => by
    obtain ⟨xs, s1, r1⟩ := h1 G m H e rm hc.1
    obtain ⟨ys, s2, r2⟩ := h2 G m H e rm hc.2
    exact ⟨xs, ys, s1, s2, by rw [zipD_length, r1.length, r2.length]; omega⟩
  go := fun G m H i e rm hc hi => by
    obtain ⟨xs, s1, r1⟩ := h1 G m H e rm hc.1
    obtain ⟨ys, s2, r2⟩ := h2 G m H e rm hc.2
    rw [zipD_length, r1.length, r2.length] at hi
    have a1 : i < xs.length := by omega
    have a2 : i < ys.length := by omega
    exact ⟨xs, ys, xs[i], ys[i], s1, s2, by simp [a1], by simp [a2]⟩
  yld := fun G m H i x H' e rm hc hi y => by
    obtain ⟨xs, s1, r1⟩ := h1 G m H e rm hc.1
    obtain ⟨ys, s2, r2⟩ := h2 G m H e rm hc.2
    obtain ⟨T, u, v, rfl, hT, rfl, y1, y2⟩ := y
    obtain ⟨d1, a1, b1⟩ := r1.getV (y1 xs s1)
    obtain ⟨d2, a2, b2⟩ := r2.getV (y2 ys s2)
    obtain ⟨r3, e3⟩ := rm.lay (u := .tup [u, v]) hT
    exact ⟨_, .tup [d1, d2], e3, r3, zipD_get a1 a2, T, _, rfl, .inl (.inl upd_same), RVs.cons (RV.mono e3 d1 b1) (RVs.one (RV.mono e3 d2 b2))⟩
theorem wk_zipT {xs ys : List V} (h1 : SqT K G0 a xs) (r1 : RVs K G0 ds xs) (h2 : SqT K G0 b ys) (r2 : RVs K G0 es ys) : Wk K (RZ.ItzT K a b) (zipD ds es) (fun _ => True) G0 where
  stop := fun G m H e rm hc => ⟨xs, ys, rm.sub.t (e.t h1), rm.sub.t (e.t h2), by rw [zipD_length, r1.length, r2.length]; omega⟩
  go := fun G m H i e rm hc hi => by
    rw [zipD_length, r1.length, r2.length] at hi
    have a1 : i < xs.length := by omega
    have a2 : i < ys.length := by omega
    exact ⟨xs, ys, xs[i], ys[i], rm.sub.t (e.t h1), rm.sub.t (e.t h2), by simp [a1], by simp [a2]⟩
  yld := fun G m H i x H' e rm hc hi y => by
    obtain ⟨T, u, v, rfl, hT, rfl, y1, y2⟩ := y
    obtain ⟨d1, a1, b1⟩ := r1.getV (y1 xs (rm.sub.t (e.t h1)))
    obtain ⟨d2, a2, b2⟩ := r2.getV (y2 ys (rm.sub.t (e.t h2)))
    obtain ⟨r3, e3⟩ := rm.lay (u := .tup [u, v]) hT
    exact ⟨_, .tup [d1, d2], e3, r3, zipD_get a1 a2, T, _, rfl, .inl (.inl upd_same), RVs.cons (RV.mono (e.trans e3) d1 b1) (RVs.one (RV.mono (e.trans e3) d2 b2))⟩
/-- enumerate -/
def enumD (ds : List D) (n : Nat) : List D := match ds with
  | [] => []
  | d :: ds => .tup [.int n, d] :: enumD ds (n + 1)
end
/-- zip(x, y): two lists (each one that may change, or not), or two tuples -/
def iZipD (qa : QA) : QI := fun s m Φ => qa s m fun ds m1 => match ds with
  | [.lst xs, .lst ys] => Φ (zipD xs ys) (fun _ => True) m1
  | [.tup xs, .tup ys] => Φ (zipD xs ys) (fun _ => True) m1
  | [.ref a, .ref b] => ∃ xs ys, m1 a = some (.lst xs) ∧ m1 b = some (.lst ys) ∧ Φ (zipD xs ys) (fun m => m a = some (.lst xs) ∧ m b = some (.lst ys)) m1
  | [.ref a, .lst ys] => ∃ xs, m1 a = some (.lst xs) ∧ Φ (zipD xs ys) (fun m => m a = some (.lst xs)) m1
  | [.lst xs, .ref b] => ∃ ys, m1 b = some (.lst ys) ∧ Φ (zipD xs ys) (fun m => m b = some (.lst ys)) m1
  | _ => False
theorem Wk.imp {K : PySem.W.Frag} {J : It} {ds : List D} {C C' : Mem → Prop} {G0 : Hp} (w : Wk K J ds C G0) (h : ∀ m, C' m → C m) : Wk K J ds C' G0 :=
  ⟨fun G m H e rm c => w.stop G m H e rm (h m c), fun G m H i e rm c => w.go G m H i e rm (h m c), fun G m H i x H' e rm c => w.yld G m H i x H' e rm (h m c)⟩
section
variable {X : Cx} {tg e : Expr} {qe : QE} {qa : QA}
theorem di_zip {e2 : Expr} {p pos tpos : Pos} {elts : List Expr} {kk : Nat} (hg : Gl X "zip") (hm : X.mg "zip" = none) (ha : PA X [e, e2] (liftA X.K qa)) (hs : starEach [e, e2] X.env = (false, eval e X.env) :: starEach [e2] X.env := by rfl) (hpl : (backTo pos (starEach [e2] X.env)).any (·.1) = false := by rfl) :
    PI X (.Tuple elts kk tpos) (.Call (.Name "zip" p) [e, e2] [] pos) (liftI X.K (iZipD qa)) :=
  pi_imp (RZ.pi_zipA hg hm ha hs hpl) fun σ H R ⟨G, s, m, Φ, rm, rs, q, k⟩ => ⟨G, s, m, _, rm, rs, q, fun G1 ds m1 vs H1 e1 r1 rd q1 => by
    split at q1
    · obtain ⟨v, u, rfl, ⟨a, xs, rfl, h1, h2⟩, b, ys, rfl, h3, h4⟩ := rv2 rd
      exact ⟨a, b, xs, ys, rfl, .inl ⟨r1.sub.l h1, r1.sub.l h3, k G1 _ _ m1 _ H1 e1 r1 ((wk_zip (lsAt_lst h1 h2) (lsAt_lst h3 h4)).imp fun m _ => ⟨trivial, trivial⟩) q1⟩⟩
    · obtain ⟨v, u, rfl, ⟨a, xs, rfl, h1, h2⟩, b, ys, rfl, h3, h4⟩ := rv2 rd
      exact ⟨a, b, xs, ys, rfl, .inr ⟨r1.sub.t h1, r1.sub.t h3, k G1 _ _ m1 _ H1 e1 r1 (wk_zipT h1 h2 h3 h4) q1⟩⟩
    · rename_i a b
      obtain ⟨v, u, rfl, h1, h2⟩ := rv2 rd
      obtain rfl : v = .ref a := h1
      obtain rfl : u = .ref b := h2
      obtain ⟨xs, ys, hx, hy, q1⟩ := q1
      obtain ⟨_, w, hw, vs, rfl, g1⟩ := r1.mem a _ hx
      obtain ⟨_, w', hw', us, rfl, g2⟩ := r1.mem b _ hy
      exact ⟨a, b, vs, us, rfl, .inl ⟨.inl (.inl hw), .inl (.inl hw'), k G1 _ _ m1 _ H1 e1 r1 (wk_zip lsAt_ref lsAt_ref) q1⟩⟩
    · rename_i a zs
      obtain ⟨v, u, rfl, h1, b, us, rfl, h3, h4⟩ := rv2 rd
      obtain rfl : v = .ref a := h1
      obtain ⟨xs, hx, q1⟩ := q1
      obtain ⟨_, w, hw, vs, rfl, g1⟩ := r1.mem a _ hx
      exact ⟨a, b, vs, us, rfl, .inl ⟨.inl (.inl hw), r1.sub.l h3, k G1 _ _ m1 _ H1 e1 r1 ((wk_zip lsAt_ref (lsAt_lst h3 h4)).imp fun m c => ⟨c, trivial⟩) q1⟩⟩
    · rename_i zs b
      obtain ⟨v, u, rfl, ⟨a, vs, rfl, h3, h4⟩, h1⟩ := rv2 rd
      obtain rfl : u = .ref b := h1
      obtain ⟨xs, hx, q1⟩ := q1
      obtain ⟨_, w, hw, us, rfl, g1⟩ := r1.mem b _ hx
      exact ⟨a, b, vs, us, rfl, .inl ⟨r1.sub.l h3, .inl (.inl hw), k G1 _ _ m1 _ H1 e1 r1 ((wk_zip (lsAt_lst h3 h4) lsAt_ref).imp fun m c => ⟨trivial, c⟩) q1⟩⟩
    · exact q1.elim⟩
def iEnumD (qa : QA) : QI := fun s m Φ => qa s m fun ds m1 => match ds with
  | [.lst xs] => Φ (enumD xs 0) (fun _ => True) m1
  | [.ref a] => ∃ xs, m1 a = some (.lst xs) ∧ Φ (enumD xs 0) (fun m => m a = some (.lst xs)) m1
  | _ => False
end
/-! ### comprehensions -/
def wipeD (s : DSt) : List Nat → DSt
  | [] => s
  | v :: vs => (wipeD s vs).set v none
theorem wipeD_rel {K : PySem.W.Frag} {G : Hp} {s : DSt} {σ : St} (r : RelS K s G σ) : ∀ vs : List Nat, RelS K (wipeD s vs) G (wipe σ vs)
  | [] => r
  | v :: vs => by
    have ih := wipeD_rel r vs
    refine ⟨by show ((wipeD s vs).set v none).length = ((wipe σ vs).set v none).length; rw [List.length_set, List.length_set]; exact ih.len, fun i d h => ?_⟩
    have h : ((wipeD s vs).set v none)[i]? = some (some d) := h
    show ∃ u, ((wipe σ vs).set v none)[i]? = some (some u) ∧ RV K G d u
    rw [List.getElem?_set] at h
    rw [List.getElem?_set]
    split at h
    · split at h
      · cases h
      · cases h
    · rename_i e
      rw [if_neg e]
      exact ih.loc i d h
abbrev QTs := QT
def qYes : QT := fun _ m Φ => Φ true m
theorem pts_imp {X : Cx} {e : List Expr} {t t' : TT} (h : PTs X e t) (i : ∀ σ H Q, t' σ H Q → t σ H Q) : PTs X e t' := ⟨fun pins s σ H Q I w => h.run pins s σ H Q I (i σ H Q w)⟩
theorem dts_nil {X : Cx} {K : PySem.W.Frag} : PTs X [] (liftT K qYes) := pts_imp pts_nil fun σ H Q ⟨G, s, m, Φ, rm, rs, q, k⟩ => k G true m H (Sub.refl G) rm q
/-- a list comprehension: J by the turn, the list so far, the memory (the new list at a within) -/
def LcIn (p : Pat) (qt : QT) (qe : QE) (s1 : DSt) (ds : List D) (C : Mem → Prop) (m1 : Mem) (Φ : DK) : Prop := ∀ a, m1 a = none → ∃ J : Nat → List D → Mem → Prop, J 0 [] (mset m1 a (.lst [])) ∧
  (∀ i acc m', i ≤ ds.length → J i acc m' → C m' ∧ m' a = some (.lst acc)) ∧
  (∀ i d acc m', ds[i]? = some d → J i acc m' → match asg p d s1 with
    | some s2 => qt s2 m' fun b m2 => qIf b (qe s2 m2 fun y m3 => ∃ acc', m3 a = some (.lst acc') ∧ acc'.length < sizeLine ∧ J (i + 1) (acc' ++ [y]) (mset m3 a (.lst (acc' ++ [y])))) (∃ acc', J (i + 1) acc' m2)
    | none => False) ∧
  ∀ acc m', J ds.length acc m' → m' a = some (.lst acc) → Φ (.ref a) m'
def qLc (qi : QI) (p : Pat) (qt : QT) (qe : QE) (vs : List Nat) : QE := fun s m Φ => qi s m fun ds C m1 => LcIn p qt qe (wipeD s vs) ds C m1 Φ
theorem lift_lc {K : PySem.W.Frag} {qi : QI} {p : Pat} {qt : QT} {qe : QE} {vs : List Nat} (hv : ∀ i ∈ slots p, i ∈ vs) : ∀ σ H Q, liftE K (qLc qi p qt qe vs) σ H Q → tLc (liftI K qi) (tgOf K p) (liftT K qt) (liftE K qe) vs σ H Q :=
  fun σ H Q ⟨G, s, m, Φ, rm, rs, q, k⟩ => ⟨G, s, m, _, rm, rs, q, fun G1 ds C m1 J0 H1 e1 r1 wk h => by
    intro D hD
    obtain ⟨J, h0, hC, hS, hE⟩ := h D (r1.free hD)
    have rw0 := r1.new (o := .lst []) (u := .lst []) hD ⟨[], rfl, rfl⟩
    refine ⟨fun i n H' => n = ds.length - i ∧ i ≤ ds.length ∧ ∃ G2 acc m2, Sub G1 G2 ∧ RelM K m2 G2 H' ∧ J i acc m2, ⟨_, rfl, Nat.zero_le _, G1, [], _, Sub.refl G1, rw0, h0⟩, ?_⟩
    rintro i n H' ⟨rfl, hi, G2, acc, m2, e2, r2, h2⟩
    by_cases hlt : i < ds.length
    · refine .inr ⟨wk.go G2 m2 H' i e2 r2 (hC i acc m2 hi h2).1 hlt, fun H3 => ∃ G3 acc m3, Sub G1 G3 ∧ RelM K m3 G3 H3 ∧ J (i + 1) acc m3, fun H3 ⟨G3, acc, m3, a, b, c⟩ => ⟨_, by omega, rfl, hlt, G3, acc, m3, a, b, c⟩, fun x H3 y => ?_⟩
      obtain ⟨G3, d, e3, r3, hd, rd⟩ := wk.yld G2 m2 H' i x H3 e2 r2 (hC i acc m2 hi h2).1 hlt y
      have hs := hS i d acc m2 hd h2
      cases ha : asg p d (wipeD s vs) with
      | none => rw [ha] at hs; exact hs.elim
      | some s3 =>
        rw [ha] at hs
        have ee := e1.trans (e2.trans e3)
        obtain ⟨σ3, rs3, run, wp⟩ := asg_run r3.sub p rd (wipeD_rel (rs.mono ee) vs) ha
        refine run _ ⟨?_, G3, s3, m2, _, r3, rs3, hs, fun G4 b m4 H4 e4 r4 q4 => ?_⟩
        · have w0 : wipe (wipe σ vs) vs = wipe σ vs := by
            have aux : ∀ us : List Nat, (∀ u ∈ us, u ∈ vs) → wipe (wipe σ us) vs = wipe σ vs := by
              intro us
              induction us with
              | nil => intro _; rfl
              | cons u us ih =>
                intro hu
                show wipe ((wipe σ us).set u none) vs = wipe σ vs
                rw [wipe_set (hu u List.mem_cons_self)]
                exact ih fun z hz => hu z (List.mem_cons_of_mem _ hz)
            exact aux vs fun _ h => h
          rw [wp vs hv, w0]
        · have q4 := qif_e q4
          cases b with
          | true =>
            rw [if_pos rfl] at q4
            dsimp only
            rw [if_pos rfl]
            refine ⟨G4, s3, m4, _, r4, rs3.mono e4, q4, fun G5 y m5 v H5 e5 r5 rv ⟨acc', hm5, hl, hj⟩ => ?_⟩
            obtain ⟨_, w, hw, xs, rfl, hr⟩ := r5.mem D _ hm5
            exact ⟨xs, hw, by rw [← hr.length]; exact hl, G5, _, _, (e2.trans e3).trans (e4.trans e5), r5.put (o := .lst _) hm5 ⟨_, rfl, hr.append (RVs.one rv)⟩, hj⟩
          | false =>
            rw [if_neg Bool.false_ne_true] at q4
            dsimp only
            rw [if_neg Bool.false_ne_true]
            obtain ⟨acc', hj⟩ := q4
            exact ⟨G4, acc', m4, (e2.trans e3).trans e4, r4, hj⟩
    · have e : i = ds.length := by omega
      subst e
      obtain ⟨c1, c2⟩ := hC _ acc m2 hi h2
      exact .inl ⟨wk.stop G2 m2 H' e2 r2 c1, k G2 (.ref D) m2 _ H' (e1.trans e2) r2 rfl (hE acc m2 h2 c2)⟩⟩
theorem de_lc {X : Cx} {elt tg iter : Expr} {ifs : List Expr} {scope : Scope} {own : List (Str × Nat)} {pos : Pos} {qi : QI} {p : Pat} {qt : QT} {qe : QE} (hc : X.calm = true) (hN : X.N.Nodup) (hi : PI X tg iter (liftI X.K qi)) (ok : BlkOk X.N X.env.scope scope own)
    (hg : ∀ (s : Shared) (H : Hp) (C : Addr) (cl : List (Str × Addr)) (fp : List Addr), PG (X.blk s H scope (compEnvC scope cl C X.env) fp) tg (tgOf X.K p))
    (ht : ∀ (s : Shared) (H : Hp) (C : Addr) (cl : List (Str × Addr)) (fp : List Addr), PTs (X.blk s H scope (compEnvC scope cl C X.env) fp) ifs (liftT X.K qt))
    (he : ∀ (s : Shared) (H : Hp) (C : Addr) (cl : List (Str × Addr)) (fp : List Addr), PE (X.blk s H scope (compEnvC scope cl C X.env) fp) elt (liftE X.K qe))
    (hv : ∀ i ∈ slots p, i ∈ own.map (·.2) := by decide) (hs : ∀ x, foldedSetIterable iter X.env x = pure x := by intro _; rfl) :
    PE X (.ListComp elt [⟨tg, iter, ifs, 0⟩] scope pos) (liftE X.K (qLc qi p qt qe (own.map (·.2)))) := pe_imp (pe_lc hc hN hi ok hg ht he hs) (lift_lc hv)
/-- the word where the block leaves the memory as it is -/
def Jp (P : Nat → List D → Prop) (m1 : Mem) (a : Addr) : Nat → List D → Mem → Prop := fun i acc m' => m' = mset m1 a (.lst acc) ∧ acc.length ≤ i ∧ P i acc
theorem lc_by {p : Pat} {qt : QT} {qe : QE} {s1 : DSt} {ds : List D} {C : Mem → Prop} {m1 : Mem} {Φ : DK} (P : Nat → List D → Prop) (h0 : P 0 []) (hC : ∀ a o, m1 a = none → C (mset m1 a o))
    (hs : ∀ i d acc a, m1 a = none → ds[i]? = some d → acc.length ≤ i → P i acc → match asg p d s1 with
      | some s2 => qt s2 (mset m1 a (.lst acc)) fun b m2 => qIf b (qe s2 m2 fun y m3 => ∃ acc', m3 a = some (.lst acc') ∧ acc'.length < sizeLine ∧ Jp P m1 a (i + 1) (acc' ++ [y]) (mset m3 a (.lst (acc' ++ [y])))) (∃ acc', Jp P m1 a (i + 1) acc' m2)
      | none => False)
    (hd : ∀ acc a, m1 a = none → acc.length ≤ ds.length → P ds.length acc → Φ (.ref a) (mset m1 a (.lst acc))) : LcIn p qt qe s1 ds C m1 Φ := fun a ha =>
  ⟨Jp P m1 a, ⟨rfl, Nat.le_refl _, h0⟩, fun i acc m' _ h => by obtain ⟨rfl, _, _⟩ := h; exact ⟨hC a _ ha, mset_same⟩, fun i d acc m' hd' h => by obtain ⟨rfl, h1, h2⟩ := h; exact hs i d acc a ha hd' h1 h2,
    fun acc m' h _ => by obtain ⟨rfl, h1, h2⟩ := h; exact hd acc a ha h1 h2⟩
theorem lc_ok {P : Nat → List D → Prop} {m1 : Mem} {a : Addr} {i : Nat} {acc : List D} {y : D} (hl : acc.length ≤ i) (hi : i < sizeLine) (h : P (i + 1) (acc ++ [y])) :
    ∃ acc', mset m1 a (.lst acc) a = some (.lst acc') ∧ acc'.length < sizeLine ∧ Jp P m1 a (i + 1) (acc' ++ [y]) (mset (mset m1 a (.lst acc)) a (.lst (acc' ++ [y]))) :=
  ⟨acc, mset_same, Nat.lt_of_le_of_lt hl hi, mset_mset, by rw [List.length_append]; exact Nat.succ_le_succ hl, h⟩
theorem fz_done {m1 : Mem} {a : Addr} {acc : List D} {Φ : DK} (ha : m1 a = none) (h : Φ (.lst acc) m1) : ∃ ds, mset m1 a (.lst acc) a = some (.lst ds) ∧ Φ (.lst ds) (mdel (mset m1 a (.lst acc)) a) := ⟨acc, mset_same, by rw [mdel_mset ha]; exact h⟩
/-! ### dict comprehensions -/
def DcIn (p : Pat) (qt : QT) (qk qe : QE) (s1 : DSt) (ds : List D) (C : Mem → Prop) (m1 : Mem) (Φ : DK) : Prop := ∀ a, m1 a = none → ∃ J : Nat → List (Key × D) → Mem → Prop, J 0 [] (mset m1 a (.dK [])) ∧
  (∀ i acc m', i ≤ ds.length → J i acc m' → C m' ∧ m' a = some (.dK acc)) ∧
  (∀ i d acc m', ds[i]? = some d → J i acc m' → match asg p d s1 with
    | some s2 => qt s2 m' fun b m2 => qIf b (qk s2 m2 fun x m3 => qe s2 m3 fun y m4 => ∃ acc' k, keyD x = some k ∧ m4 a = some (.dK acc') ∧ acc'.length < sizeLine ∧ J (i + 1) (putD acc' k y) (mset m4 a (.dK (putD acc' k y)))) (∃ acc', J (i + 1) acc' m2)
    | none => False) ∧
  ∀ acc m', J ds.length acc m' → m' a = some (.dK acc) → Φ (.ref a) m'
def qDc (qi : QI) (p : Pat) (qt : QT) (qk qe : QE) (vs : List Nat) : QE := fun s m Φ => qi s m fun ds C m1 => DcIn p qt qk qe (wipeD s vs) ds C m1 Φ
def Jd (P : Nat → List (Key × D) → Prop) (m1 : Mem) (a : Addr) : Nat → List (Key × D) → Mem → Prop := fun i acc m' => m' = mset m1 a (.dK acc) ∧ acc.length ≤ i ∧ P i acc
end L3
end
section
namespace L3
open PySem PySem.Spec PyProof.Rows L2
theorem hu1 {A : Around} {k : Nat} (hr : Room k A) : A.units + 1 < cLine := Nat.lt_of_le_of_lt (Nat.add_le_add_left (by decide : 1 ≤ 64) _) hr.units
theorem hu64 {A : Around} {k : Nat} (hr : Room k A) : A.units + 64 < cLine := hr.units
/-! ### xs[i], t[i], s[i], d[k] by one rule -/
section
variable {X : Cx} {a b : Expr} {qa qb : QE} {pos : Pos}
def rIxD : R2 := fun x y H Q => ∃ p v, x = .ref p ∧ DGet H p y (some v) ∧ Q v H
theorem tail_of {prog : Program} {w : World} {A : Around} {E : Value → Shared → Prop} {s : Shared} {value slice : Expr} {o i : Value} {T id : String} {Q : Value → Shared → Prop} (hT : s.TypeIs o T)
    (hl : typeLookup (.type T) "__getitem__" = pure (some (.builtin id))) (h : wpAny (model prog w) A (getItem o i) Q E s)
    (hs : subscripted slice false o i = operate [o, i] (getItem o i)) :
    wpAny (model prog w) A (subscriptTail value slice o i) Q E s := by
  unfold subscriptTail
  refine wpAny_bind ?_
  rw [getitemInPython_of_ne hT.not_modules]
  refine wpAny_bind (wpAny_specialOf hT hl ?_)
  have fin : wpAny (model prog w) A (subscripted slice false o i) (fun r s₃ => wpAny (model prog w) A (letTemporaryGo value o r >>= fun _ => pure r) Q E s₃) E s := by
    rw [hs]
    exact wpAny_operating (wpAny_mono h (fun r s₃ h₃ => wpAny_bind (wpAny_letTemporaryGo (wpAny_pure h₃))) fun _ _ x => x)
  first
    | exact wpAny_pure (wpAny_bind fin)
    | exact wpAny_bind (wpAny_pure (wpAny_bind fin))
    | exact wpAny_bind fin
theorem ix_dict (hu : X.A.units + 1 < cLine) : IxR X rIxD := by
  intro value slice pins s σ H x y v u Q I rx ry h hs
  obtain ⟨p, w, rfl, g, q⟩ := h
  obtain rfl : v = Value.ref p := rx
  exact tail_of (dict_typeIs I g) PySem.F.slot_dict_getitem.lookup (d_getItem hu I g ry fun w' s' I' rw' => ⟨w, H, I', rw', q⟩) hs
/-- xs[i]; d[k] -/
def vIx : D → D → Mem → DK → Prop := fun x y m Φ => match x, y with
  | .tup ds, .int i => ∃ d, atI ds i = some d ∧ Φ d m
  | .lst ds, .int i => ∃ d, atI ds i = some d ∧ Φ d m
  | .ref a, y => (∃ ds i d, y = .int i ∧ m a = some (.lst ds) ∧ atI ds i = some d ∧ Φ d m) ∨ ∃ d, dGet m a y (some d) ∧ Φ d m
  | .str z, .int i => ∃ c, z.length ≤ sizeLine ∧ atI z.cps.toList i = some c ∧ Φ (.str ⟨#[c]⟩) m
  | _, _ => False
theorem vix_lift {K : PySem.W.Frag} {x y : V} {H : Hp} {Q : VK} (h : liftR K vIx x y H Q) : rIx K x y H Q ∨ rIxD x y H Q := by
  obtain ⟨G, m, dx, dy, Φ, rm, rx, ry, q, k⟩ := h
  cases dx with
  | tup ds => cases dy with
    | int i => exact .inl (ix_lift ⟨G, m, .tup ds, .int i, Φ, rm, rx, ry, q, k⟩)
    | _ => exact q.elim
  | lst ds => cases dy with
    | int i => exact .inl (ix_lift ⟨G, m, .lst ds, .int i, Φ, rm, rx, ry, q, k⟩)
    | _ => exact q.elim
  | str z => cases dy with
    | int i => exact .inl (ix_lift ⟨G, m, .str z, .int i, Φ, rm, rx, ry, q, k⟩)
    | _ => exact q.elim
  | ref p =>
    rcases q with ⟨ds, i, d, rfl, hm, h1, h2⟩ | ⟨d, g, h2⟩
    · exact .inl (ix_lift ⟨G, m, .ref p, .int i, Φ, rm, rx, ry, ⟨ds, d, hm, h1, h2⟩, k⟩)
    · obtain rfl : x = .ref p := rx
      obtain ⟨o', g', ro⟩ := dget_lift rm ry g
      obtain ⟨w, rfl, rw'⟩ := ro.some
      exact .inr ⟨p, w, rfl, g', k G d m w H (Sub.refl G) rm rw' h2⟩
  | _ => exact q.elim
theorem de_idx (hu : X.A.units + 1 < cLine) (ha : PE X a (liftE X.K qa)) (hb : PE X b (liftE X.K qb)) (hs : PlainIx b := by exact fun _ _ => rfl) : PE X (.Subscript a b pos) (liftE X.K (qOp vIx qa qb)) :=
  pe_imp (pe_ix (ix_imp (IxR.or ix_seq (ix_dict hu)) fun x y H Q h => vix_lift (K := X.K) h) ha hb hs) lift_op
/-- the list's items as data: of a list that never changes, or of one in the memory -/
def lsQ (y : D) (m : Mem) (R : List PyData → Prop) : Prop := match y with
  | .lst ds => ∃ ps, toPys ds = some ps ∧ R ps
  | .ref a => ∃ ds ps, m a = some (.lst ds) ∧ toPys ds = some ps ∧ R ps
  | _ => False
/-- x in y: a dict, a list, a text, a tuple of flat items -/
def vIn (neg : Bool) : D → D → Mem → DK → Prop := fun x y m Φ =>
  match y with
  | .str z => ∃ w, x = .str w ∧ Φ (.bl (if neg then !(!(Builtin.Str.occurrences z w 0 z.length 1).isEmpty) else !(Builtin.Str.occurrences z w 0 z.length 1).isEmpty)) m
  | .ref a => (∃ o, dGet m a x o ∧ Φ (.bl (if neg then !o.isSome else o.isSome)) m) ∨ ∃ p ds ps, toPy x = some p ∧ m a = some (.lst ds) ∧ toPys ds = some ps ∧ SeqAt.shaped p = true ∧ SeqAt.shaped (.list ps) = true ∧ Φ (.bl (if neg then !(ps.any fun z => PyData.eqv z p) else ps.any fun z => PyData.eqv z p)) m
  | .lst ds => ∃ p ps, toPy x = some p ∧ toPys ds = some ps ∧ SeqAt.shaped p = true ∧ SeqAt.shaped (.list ps) = true ∧ Φ (.bl (if neg then !(ps.any fun z => PyData.eqv z p) else ps.any fun z => PyData.eqv z p)) m
  | _ => False
def rInDct (neg : Bool) : R2 := fun x y H Q => ∃ a o, y = .ref a ∧ DGet H a x o ∧ Q (.bl (if neg then !o.isSome else o.isSome)) H
end
/-! ### defs -/
section
variable {P : Program} {w : World} {K : PySem.W.Frag} {mg : Str → Option Value} {base : Heap}
/-- the context in which a def's body is derived -/
abbrev cxB (P : Program) (w : World) (K : PySem.W.Frag) (mg : Str → Option Value) (base : Heap) (N : List Str) (qual : Str) (st : Stmt) (f : Addr) (cdv : Value) (A : Around) (outer : List Env) (s : Shared) (H : Hp) (E : XK) : Cx := (cxOf CX0 P w K mg base N qual (defScope st) f cdv A outer s H E).nox
theorem fnr_of {f : Addr} {fd : FuncData} {ps : List Str} {k : Nat} {sp : Sp} (F1 : FnOk P w K mg base CX0 k f fd ps sp) (hb : Binds K fd ps []) : FnR P w K mg base CX0 k f sp := by
  intro A outer s H us vs Q E hr e0 r hs
  have hl : vs.length = ps.length := F1.len vs H Q E hs
  exact F1.run A outer s H ⟨us, []⟩ us vs Q E hr e0 (by
    have := hb s us (e0.mod.kin.keeps fun b o z => (e0.bs b o z).1) (by rw [List.append_nil, ← r.length]; exact hl)
    rwa [List.append_nil] at this) r hs
end
/-! ### the law itself -/
def spLaw (K : PySem.W.Frag) : Sp := fun vs H Q _ => ∃ (a : Addr) (ns : List Int), vs = [.ref a] ∧ SqL K H a (ns.map V.int) ∧ ns.length ≤ 63 ∧ ∀ H', Q (.bl true) H'
/-- law(script): True for each list of at most 63 ints -/
def lspLaw : LSp := fun ds m Φ => ∃ ns : List Int, ds = [.lst (ns.map D.int)] ∧ ns.length ≤ 63 ∧ (∀ a, m a = none) ∧ ∀ m', Φ (.bl true) m'
end L3
end
section
namespace L3
open PySem PySem.Spec PyProof.Rows L2
/-! ### weakening at the end of a def -/
def bodyW (Φ : DK) : DE := { nx := fun _ m => ∃ m', MLe m m' ∧ Φ .non m', rt := fun d m => ∃ m', MLe m m' ∧ Φ d m', bk := fun _ _ => False, ct := fun _ _ => False }
theorem wk_at {P : Mem → Prop} {m : Mem} (h : P m) : ∃ m', MLe m m' ∧ P m' := ⟨m, MLe.refl m, h⟩
theorem body_liftW {K : PySem.W.Frag} {sp : LSp} {qb : QS} {N : List Str} (h : ∀ ds m Φ, sp ds m Φ → qb (bodyW Φ) (begin_ N.length ds) m) {vs : List V} {H : Hp} {Q : VK} {E : XK} (hs : liftSp K sp vs H Q E) :
    liftS K qb { nx := fun _ H' => Q .non H', rt := Q } (L2.start N vs) H := by
  obtain ⟨G, m, ds, Φ, rm, rd, q, k⟩ := hs
  refine ⟨G, begin_ N.length ds, m, bodyW Φ, rm, relS_start rd, h ds m Φ q, ?_, ?_, fun _ _ _ _ _ _ _ _ z => z.elim, fun _ _ _ _ _ _ _ _ z => z.elim⟩
  · exact fun G' s' m' σ' H' e1 r1 _ ⟨m2, le, q1⟩ => k G' .non m2 .non H' e1 (r1.le le) rfl q1
  · exact fun G' d m' v H' e1 r1 rv ⟨m2, le, q1⟩ => k G' d m2 v H' e1 (r1.le le) rv q1
/-- a list known by a property alone is looked into -/
def sOpen (q : QS) : QS := fun E s m => ∃ b P, m b = some (.any P) ∧ ∀ ds, P ds → q E s (mset m b (.lst ds))
theorem RelM.look {K : PySem.W.Frag} {m : Mem} {G H : Hp} {b : Addr} {P : List D → Prop} (r : RelM K m G H) (hb : m b = some (.any P)) : ∃ ds, P ds ∧ RelM K (mset m b (.lst ds)) G H := by
  obtain ⟨g, u, hu, ds, xs, p, e1, e2⟩ := r.mem b _ hb
  refine ⟨ds, p, r.sub, fun a o e => ?_⟩
  by_cases ha : a = b
  · subst ha
    rw [mset_same] at e; cases e
    exact ⟨g, u, hu, xs, e1, e2⟩
  · rw [mset_ne ha] at e
    exact r.mem a o e
theorem open_lift {K : PySem.W.Frag} {q : QS} : ∀ D σ H, liftS K (sOpen q) D σ H → liftS K q D σ H := fun D σ H ⟨G, s, m, E, rm, rs, ⟨b, P, hb, q⟩, kn, kr, kb, kc⟩ => by
  obtain ⟨ds, p, r⟩ := rm.look hb
  exact ⟨G, s, _, E, r, rs, q ds p, kn, kr, kb, kc⟩
theorem dss_open {X : Cx} {st : List Stmt} {q : QS} (h : PSs X st (liftS X.K q)) : PSs X st (liftS X.K (sOpen q)) := pss_imp h open_lift
/-! ### loops with weakening -/
def DE.wk (E : DE) : DE := { E with nx := fun s m => ∃ m', MLe m m' ∧ E.nx s m', ct := fun s m => ∃ m', MLe m m' ∧ E.ct s m' }
def sDone (q : QS) : QS := fun E s m => q E.wk s m
/-! ### name = a comprehension, on one line -/
section
variable {X : Cx}
end
/-! ### a property -/
section
variable {X : Cx} {k : Nat} {C p g a dx : Addr} {fs : List (Str × V)} {f : Str} {e : Expr} {pos : Pos}
end
/-! ### defs, with weakening behind -/
section
variable {P : Program} {w : World} {K : PySem.W.Frag} {mg : Str → Option Value} {base : Heap}
theorem fno_ofW {x qual : Str} {st : Stmt} {f : Addr} {fd : FuncData} {N ps : List Str} {k : Nat} {sp : LSp} {qb : QS} (F : Fun K x qual st f fd) (S : FnScope N ps (defScope st)) (len : ∀ ds m Φ, sp ds m Φ → ds.length = ps.length)
    (hd : ∀ (cdv : Value) (A : Around) (outer : List Env) (s : Shared) (H : Hp) (E : XK), Room k (A.deeper (envOfC qual (defScope st) s.heap.objs.size f cdv)) → PSs (cxB P w K mg base N qual st f cdv A outer s H E) (defBody st) (liftS K qb))
    (h : ∀ ds m Φ, sp ds m Φ → qb (bodyW Φ) (begin_ N.length ds) m) : FnOk P w K mg base CX0 (k + 1) f fd ps (liftSp K sp) := by
  refine F.ok S (fun vs H Q E hs => ?_) (fun cdv A outer s H vs Q E hr hs => ⟨liftS K qb, hd cdv A outer s H E hr, body_liftW h hs⟩)
  obtain ⟨G, m, ds, Φ, rm, rd, q, k⟩ := hs
  rw [← rd.length]; exact len ds m Φ q
/-- THE RULE for a def -/
theorem def_ofW {x qual : Str} {st : Stmt} {f : Addr} {fd : FuncData} {N ps : List Str} {k : Nat} {sp : LSp} {qb : QS} (F : Fun K x qual st f fd) (hb : Binds K fd ps []) (S : FnScope N ps (defScope st)) (len : ∀ ds m Φ, sp ds m Φ → ds.length = ps.length)
    (hd : ∀ (cdv : Value) (A : Around) (outer : List Env) (s : Shared) (H : Hp) (E : XK), Room k (A.deeper (envOfC qual (defScope st) s.heap.objs.size f cdv)) → PSs (cxB P w K mg base N qual st f cdv A outer s H E) (defBody st) (liftS K qb))
    (h : ∀ ds m Φ, sp ds m Φ → qb (bodyW Φ) (begin_ N.length ds) m) : FnD P w K mg base (k + 1) f sp := fnr_of (fno_ofW F S len hd h) hb
/-- no promise is kept -/
theorem fnd_false {k : Nat} {f : Addr} : FnD P w K mg base k f (fun _ _ _ => False) := fun A outer s H us vs Q E hr e0 r ⟨_, _, _, _, _, _, h, _⟩ => h.elim
theorem FnD.imp {k : Nat} {f : Addr} {sp sp' : LSp} (h : FnD P w K mg base k f sp) (i : ∀ ds m Φ, sp' ds m Φ → sp ds m Φ) : FnD P w K mg base k f sp' := FnR.imp h fun vs H Q E ⟨G, m, ds, Φ, rm, rd, q, k⟩ => ⟨G, m, ds, Φ, rm, rd, i ds m Φ q, k⟩
end
end L3
end
section
namespace L3
open PySem PySem.Spec PyProof.Rows L2
/-! ### == by kinds -/
theorem eqv_int (i j : Int) : PyData.eqv (.int i) (.int j) = decide (i = j) := by
  simp [PyData.eqv]
  exact Bool.eq_iff_iff.mpr (by simp)
theorem eqv_bl (i j : Bool) : PyData.eqv (.bool i) (.bool j) = decide (i = j) := by
  cases i <;> cases j <;> rfl
theorem sh_int (i : Int) : SeqAt.shaped (.int i) = true := by rfl
theorem sh_bl (i : Bool) : SeqAt.shaped (.bool i) = true := by rfl
def vEq : D → D → Mem → DK → Prop := fun x y m Φ => match x, y with
  | .int i, .int j => Φ (.bl (decide (i = j))) m
  | .bl i, .bl j => Φ (.bl (decide (i = j))) m
  | x, y => qEq x y m Φ
def vNe : D → D → Mem → DK → Prop := fun x y m Φ => match x, y with
  | .int i, .int j => Φ (.bl (!decide (i = j))) m
  | .bl i, .bl j => Φ (.bl (!decide (i = j))) m
  | x, y => qNe x y m Φ
theorem veq_of {x y : D} {m : Mem} {Φ : DK} (h : vEq x y m Φ) : qEq x y m Φ := by
  unfold vEq at h
  split at h
  · exact ⟨_, _, .inl rfl, .inl rfl, sh_int _, sh_int _, by rw [eqv_int]; exact h⟩
  · exact ⟨_, _, .inl rfl, .inl rfl, sh_bl _, sh_bl _, by rw [eqv_bl]; exact h⟩
  · exact h
theorem vne_of {x y : D} {m : Mem} {Φ : DK} (h : vNe x y m Φ) : qNe x y m Φ := by
  unfold vNe at h
  split at h
  · exact ⟨_, _, .inl rfl, .inl rfl, sh_int _, sh_int _, by rw [eqv_int]; exact h⟩
  · exact ⟨_, _, .inl rfl, .inl rfl, sh_bl _, sh_bl _, by rw [eqv_bl]; exact h⟩
  · exact h
section
variable {X : Cx}
theorem do_eq2 (hu : X.A.units + 64 < cLine) : OpR X (compareOp .Eq) (liftR X.K vEq) := op_imp (do_eq hu) fun x y H Q ⟨G, m, dx, dy, Φ, rm, rx, ry, q, k⟩ => ⟨G, m, dx, dy, Φ, rm, rx, ry, veq_of q, k⟩
theorem do_ne2 (hu : X.A.units + 64 < cLine) : OpR X (compareOp .NotEq) (liftR X.K vNe) := op_imp (do_ne hu) fun x y H Q ⟨G, m, dx, dy, Φ, rm, rx, ry, q, k⟩ => ⟨G, m, dx, dy, Φ, rm, rx, ry, vne_of q, k⟩
end
end L3
end
section
namespace L3
open PySem PySem.Spec PyProof.Rows L2
open Rat (divInt)
/-! ### amounts: fractions in lowest terms -/
def am (q : Rat) : D := .tup [.int q.num, .int q.den]
theorem am_low {t b g : Int} (hb : 0 < b) (hg : g = (Int.gcd t b : Nat)) : D.tup [.int (t / g), .int (b / g)] = am (divInt t b) := by
  have h1 : (divInt t b).num = t / g := by rw [Rat.num_divInt, Int.sign_eq_one_of_pos hb, Int.one_mul, Int.gcd_comm, hg]
  have h2 : ((divInt t b).den : Int) = b / g := by
    rw [Rat.den_divInt, if_neg (by omega), Int.gcd_comm, hg, Int.natCast_ediv]
    congr 1
    omega
  unfold am
  rw [h1, h2]
theorem am_nonneg {p : Rat} : 0 ≤ p ↔ 0 ≤ p.num := Rat.num_nonneg.symm
/-- q's denominator divides N -/
def Dn (N : Nat) (q : Rat) : Prop := ∃ z : Int, q * (N : Rat) = z
theorem gcd_step {x y : Int} (hx : 0 ≤ x) (hy : 0 ≤ y) : Int.gcd y (x % y) = Int.gcd y x := by
  obtain ⟨a, rfl⟩ := Int.eq_ofNat_of_zero_le hx
  obtain ⟨b, rfl⟩ := Int.eq_ofNat_of_zero_le hy
  show Nat.gcd b (a % b) = Nat.gcd b a
  rw [Nat.gcd_comm b (a % b), ← Nat.gcd_rec]
theorem MLe.any {m : Mem} {a : Addr} {ds : List D} {P : List D → Prop} (p : P ds) : MLe (mset m a (.lst ds)) (mset m a (.any P)) := fun b o h => by
  by_cases hb : b = a
  · subst hb
    rw [mset_same] at h
    cases h
    exact ⟨_, mset_same, .inr (.inl ⟨ds, P, rfl, rfl, p⟩)⟩
  · rw [mset_ne hb] at h
    exact ⟨o, by rw [mset_ne hb]; exact h, .inl rfl⟩
end L3
end
section
open PySem PySem.Spec PyProof.Rows L2 L3
namespace L3
/-- i ** j, its value kept as a name (so that no test over it is reckoned out) -/
def qPow : D → D → Mem → DK → Prop := fun x y m Φ => match x, y with
  | .int i, .int j => CPow i j ∧ ∀ n : Int, n = i ^ j.toNat → Φ (.int n) m
  | _, _ => False
theorem do_pow2 {X : Cx} : OpR X (binaryOp .Pow) (liftR X.K qPow) := op_imp do_pow fun x y H Q ⟨G, m, dx, dy, Φ, rm, rx, ry, q, k⟩ => by
  refine ⟨G, m, dx, dy, Φ, rm, rx, ry, ?_, k⟩
  unfold qPow at q
  split at q
  · exact ⟨q.1, q.2 _ rfl⟩
  · exact q.elim
end L3
end
section
namespace L3
open PySem PySem.Spec PyProof.Rows L2
/-! ### {k: v, ..} -/
def qPairs : List (QE × QE) → DSt → Mem → (List (D × D) → Mem → Prop) → Prop
  | [], _, m, Φ => Φ [] m
  | p :: r, s, m, Φ => p.1 s m fun x m1 => p.2 s m1 fun y m2 => qPairs r s m2 fun ps m3 => Φ ((x, y) :: ps) m3
def keysP : List (D × D) → Option (List (Key × D))
  | [] => some []
  | p :: r => match keyD p.1, keysP r with
    | some k, some ks => some ((k, p.2) :: ks)
    | _, _ => none
def mergeD (ks more : List (Key × D)) : List (Key × D) := more.foldl (fun acc kv => putD acc kv.1 kv.2) ks
def qDisp (ps : List (QE × QE)) : QE := fun s m Φ => ∀ p, m p = none → qPairs ps s (mset m p (.dK [])) fun xs m2 => m2 p = some (.dK []) ∧ ∃ kvs, keysP xs = some kvs ∧ kvs.length ≤ 15 ∧ Φ (.ref p) (mset m2 p (.dK (mergeD [] kvs)))
section
variable {K : PySem.W.Frag}
def RPs (K : PySem.W.Frag) (G : Hp) : List (D × D) → List (V × V) → Prop
  | [], [] => True
  | p :: r, q :: t => RV K G p.1 q.1 ∧ RV K G p.2 q.2 ∧ RPs K G r t
  | _, _ => False
theorem RPs.keys {G : Hp} : ∀ {xs : List (D × D)} {vs : List (V × V)} {kvs : List (Key × D)}, RPs K G xs vs → keysP xs = some kvs → ∃ kws : List (Key × V), vs = kws.map (fun kv => (kV kv.1, kv.2)) ∧ RKs K G kvs kws
  | [], [], kvs, _, e => by cases e; exact ⟨[], rfl, rfl⟩
  | p :: r, q :: t, kvs, ⟨h1, h2, h3⟩, e => by
    unfold keysP at e
    cases k1 : keyD p.1 with
    | none => rw [k1] at e; cases e
    | some k =>
      cases k2 : keysP r with
      | none => rw [k1, k2] at e; cases e
      | some ks =>
        rw [k1, k2] at e
        cases e
        obtain ⟨kws, rfl, hr⟩ := RPs.keys h3 k2
        refine ⟨(k, q.2) :: kws, ?_, q.2, kws, rfl, h2, hr⟩
        rw [List.map_cons]
        have : q.1 = kV k := RV.key h1 k1
        rw [← this]
  | [], _ :: _, _, h, _ => h.elim
  | _ :: _, [], _, h, _ => h.elim
theorem RKs.merge {G : Hp} : ∀ {more : List (Key × D)} {rs : List (Key × V)} {ks : List (Key × D)} {vs : List (Key × V)}, RKs K G more rs → RKs K G ks vs → RKs K G (mergeD ks more) (mergeK vs rs)
  | [], _, ks, vs, h, r0 => by rw [show _ = [] from h]; exact r0
  | p :: more, _, ks, vs, ⟨x, q, h1, h2, h3⟩, r0 => by
    subst h1
    exact RKs.merge (more := more) (rs := q) h3 (RKs.put p.1 h2 r0)
theorem pairs_lift {G : Hp} {s : DSt} {σ : L2.St} : ∀ {ps : List (QE × QE)} {G' : Hp} {m : Mem} {H : Hp} {Φ : List (D × D) → Mem → Prop} {Q : List (V × V) → Hp → Prop}, RelS K s G σ → Sub G G' → RelM K m G' H → qPairs ps s m Φ →
    (∀ G2 xs m2 vs H2, Sub G' G2 → RelM K m2 G2 H2 → RPs K G2 xs vs → Φ xs m2 → Q vs H2) → tPairs (ps.map fun p => (liftE K p.1, liftE K p.2)) σ H Q
  | [], G', m, H, Φ, Q, rs, e, rm, q, k => k G' [] m [] H (Sub.refl G') rm trivial q
  | p :: ps, G', m, H, Φ, Q, rs, e, rm, q, k => ⟨G', s, m, _, rm, rs.mono e, q, fun G1 x m1 v H1 e1 r1 rx q1 => ⟨G1, s, m1, _, r1, rs.mono (e.trans e1), q1, fun G2 y m2 u H2 e2 r2 ry q2 =>
      pairs_lift rs ((e.trans e1).trans e2) r2 q2 fun G3 xs m3 vs H3 e3 r3 rx3 q3 => k G3 ((x, y) :: xs) m3 ((v, u) :: vs) H3 ((e1.trans e2).trans e3) r3 ⟨RV.mono (e2.trans e3) _ rx, RV.mono e3 _ ry, rx3⟩ q3⟩⟩
theorem lift_disp {ps : List (QE × QE)} : ∀ σ H Q, liftE K (qDisp ps) σ H Q → tDisp (ps.map fun p => (liftE K p.1, liftE K p.2)) σ H Q := fun σ H Q ⟨G, s, m, Φ, rm, rs, q, k⟩ p hp => by
  refine pairs_lift rs (Sub.refl G) (rm.new (o := .dK []) hp ⟨[], rfl, rfl⟩) (q p (rm.free hp)) fun G2 xs m2 vs H2 e2 r2 rx ⟨hm, kvs, hk, hl, q2⟩ => ?_
  obtain ⟨g, u, hu, ws, rfl, rw0⟩ := r2.mem p _ hm
  have hw : ws = [] := rw0
  subst hw
  obtain ⟨kws, rfl, rk⟩ := rx.keys hk
  refine ⟨hu, kws, rfl, by rw [← rk.length]; exact hl, k G2 (.ref p) _ _ _ e2 (r2.put (o := .dK (mergeD [] kvs)) hm ⟨_, rfl, RKs.merge rk (show RKs K G2 [] [] from rfl)⟩) rfl q2⟩
end
section
variable {X : Cx} {pos : Pos} {k v : Expr} {ks : List (Option Expr)} {vs : List Expr} {qk qv : QE} {ps : List (QE × QE)}
theorem dps_nil : PPs X pos [] [] (([] : List (QE × QE)).map fun p => (liftE X.K p.1, liftE X.K p.2)) := pps_nil
theorem dps_cons (hk : PE X k (liftE X.K qk)) (hv : PE X v (liftE X.K qv)) (hr : PPs X pos ks vs (ps.map fun p => (liftE X.K p.1, liftE X.K p.2))) : PPs X pos (some k :: ks) (v :: vs) (((qk, qv) :: ps).map fun p => (liftE X.K p.1, liftE X.K p.2)) := pps_cons hk hv hr
theorem de_disp {keys : List (Option Expr)} {values : List Expr} (h : PPs X pos keys values (ps.map fun p => (liftE X.K p.1, liftE X.K p.2))) (hall : keys.all (·.isSome) = true := by rfl) (hl : keys.length = values.length := by rfl) (h0 : keys ≠ [] := by simp) (h15 : keys.length ≤ 15 := by decide) :
    PE X (.Dict keys values pos) (liftE X.K (qDisp ps)) := pe_imp (pe_disp h hall hl h0 h15) lift_disp
end
end L3
end
section
/-! L3l: lcm; sorted of pairs of ints -/
namespace L3
open PySem PySem.Spec PyProof.Rows L2 PySem.W
def bLcm : LSp := fun ds m Φ => match ds with | [.int i, .int j] => i.natAbs.log2 < 9000 ∧ j.natAbs.log2 < 9000 ∧ Φ (.int ((Nat.lcm i.natAbs j.natAbs : Nat) : Int)) m | _ => False
/-! ### sorted of pairs -/
abbrev pairD (p : Int × Int) : D := .tup [.int p.1, .int p.2]
/-- sorted(xs), xs pairs of ints from nought below B: a new list -/
def bSortP (B : Int) : LSp := fun ds m Φ => match ds with
  | [d] => itemsL d m fun xs => ∃ L : List (Int × Int), xs = L.map pairD ∧ L.length < 64 ∧ (∀ p ∈ L, 0 ≤ p.1 ∧ p.1 < B ∧ 0 ≤ p.2 ∧ p.2 < B) ∧
    ∀ L' : List (Int × Int), L'.Perm L → L'.Pairwise (fun p q => p.1 < q.1 ∨ (p.1 = q.1 ∧ p.2 ≤ q.2)) → ∀ a, m a = none → Φ (.ref a) (mset m a (.lst (L'.map pairD)))
  | _ => False
end L3
end
section
/-! L3m: calls with keywords -/
namespace L3
open PySem PySem.Spec PyProof.Rows L2
def pick {α : Type} (is : List Nat) (l : List α) : List α := is.filterMap fun i => l[i]?
theorem vals_get {vs : List V} {us : List Value} (r : Vals vs us) : ∀ i : Nat, match vs[i]?, us[i]? with | some v, some u => RelV v u | none, none => True | _, _ => False := by
  induction r with
  | nil => intro i; simp
  | cons h t ih =>
    intro i
    cases i with
    | zero => exact h
    | succ i => exact ih i
theorem Vals.pick {vs : List V} {us : List Value} (r : Vals vs us) : ∀ is : List Nat, Vals (L3.pick is vs) (L3.pick is us)
  | [] => .nil
  | i :: is => by
    have h := vals_get r i
    have ih := Vals.pick r is
    unfold L3.pick at ih ⊢
    rw [List.filterMap_cons, List.filterMap_cons]
    cases e1 : vs[i]? with
    | none =>
      cases e2 : us[i]? with
      | none => exact ih
      | some u => rw [e1, e2] at h; exact h.elim
    | some v =>
      cases e2 : us[i]? with
      | none => rw [e1, e2] at h; exact h.elim
      | some u => rw [e1, e2] at h; exact .cons h ih
/-- n arguments by place, then k by name: the parameters' places among them -/
def pick2 {α : Type} (n k : Nat) (is : List Nat) (us ws : List α) : List α := if us.length = n ∧ ws.length = k then pick is (us ++ ws) else []
/-- how a call with keywords binds -/
def KwB (K : PySem.W.Frag) (fd : FuncData) (ps ks : List Str) (n : Nat) (is : List Nat) : Prop := KBinds K fd ps ks (pick2 n ks.length is) (pick2 n ks.length is)
section
variable {X : Cx} {k : Nat} {f : Addr} {fd : FuncData} {ps ks : List Str} {sp : LSp} {n : Nat} {is : List Nat} {x : Str} {p pos kpos : Pos} {e : Expr} {es : List Expr} {kws : List Keyword} {qe : QE} {qa qk : QA} {nm : Option Str}
def qCallK (sp : LSp) (n k : Nat) (is : List Nat) (qa qk : QA) : QE := fun s m Φ => qa s m fun ds m1 => qk s m1 fun es m2 => (ds.length = n ∧ es.length = k) ∧ sp (pick is (ds ++ es)) m2 Φ
end
end L3
end
section
/-! L3n: defs with default values -/
namespace L3
open PySem PySem.Spec PyProof.Rows L2
section
variable {P : Program} {w : World} {K : PySem.W.Frag} {mg : Str → Option Value} {base : Heap}
abbrev FunT (K : PySem.W.Frag) (x qual : Str) (st : Stmt) (dvs : List V) (f : Addr) (fd : FuncData) : Prop := FunD K x qual (defArgs st) (defBody st) (defScope st) dvs [] f fd
end
/-! ### a list or a tuple -/
def ItemsAt (w : D) (m : Mem) (xs : List D) : Prop := w = .lst xs ∨ w = .tup xs ∨ ∃ a, w = .ref a ∧ m a = some (.lst xs)
def LItems (w : D) (m : Mem) (xs : List D) : Prop := w = .lst xs ∨ ∃ a, w = .ref a ∧ m a = some (.lst xs)
theorem LItems.to {w : D} {m : Mem} {xs : List D} (h : LItems w m xs) : ItemsAt w m xs := h.elim .inl fun h => .inr (.inr h)
theorem LItems.new {w : D} {m : Mem} {xs : List D} (h : LItems w m xs) {a : Addr} {o : AO} (ha : m a = none) : LItems w (mset m a o) xs := by
  rcases h with h | ⟨b, h, e⟩
  · exact .inl h
  · exact .inr ⟨b, h, by rw [mset_ne fun z => by subst z; rw [e] at ha; cases ha]; exact e⟩
def iSeq (qe : QE) : QI := fun s m Φ => iLst qe s m Φ ∨ iTup qe s m Φ
theorem blen_items {w : D} {m : Mem} {xs : List D} {Φ : DK} (h : ItemsAt w m xs) (k : Φ (.int xs.length) m) : bLen [w] m Φ := by
  rcases h with rfl | rfl | ⟨a, rfl, e'⟩
  · exact k
  · exact k
  · exact .inl ⟨xs, e', k⟩
end L3
end
section
/-! L4a: plain mathematics of amounts, sums, tables -/
namespace L4
open PySem PySem.Spec PyProof.Rows L2 L3
open Rat (divInt)
theorem dec_t {p : Prop} [Decidable p] (h : decide p = true) : p := of_decide_eq_true h
theorem dec_f {p : Prop} [Decidable p] (h : decide p = false) : ¬ p := of_decide_eq_false h
theorem cm_r {i j : Int} (h : 0 ≤ j) (h2 : j < 2 ^ 62) : CM i j := .inl (.inr ⟨by omega, by omega⟩)
theorem cm_l {i j : Int} (h : 0 ≤ i) (h2 : i < 2 ^ 62) : CM i j := .inl (.inl ⟨by omega, by omega⟩)
theorem log2_le {a b : Nat} (h : a ≤ b) : a.log2 ≤ b.log2 := by
  rcases Nat.eq_zero_or_pos a with z | z
  · subst z; simp
  · exact (Nat.le_log2 (by omega)).mpr (Nat.le_trans (Nat.log2_self_le (by omega)) h)
theorem log2_small {a : Nat} {k : Nat} (h : a < 2 ^ k) (hk : 0 < k) : a.log2 < k := by
  rcases Nat.eq_zero_or_pos a with z | z
  · subst z; simpa using hk
  · exact (Nat.log2_lt (by omega)).mpr h
theorem cd_le {i g b : Int} (h : 0 < g) (h1 : g ≤ b) (h2 : b.natAbs.log2 < 9000) : CDivW i g := ⟨h, Nat.lt_of_le_of_lt (log2_le (by omega)) h2⟩
theorem cd_s {i j : Int} (h : 0 < j) (h2 : j < 2 ^ 62) : CDivW i j := ⟨h, by
  have := log2_small (a := j.natAbs) (k := 62) (by omega) (by decide)
  omega⟩
/-! ### bounded amounts -/
def Bg (q : Rat) : Prop := q.num.natAbs.log2 < 4000 ∧ q.den.log2 < 4000
/-- not below nought, at most M, the denominator divides N -/
structure Okb (N M : Nat) (q : Rat) : Prop where
  nn : 0 ≤ q
  le : q ≤ (M : Rat)
  dn : Dn N q
theorem divInt_nn {t b : Int} (h : 0 ≤ t) (hb : 0 < b) : 0 ≤ divInt t b := by
  rw [am_nonneg, Rat.num_divInt, Int.sign_eq_one_of_pos hb, Int.one_mul]
  exact Int.ediv_nonneg h (by omega)
theorem am0 : am 0 = .tup [.int 0, .int 1] := rfl
/-- what is left -/
def rest (p q : Rat) : Rat := if q ≤ p then p - q else 0
def mn (p q : Rat) : Rat := if q < p then q else p
def mx (p q : Rat) : Rat := if p < q then q else p
def total : List Rat → Rat
  | [] => 0
  | q :: r => q + total r
theorem get_map {α β : Type} {f : α → β} {l : List α} {i : Nat} {y : β} (h : (l.map f)[i]? = some y) : ∃ x, l[i]? = some x ∧ f x = y := by
  rw [List.getElem?_map] at h
  cases e : l[i]? with
  | none => rw [e] at h; cases h
  | some x => rw [e] at h; exact ⟨x, rfl, Option.some.inj h⟩
theorem get_ints {lo : Int} {n i : Nat} {d : D} (h : (intsD lo n)[i]? = some d) : i < n ∧ d = .int (lo + i) := by
  obtain ⟨j, hj, rfl⟩ := get_map h
  have hi := (List.getElem?_eq_some_iff.mp hj).1
  rw [List.length_range] at hi
  rw [List.getElem?_range hi] at hj
  cases hj
  exact ⟨hi, rfl⟩
theorem ints_len {lo : Int} {n : Nat} : (intsD lo n).length = n := by unfold intsD; rw [List.length_map, List.length_range]
theorem atI_in {α : Type} (xs : List α) {d : Int} (h0 : 0 ≤ d) (h1 : d < xs.length) : ∃ x ∈ xs, atI xs d = some x := by
  obtain ⟨j, rfl⟩ : ∃ j : Nat, d = j := ⟨d.toNat, by omega⟩
  have hj : j < xs.length := by omega
  exact ⟨xs[j], List.getElem_mem hj, atI_nat (List.getElem?_eq_getElem hj)⟩
/-! ### the memory -/
theorem ne_none {m : Mem} {a b : Addr} {o : AO} (h : m a = some o) (k : m b = none) : a ≠ b := fun e => by subst e; rw [h] at k; cases k
/-- all that stood stands, but for what P tells -/
def Keeps (m m' : Mem) (P : Addr → Prop) : Prop := ∀ a o, ¬ P a → m a = some o → m' a = some o
abbrev Grows (m m' : Mem) : Prop := Keeps m m' (fun _ => False)
theorem Keeps.refl (m : Mem) : Grows m m := fun _ _ _ e => e
theorem Keeps.at {m m' : Mem} (k : Grows m m') {a : Addr} {o : AO} (e : m a = some o) : m' a = some o := k a o id e
theorem Keeps.new {m m' : Mem} (k : Grows m m') {p : Addr} {o : AO} (h : m' p = none) : Grows m (mset m' p o) := fun a u _ e => by rw [mset_ne (ne_none (k.at e) h)]; exact k.at e
theorem Keeps.trans {m m' m2 : Mem} (k : Grows m m') (k' : Grows m' m2) : Grows m m2 := fun a u _ e => k'.at (k.at e)
/-! ### tables of amounts by ticks -/
abbrev Tab := List (Int × Rat)
def tabD (t : Tab) : List (Key × D) := t.map fun p => (Sum.inl p.1, am p.2)
def inW (lo hi : Int) (p : Int × Rat) : Bool := decide (lo < p.1) && decide (p.1 < hi)
def taken (t : Tab) (lo hi : Int) : Rat := total ((t.filter (inW lo hi)).map (·.2))
def putT (t : Tab) (k : Int) (q : Rat) : Tab := if (t.any fun p => decide (p.1 = k)) = true then t.map (fun p => if p.1 = k then (p.1, q) else p) else t ++ [(k, q)]
/-- the amount at a tick, where there is one -/
def getT (t : Tab) (k : Int) : Option Rat := (t.find? fun p => decide (p.1 = k)).map (·.2)
/-- a table of waters -/
structure TabOk (N M : Nat) (t : Tab) : Prop where
  nd : (t.map (·.1)).Nodup
  ok : ∀ p ∈ t, Okb N M p.2
  len : t.length ≤ 1000
def cutF (c : Int) (p : Int × Rat) : Bool := decide (c ≤ p.1)
/-! ### data looked at as a whole -/
def flat : Nat → D → Prop
  | _, .non => True
  | _, .bl _ => True
  | _, .int _ => True
  | n + 1, .tup ds => ds.length < 1000000 ∧ ∀ d ∈ ds, flat n d
  | n + 1, .lst ds => ds.length < 1000000 ∧ ∀ d ∈ ds, flat n d
  | _, _ => False
theorem zip_self : ∀ (ds : List D) {i : Nat} {d : D}, (zipD ds ds)[i]? = some d → ∃ x ∈ ds, d = .tup [x, x]
  | [], i, d, h => by simp [zipD] at h
  | x :: ds, 0, d, h => ⟨x, List.mem_cons_self, (Option.some.inj h).symm⟩
  | x :: ds, i + 1, d, h => by
    obtain ⟨y, hy, e⟩ := zip_self ds (i := i) h
    exact ⟨y, List.mem_cons_of_mem _ hy, e⟩
theorem all_true (n : Nat) : (List.replicate n true).all id = true := by induction n with | zero => rfl | succ n ih => simp [List.replicate_succ]
def sumI : List Int → Int
  | [] => 0
  | x :: r => x + sumI r
end L4
end
section
/-! L3o: readings step by step, each step by its head -/
namespace L3
open PySem PySem.Spec PyProof.Rows L2
section
variable {E : DE} {s s2 : DSt} {m : Mem} {t u qb : QS} {qe qa' qb' qc' : QE} {c d' : QT} {qa qr : QA} {Φ : DK} {Ψ : Bool → Mem → Prop} {Θ : List D → Mem → Prop} {i j l : Nat} {d e f : D} {r r' : D → D → Mem → DK → Prop}
  {p : Pat} {ps : List Pat} {sp : LSp} {qi : QI} {qt : QT} {vs : List Nat} {F : DSt → Prop} {b : Bool} {A B : Prop}
def AsgK (p : Pat) (d : D) (s : DSt) (F : DSt → Prop) : Prop := match asg p d s with | some s2 => F s2 | none => False
theorem k_at (e : asg p d s = some s2) (h : F s2) : AsgK p d s F := by unfold AsgK; rw [e]; exact h
theorem k_atn (h : F (s.set i (some d))) : AsgK (.nm i) d s F := h
def ForK (p : Pat) (qb : QS) (E : DE) (s : DSt) (ds : List D) (C : Mem → Prop) (m1 : Mem) : Prop := ∃ I : Nat → DSt → Mem → Prop, I 0 s m1 ∧ (∀ i s' m', i ≤ ds.length → I i s' m' → C m') ∧
  (∀ i d s' m', ds[i]? = some d → I i s' m' → AsgK p d s' fun s2 => qb { E with nx := I (i + 1), ct := I (i + 1), bk := E.nx } s2 m') ∧ ∀ s' m', I ds.length s' m' → E.nx s' m'
theorem k_seq (h : t { E with nx := u E } s m) : sSeq t u E s m := h
theorem k_next (h : E.nx s m) : sNext E s m := h
theorem k_expr (h : qe s m fun _ m1 => E.nx s m1) : sExpr qe E s m := h
theorem k_ret (h : qe s m E.rt) : sRet qe E s m := h
theorem k_if (h : c s m fun b m1 => qIf b (t E s m1) (u E s m1)) : sIf c t u E s m := h
theorem k_asg (h : qe s m fun d m1 => E.nx (s.set i (some d)) m1) : sAsg (.nm i) qe E s m := h
def ParK (i j : Nat) (E : DE) (s : DSt) (ds : List D) (m1 : Mem) : Prop := match ds with | [d, e] => E.nx ((s.set i (some d)).set j (some e)) m1 | _ => False
def ParK3 (i j l : Nat) (E : DE) (s : DSt) (ds : List D) (m1 : Mem) : Prop := match ds with | [d, e, f] => E.nx (((s.set i (some d)).set j (some e)).set l (some f)) m1 | _ => False
theorem k_for (h : qi s m fun ds C m1 => ForK p qb E s ds C m1) : sFor qi p qb E s m := h
def SubK (o i v : D) (F : Mem → Prop) (m : Mem) : Prop := match o with
  | .ref a => (∃ ds k j, i = .int k ∧ m a = some (.lst ds) ∧ ixN ds.length k = some j ∧ F (mset m a (.lst (ds.set j v)))) ∨
      ∃ ks k, m a = some (.dK ks) ∧ keyD i = some k ∧ ks.length < sizeLine ∧ F (mset m a (.dK (putD ks k v)))
  | _ => False
-- values
theorem k_var (e : look s i = some d) (h : Φ d m) : qVar i s m Φ := by unfold qVar; rw [e]; exact h
theorem k_c (h : Φ d m) : qC d s m Φ := h
theorem k_op (h : qa' s m fun x m1 => qb' s m1 fun y m2 => r x y m2 Φ) : qOp r qa' qb' s m Φ := h
def BK (d : D) (m : Mem) (Ψ : Bool → Mem → Prop) : Prop := match d with | .bl b => Ψ b m | _ => False
theorem k_B (h : qe s m fun d m1 => BK d m1 Ψ) : qB qe s m Ψ := h
theorem k_bk (h : Ψ b m) : BK (.bl b) m Ψ := h
theorem k_or (h : c s m fun b m1 => qIf b (Ψ true m1) (d' s m1 Ψ)) : qOr c d' s m Ψ := h
theorem k_not (h : c s m fun b m1 => Ψ (!b) m1) : qNot c s m Ψ := h
theorem k_andV (h : qa' s m fun x m1 => BK x m1 fun c m2 => qIf c (qb' s m2 Φ) (Φ (.bl false) m2)) : qAndV qa' qb' s m Φ := h
theorem k_ifnt (h : B) : qIf (!true) A B := qif_f rfl h
theorem k_nil (h : Θ [] m) : qNil s m Θ := h
theorem k_cons (h : qe s m fun x m1 => qr s m1 fun xs m2 => Θ (x :: xs) m2) : qCons qe qr s m Θ := h
theorem k_tup (h : qa s m fun ds m1 => ds.length ≤ sizeLine ∧ Φ (.tup ds) m1) : qTup qa s m Φ := h
theorem k_lstF (h : qa s m fun ds m1 => ds.length ≤ sizeLine ∧ Φ (.lst ds) m1) : qLstF qa s m Φ := h
theorem k_lstM (h : qa s m fun ds m1 => ds.length ≤ sizeLine ∧ ∀ p, m1 p = none → Φ (.ref p) (mset m1 p (.lst ds))) : qLstM qa s m Φ := h
theorem k_call (h : qa s m fun ds m1 => sp ds m1 Φ) : qCall sp qa s m Φ := h
theorem k_cb (h : qa s m fun ds m1 => sp ds m1 Φ) : qCB sp qa s m Φ := h
def FzK (d : D) (m1 : Mem) (Φ : DK) : Prop := match d with
  | .ref a => ∃ ds, m1 a = some (.lst ds) ∧ Φ (.lst ds) (mdel m1 a)
  | _ => False
theorem k_fz (h : qe s m fun d m1 => FzK d m1 Φ) : qFreeze qe s m Φ := h
/-- a new list is frozen at once -/
theorem k_fzn {a : Addr} {ds : List D} (ha : m a = none) (h : Φ (.lst ds) m) : FzK (.ref a) (mset m a (.lst ds)) Φ := fz_done ha h
theorem k_lc {qe : QE} (h : qi s m fun ds C m1 => LcIn p qt qe (wipeD s vs) ds C m1 Φ) : qLc qi p qt qe vs s m Φ := h
-- operations
theorem k_i0 {g : Int → Int → D} {x y : Int} (h : Φ (g x y) m) : qI0 g (.int x) (.int y) m Φ := h
theorem k_ic {C : Int → Int → Prop} {g : Int → Int → D} {x y : Int} (c : C x y) (h : Φ (g x y) m) : qIC C g (.int x) (.int y) m Φ := ⟨c, h⟩
theorem k_addI {x y : Int} (h : Φ (.int (x + y)) m) : qAdd (.int x) (.int y) m Φ := h
theorem k_eqI {x y : Int} (h : Φ (.bl (decide (x = y))) m) : vEq (.int x) (.int y) m Φ := h
theorem k_neI {x y : Int} (h : Φ (.bl (!decide (x = y))) m) : vNe (.int x) (.int y) m Φ := h
theorem k_lenL {ds : List D} (h : Φ (.int ds.length) m) : bLen [.lst ds] m Φ := h
def RngK (ds : List D) (m : Mem) (Ξ : List D → (Mem → Prop) → Mem → Prop) : Prop := match ds with
  | [.int j] => -(2 ^ 62) ≤ j ∧ j < 2 ^ 62 ∧ Ξ (intsD 0 j.toNat) (fun _ => True) m
  | _ => False
theorem k_rng {Ξ : List D → (Mem → Prop) → Mem → Prop} (h : qa s m fun ds m1 => RngK ds m1 Ξ) : iRange1 qa s m Ξ := h
theorem k_rngI {n : Nat} {Ξ : List D → (Mem → Prop) → Mem → Prop} (h1 : n < 2 ^ 62) (h : Ξ (intsD 0 n) (fun _ => True) m) : RngK [.int n] m Ξ := ⟨by omega, by omega, h⟩
def LstK (x : D) (m1 : Mem) (Ξ : List D → (Mem → Prop) → Mem → Prop) : Prop := match x with
  | .lst ds => Ξ ds (fun _ => True) m1
  | .ref a => ∃ ds, m1 a = some (.lst ds) ∧ Ξ ds (fun m => m a = some (.lst ds)) m1
  | _ => False
theorem k_iL {Ξ : List D → (Mem → Prop) → Mem → Prop} (h : qe s m fun x m1 => LstK x m1 Ξ) : iLst qe s m Ξ := h
theorem k_iLl {Ξ : List D → (Mem → Prop) → Mem → Prop} {ds : List D} (h : Ξ ds (fun _ => True) m) : LstK (.lst ds) m Ξ := h
def TupK (x : D) (m1 : Mem) (Ξ : List D → (Mem → Prop) → Mem → Prop) : Prop := match x with
  | .tup ds => Ξ ds (fun _ => True) m1
  | _ => False
def SeqK (x : D) (m1 : Mem) (Ξ : List D → (Mem → Prop) → Mem → Prop) : Prop := LstK x m1 Ξ ∨ TupK x m1 Ξ
/-- zip(x, y) over two sources -/
def ZipK (ds : List D) (m1 : Mem) (Ξ : List D → (Mem → Prop) → Mem → Prop) : Prop := iZipD (fun _ m k => k ds m) [] m1 Ξ
theorem k_zip {Ξ : List D → (Mem → Prop) → Mem → Prop} (h : qa s m fun ds m1 => ZipK ds m1 Ξ) : iZipD qa s m Ξ := h
theorem k_zipi {Ξ : List D → (Mem → Prop) → Mem → Prop} {x y : D} {xs ys : List D} (lx : LItems x m xs) (ly : LItems y m ys) (k : ∀ C : Mem → Prop, (∀ m', LItems x m' xs → LItems y m' ys → C m') → Ξ (zipD xs ys) C m) : ZipK [x, y] m Ξ := by
  rcases lx with rfl | ⟨a, rfl, e⟩
  · rcases ly with rfl | ⟨b, rfl, f⟩
    · exact k _ fun _ _ _ => trivial
    · refine ⟨ys, f, k _ fun m' _ h => ?_⟩
      rcases h with h | ⟨b', h, e'⟩
      · cases h
      · cases h; exact e'
  · rcases ly with rfl | ⟨b, rfl, f⟩
    · refine ⟨xs, e, k _ fun m' h _ => ?_⟩
      rcases h with h | ⟨b', h, e'⟩
      · cases h
      · cases h; exact e'
    · refine ⟨xs, ys, e, f, k _ fun m' h h2 => ?_⟩
      rcases h with h | ⟨b', h, e'⟩
      · cases h
      · cases h
        rcases h2 with h2 | ⟨b2, h2, e2⟩
        · cases h2
        · cases h2; exact ⟨e', e2⟩
theorem LItems.ty {x : D} {m : Mem} {xs : List D} (h : LItems x m xs) : tyN x m "list" := by
  rcases h with rfl | ⟨a, rfl, e⟩
  · rfl
  · exact .inl ⟨rfl, xs, e⟩
-- methods of lists
theorem k_bm {T : String} {rr : D → LSp} (h : qe s m fun x m1 => tyD T x m1 ∧ qa s m1 fun ds m2 => rr x ds m2 Φ) : qBM T rr qe qa s m Φ := h
theorem k_app {a : Addr} {xs : List D} (hm : m a = some (.lst xs)) (hl : xs.length < sizeLine) (h : Φ .non (mset m a (.lst (xs ++ [d])))) : mtL gAppend (.ref a) [d] m Φ := ⟨xs, hm, hl, h⟩
theorem k_tyL {a : Addr} {xs : List D} (hm : m a = some (.lst xs)) : tyD "list" (.ref a) m := .inl ⟨rfl, xs, hm⟩
theorem k_len {w : D} {xs : List D} (h : ItemsAt w m xs) (k : Φ (.int xs.length) m) : bLen [w] m Φ := blen_items h k
end
theorem sz {n : Nat} (h : n ≤ 1000000) : n ≤ sizeLine := by show n ≤ 16777216; omega
/-! ### comprehensions that change nothing -/
section
variable {α : Type} {p : Pat} {qt : QT} {qe : QE} {s1 : DSt} {C : Mem → Prop} {m1 : Mem} {Φ : DK}
end
end L3
end
section
/-! L4b: == and in over clean data (no bools, no things that change) -/
namespace L3
open PySem PySem.Spec PyProof.Rows L2
/-- data without bools: == tells just the same -/
def Cl : Nat → D → Prop
  | _, .non => True
  | _, .int _ => True
  | _, .str z => PyData.strOk z = true
  | n + 1, .tup ds => ∀ d ∈ ds, Cl n d
  | n + 1, .lst ds => ∀ d ∈ ds, Cl n d
  | _, _ => False
theorem strs_eq {x y : Str} : (x == y) = decide (x = y) := by
  cases h : x == y with
  | true => rw [eq_of_beq h]; simp
  | false => rw [decide_eq_false]; intro e; subst e; simp at h
structure PyAt (n : Nat) (d : D) (p : PyData) : Prop where
  py : toPy d = some p
  lay : p.canLay0 = true
  dep : p.depth ≤ n
theorem toPys_mem {n : Nat} : ∀ {ds : List D}, (∀ d ∈ ds, ∃ p, PyAt n d p) → ∃ ps, toPys ds = some ps ∧ PyData.canLayAll0 ps = true ∧ PyData.depthAll ps ≤ n
  | [], _ => ⟨[], rfl, rfl, Nat.zero_le _⟩
  | d :: ds, h => by
    obtain ⟨p, hp⟩ := h d List.mem_cons_self
    obtain ⟨ps, h1, h2, h3⟩ := toPys_mem fun x hx => h x (List.mem_cons_of_mem _ hx)
    refine ⟨p :: ps, ?_, ?_, ?_⟩
    · rw [toPys, hp.py, h1]
    · rw [PyData.canLayAll0, hp.lay, h2]; rfl
    · rw [PyData.depthAll]; have := hp.dep; omega
theorem cl_py : ∀ (n : Nat) (d : D), Cl n d → ∃ p, PyAt n d p
  | n, .non, _ => ⟨.none, rfl, rfl, Nat.zero_le _⟩
  | n, .int i, _ => ⟨.int i, rfl, rfl, Nat.zero_le _⟩
  | n, .str z, h => ⟨.str z, rfl, by cases n <;> exact h, Nat.zero_le _⟩
  | n + 1, .tup ds, h => by
    obtain ⟨ps, h1, h2, h3⟩ := toPys_mem fun d hd => cl_py n d (h d hd)
    exact ⟨.tuple ps, by rw [toPy, h1]; rfl, h2, by rw [PyData.depth]; omega⟩
  | n + 1, .lst ds, h => by
    obtain ⟨ps, h1, h2, h3⟩ := toPys_mem fun d hd => cl_py n d (h d hd)
    exact ⟨.list ps, by rw [toPy, h1]; rfl, h2, by rw [PyData.depth]; omega⟩
  | 0, .tup _, h => h.elim
  | 0, .lst _, h => h.elim
  | n, .bl _, h => by cases n <;> exact h.elim
  | n, .ref _, h => by cases n <;> exact h.elim
theorem toPys_cons {d : D} {ds : List D} {ps : List PyData} (h : toPys (d :: ds) = some ps) : ∃ p qs, toPy d = some p ∧ toPys ds = some qs ∧ ps = p :: qs := by
  rw [toPys] at h
  cases e1 : toPy d with
  | none => rw [e1] at h; cases h
  | some p =>
    cases e2 : toPys ds with
    | none => rw [e1, e2] at h; cases h
    | some qs => rw [e1, e2] at h; cases h; exact ⟨p, qs, rfl, rfl, rfl⟩
theorem eqvAll_of {n : Nat} (ih : ∀ (x y : D) (p q : PyData), Cl n x → Cl n y → toPy x = some p → toPy y = some q → (PyData.eqv p q = true ↔ x = y)) : ∀ (xs ys : List D) (ps qs : List PyData), (∀ d ∈ xs, Cl n d) → (∀ d ∈ ys, Cl n d) → toPys xs = some ps → toPys ys = some qs → (PyData.eqvAll ps qs = true ↔ xs = ys)
  | [], [], ps, qs, _, _, h1, h2 => by cases h1; cases h2; simp [PyData.eqvAll]
  | [], y :: ys, ps, qs, _, _, h1, h2 => by
    obtain ⟨q, qs', _, _, rfl⟩ := toPys_cons h2
    cases h1; simp [PyData.eqvAll]
  | x :: xs, [], ps, qs, _, _, h1, h2 => by
    obtain ⟨q, qs', _, _, rfl⟩ := toPys_cons h1
    cases h2; simp [PyData.eqvAll]
  | x :: xs, y :: ys, ps, qs, c1, c2, h1, h2 => by
    obtain ⟨p, ps', a1, a2, rfl⟩ := toPys_cons h1
    obtain ⟨q, qs', b1, b2, rfl⟩ := toPys_cons h2
    have i1 := ih x y p q (c1 x List.mem_cons_self) (c2 y List.mem_cons_self) a1 b1
    have i2 := eqvAll_of ih xs ys ps' qs' (fun d hd => c1 d (List.mem_cons_of_mem _ hd)) (fun d hd => c2 d (List.mem_cons_of_mem _ hd)) a2 b2
    rw [PyData.eqvAll, Bool.and_eq_true, i1, i2]
    simp
theorem toPy_tup {ds : List D} {p : PyData} (h : toPy (.tup ds) = some p) : ∃ ps, toPys ds = some ps ∧ p = .tuple ps := by
  rw [toPy] at h
  cases e : toPys ds with
  | none => rw [e] at h; cases h
  | some ps => rw [e] at h; cases h; exact ⟨ps, rfl, rfl⟩
theorem toPy_lst {ds : List D} {p : PyData} (h : toPy (.lst ds) = some p) : ∃ ps, toPys ds = some ps ∧ p = .list ps := by
  rw [toPy] at h
  cases e : toPys ds with
  | none => rw [e] at h; cases h
  | some ps => rw [e] at h; cases h; exact ⟨ps, rfl, rfl⟩
theorem eqv_of : ∀ (n : Nat) (x y : D) (p q : PyData), Cl n x → Cl n y → toPy x = some p → toPy y = some q → (PyData.eqv p q = true ↔ x = y) := by
  have fin : ∀ (n : Nat) (ih : ∀ (xs ys : List D) (ps qs : List PyData), Cl n (.tup xs) → Cl n (.tup ys) → toPys xs = some ps → toPys ys = some qs → (PyData.eqvAll ps qs = true ↔ xs = ys)) (x y : D) (p q : PyData), Cl n x → Cl n y → toPy x = some p → toPy y = some q → (PyData.eqv p q = true ↔ x = y) := by
    intro n ih x y p q c1 c2 h1 h2
    cases x with
    | non =>
      cases h1
      cases y with
      | non => cases h2; simp [PyData.eqv]
      | int j => cases h2; simp [PyData.eqv]
      | str w => cases h2; simp [PyData.eqv]
      | tup ds => obtain ⟨ps, _, rfl⟩ := toPy_tup h2; simp [PyData.eqv]
      | lst ds => obtain ⟨ps, _, rfl⟩ := toPy_lst h2; simp [PyData.eqv]
      | bl b => cases n <;> exact c2.elim
      | ref a => cases n <;> exact c2.elim
    | int i =>
      cases h1
      cases y with
      | non => cases h2; simp [PyData.eqv]
      | int j => cases h2; simp [PyData.eqv]
      | str w => cases h2; simp [PyData.eqv]
      | tup ds => obtain ⟨ps, _, rfl⟩ := toPy_tup h2; simp [PyData.eqv]
      | lst ds => obtain ⟨ps, _, rfl⟩ := toPy_lst h2; simp [PyData.eqv]
      | bl b => cases n <;> exact c2.elim
      | ref a => cases n <;> exact c2.elim
    | str z =>
      cases h1
      cases y with
      | non => cases h2; simp [PyData.eqv]
      | int j => cases h2; simp [PyData.eqv]
      | str w => cases h2; simp only [PyData.eqv]; rw [strs_eq, decide_eq_true_eq]; simp
      | tup ds => obtain ⟨ps, _, rfl⟩ := toPy_tup h2; simp [PyData.eqv]
      | lst ds => obtain ⟨ps, _, rfl⟩ := toPy_lst h2; simp [PyData.eqv]
      | bl b => cases n <;> exact c2.elim
      | ref a => cases n <;> exact c2.elim
    | tup xs =>
      obtain ⟨ps, h1', rfl⟩ := toPy_tup h1
      cases y with
      | non => cases h2; simp [PyData.eqv]
      | int j => cases h2; simp [PyData.eqv]
      | str w => cases h2; simp [PyData.eqv]
      | tup ys =>
        obtain ⟨qs, h2', rfl⟩ := toPy_tup h2
        simp only [PyData.eqv]
        rw [ih xs ys ps qs c1 c2 h1' h2']; simp
      | lst ds => obtain ⟨ps, _, rfl⟩ := toPy_lst h2; simp [PyData.eqv]
      | bl b => cases n <;> exact c2.elim
      | ref a => cases n <;> exact c2.elim
    | lst xs =>
      obtain ⟨ps, h1', rfl⟩ := toPy_lst h1
      cases y with
      | non => cases h2; simp [PyData.eqv]
      | int j => cases h2; simp [PyData.eqv]
      | str w => cases h2; simp [PyData.eqv]
      | lst ys =>
        obtain ⟨qs, h2', rfl⟩ := toPy_lst h2
        simp only [PyData.eqv]
        rw [ih xs ys ps qs (by cases n with | zero => exact c1.elim | succ n => exact c1) (by cases n with | zero => exact c2.elim | succ n => exact c2) h1' h2']; simp
      | tup ds => obtain ⟨ps, _, rfl⟩ := toPy_tup h2; simp [PyData.eqv]
      | bl b => cases n <;> exact c2.elim
      | ref a => cases n <;> exact c2.elim
    | bl b => cases n <;> exact c1.elim
    | ref a => cases n <;> exact c1.elim
  intro n
  induction n with
  | zero => exact fin 0 fun xs ys ps qs c1 => c1.elim
  | succ n ih => exact fin (n + 1) fun xs ys ps qs c1 c2 h1 h2 => eqvAll_of ih xs ys ps qs c1 c2 h1 h2
theorem shaped_at {n : Nat} {d : D} {p : PyData} (h : PyAt n d p) (hn : n ≤ 64) : SeqAt.shaped p = true := by
  unfold SeqAt.shaped
  rw [h.lay, decide_eq_true (by have := h.dep; omega)]; rfl
section
variable {m : Mem} {Φ : DK} {x y : D} {n : Nat}
theorem qeq_cl (hn : n ≤ 64) (h1 : Cl n x) (h2 : Cl n y) (k : ∀ b : Bool, (b = true ↔ x = y) → Φ (.bl b) m) : qEq x y m Φ := by
  obtain ⟨p, hp⟩ := cl_py n x h1
  obtain ⟨q, hq⟩ := cl_py n y h2
  exact ⟨p, q, .inl hp.py, .inl hq.py, shaped_at hp hn, shaped_at hq hn, k _ (eqv_of n x y p q h1 h2 hp.py hq.py)⟩
theorem k_eqC (n : Nat) (hn : n ≤ 64) (h1 : Cl n x) (h2 : Cl n y) (k : ∀ b : Bool, (b = true ↔ x = y) → Φ (.bl b) m) : vEq x y m Φ := by
  unfold vEq
  split
  · refine k _ ?_; rw [decide_eq_true_eq]; simp
  · cases n <;> exact h1.elim
  · exact qeq_cl hn h1 h2 k
end
end L3
namespace L4
open L3
end L4
namespace L3
open PySem PySem.Spec PyProof.Rows L2
section
variable {m : Mem} {Φ : DK}
end
end L3
namespace L4
open L3
open Rat (divInt)
end L4
end
section
/-! L3s: sorted of any data -/
namespace L3
open PySem PySem.Spec PyProof.Rows L2 PySem.W
def rSortD (K : PySem.W.Frag) : List V → Hp → VK → Prop := fun vs H Q => ∃ (a : Addr) (xs : List V) (ps : List PyData), vs = [.ref a] ∧ SqL K H a xs ∧ DpAll K H xs ps ∧ AllAlike ps ∧ Sortable ps ∧ (∀ p ∈ ps, p.depth ≤ 60) ∧
  ∀ p, H p = none → Q (.ref p) (upd H p (.lst (((xs.zip ps).mergeSort (dataLe false (·.2))).map (·.1))))
def bSortD : LSp := fun ds m Φ => match ds with
  | [d] => itemsL d m fun xs => ∃ ps : List PyData, toPys xs = some ps ∧ AllAlike ps ∧ Sortable ps ∧ (∀ p ∈ ps, p.depth ≤ 60) ∧
    ∀ a, m a = none → Φ (.ref a) (mset m a (.lst (((xs.zip ps).mergeSort (dataLe false (·.2))).map (·.1))))
  | _ => False
end L3
namespace PySem.W
open PySem PySem.Calls
end PySem.W
namespace L3
open PySem PySem.Spec PyProof.Rows L2 PySem.W
def bLcm4 : LSp := fun ds m Φ => match ds with
  | [.int a, .int b, .int c, .int d] => (a.natAbs.log2 < 3000 ∧ b.natAbs.log2 < 3000 ∧ c.natAbs.log2 < 3000 ∧ d.natAbs.log2 < 3000) ∧ Φ (.int ((Nat.lcm (Nat.lcm (Nat.lcm a.natAbs b.natAbs) c.natAbs) d.natAbs : Nat) : Int)) m
  | _ => False
end L3
end
section
/-! LF: fillings: a rest shared by wants (weight, amount) at one level -/
namespace LF
open PySem PySem.Spec PyProof.Rows L2 L3 L4
open Rat (divInt)
def SB : Int := ((2 ^ 20000 : Nat) : Int)
/-! ### sums -/
/-! ### fillings -/
abbrev Wants := List (Int × Rat)
def WOk (ws : Wants) : Prop := ∀ p ∈ ws, 1 ≤ p.1 ∧ 0 ≤ p.2
def lvl (l : Rat) (p : Int × Rat) : Rat := mn p.2 ((p.1 : Rat) * l)
def Filling (R : Rat) (ws : Wants) (rs : List Rat) : Prop := ∃ l : Rat, 0 ≤ l ∧ rs = ws.map (lvl l) ∧ total rs = mn R (total (ws.map (·.2)))
/-! ### the program's way: the heights in order -/
/-- heights times weight on the scale s -/
structure Hts (s : Int) (ws : Wants) (f : Int × Rat → Int × Int) (L : List (Int × Int)) : Prop where
  wt : ∀ p ∈ ws, (f p).2 = p.1 ∧ (((f p).1 : Int) : Rat) * (p.1 : Rat) = p.2 * (s : Rat)
  perm : L.Perm (ws.map f)
  srt : L.Pairwise fun p q => p.1 < q.1 ∨ (p.1 = q.1 ∧ p.2 ≤ q.2)
def hw (p : Int × Int) : Int := p.1 * p.2
/-- ahead of the i-th height: what is left, the weights that are left -/
structure HInv (s R0 : Int) (L : List (Int × Int)) (i : Nat) (left weights : Int) : Prop where
  lf : left = R0 - sumI ((L.take i).map hw)
  wt : weights = sumI ((L.drop i).map (·.2))
  low : ∀ p ∈ L.take i, p.1 * weights ≤ left
  nn : 0 ≤ left
def gAt (weights left : Int) (p : Int × Int) : Int := p.2 * (if left < p.1 * weights then left else p.1 * weights)
/-! ### another way: whoever is full at the common height is left out -/
def at_ (ws : Wants) (k : Nat) : Int × Rat := ws.getD k (1, 0)
abbrev todo (n : Nat) (t : Nat → Bool) : List Nat := (List.range n).filter t
def hv (ws : Wants) (l : List Nat) : Int := sumI (l.map fun k => (at_ ws k).1)
def qs (ws : Wants) (l : List Nat) : Rat := total (l.map fun k => (at_ ws k).2)
structure EInv (R : Rat) (ws : Wants) (t : Nat → Bool) (left : Rat) : Prop where
  lf : left = R - qs ws (todo ws.length fun k => !t k)
  low : ∀ k, k < ws.length → t k = false → (at_ ws k).2 * ((hv ws (todo ws.length t) : Int) : Rat) ≤ left * ((at_ ws k).1 : Rat)
  nn : 0 ≤ left
def isFull (ws : Wants) (t : Nat → Bool) (left : Rat) (k : Nat) : Bool := !decide (left * ((at_ ws k).1 : Rat) < (at_ ws k).2 * ((hv ws (todo ws.length t) : Int) : Rat))
def full (ws : Wants) (t : Nat → Bool) (left : Rat) : List Nat := (todo ws.length t).filter (isFull ws t left)
def less (ws : Wants) (t : Nat → Bool) (left : Rat) (k : Nat) : Bool := t k && !isFull ws t left k
def exRs (ws : Wants) (t : Nat → Bool) (left : Rat) : List Rat := (List.range ws.length).map fun k => if t k then left * divInt (at_ ws k).1 (hv ws (todo ws.length t)) else (at_ ws k).2
end LF
end
section
/-! LV: levels: the least height at which the shares of wishes sum up to a capacity -/
namespace LV
open PySem PySem.Spec PyProof.Rows L2 L3 L4 LF
open Rat (divInt)
abbrev Wsh := Option (Rat × Rat) × Int × Rat
def shr (m : Option (Rat × Rat)) (w : Int) (x : Rat) : Rat := match m with
  | none => 0
  | some p => mx p.1 (mn p.2 ((w : Rat) * x))
def ral (r : Wsh) (x : Rat) : Rat := shr r.1 r.2.1 (mn x r.2.2)
def tot (rows : List Wsh) (x : Rat) : Rat := total (rows.map fun r => ral r x)
structure Ok1 (r : Wsh) : Prop where
  w : 1 ≤ r.2.1
  b : 0 ≤ r.2.2
  m : ∀ p, r.1 = some p → 0 ≤ p.1 ∧ p.1 ≤ p.2
def ROk (rows : List Wsh) : Prop := ∀ r ∈ rows, Ok1 r
structure IsLevel (S : Rat) (rows : List Wsh) (x : Rat) : Prop where
  nn : 0 ≤ x
  le : x ≤ 1000
  up : S ≤ tot rows x ∨ x = 1000
  lo : ∀ y, 0 ≤ y → y < x → tot rows y < S
/-! ### the law's way: between neighbouring breaks the total is a straight line -/
def Aff (f : Rat → Rat) (lo hi : Rat) : Prop := ∃ A B : Rat, ∀ x, lo ≤ x → x ≤ hi → f x = A + B * x
def Out (lo hi z : Rat) : Prop := ¬ (lo < z ∧ z < hi)
end LV
end
section
/-! C13: the laws' shared helpers (the bag of draws whose first seed is 13965; amounts reckoned by Euclid) -/
namespace C13
open PySem PySem.Spec PyProof.Rows L2 L3 L4
open Rat (divInt)
/-- the bag of draws -/
def BagP (ds : List D) : Prop := ∃ (cells : List Int) (i : Nat) (big seed cnt : Int), ds = [.lst (cells.map D.int), .int i, .int big, .int seed, .int cnt] ∧ i ≤ cells.length ∧ cells.length ≤ 63 ∧ 0 ≤ big ∧ 0 ≤ seed ∧ seed < 2147483648
def sp_law_bag : LSp := fun ds m Φ => ∃ ns : List Int, ds = [.lst (ns.map D.int)] ∧ ns.length ≤ 63 ∧ ∀ b, m b = none → Φ (.ref b) (mset m b (.any BagP))
def sp_law_draw : LSp := fun ds m Φ => ∃ (b : Addr) (n : Int), ds = [.ref b, .int n] ∧ m b = some (.any BagP) ∧ 1 ≤ n ∧ n < 2 ^ 62 ∧ ∀ d, 0 ≤ d → d < n → Φ (.int d) m
def sp_law_of : LSp := fun ds m Φ => ∃ (b : Addr) (xs : List D), m b = some (.any BagP) ∧ xs ≠ [] ∧ xs.length < 1000000 ∧ (ds = [.ref b, .lst xs] ∨ ∃ a, ds = [.ref b, .ref a] ∧ m a = some (.lst xs)) ∧ ∀ x ∈ xs, Φ x m
def sp_law_amount : LSp := fun ds m Φ => ∃ (t b : Int), ds = [.int t, .int b] ∧ 0 ≤ t ∧ 0 < b ∧ b.natAbs.log2 < 9000 ∧ Φ (am (divInt t b)) m
def sp_law_sum : LSp := fun ds m Φ => ∃ (p q : Rat), ds = [am p, am q] ∧ 0 ≤ p ∧ 0 ≤ q ∧ Bg p ∧ Bg q ∧ Φ (am (p + q)) m
def sp_law_rest : LSp := fun ds m Φ => ∃ (p q : Rat), ds = [am p, am q] ∧ 0 ≤ p ∧ 0 ≤ q ∧ Bg p ∧ Bg q ∧ Φ (am (rest p q)) m
def sp_law_scaled : LSp := fun ds m Φ => ∃ (p : Rat) (t b : Int), ds = [am p, .int t, .int b] ∧ 0 ≤ p ∧ Bg p ∧ 0 ≤ t ∧ t < 2 ^ 30 ∧ 0 < b ∧ b < 2 ^ 30 ∧ Φ (am (p * divInt t b)) m
def sp_law_less : LSp := fun ds m Φ => ∃ (p q : Rat), ds = [am p, am q] ∧ Bg p ∧ Bg q ∧ Φ (.bl (decide (p < q))) m
def sp_law_min : LSp := fun ds m Φ => ∃ (p q : Rat), ds = [am p, am q] ∧ Bg p ∧ Bg q ∧ Φ (am (mn p q)) m
def sp_law_max : LSp := fun ds m Φ => ∃ (p q : Rat), ds = [am p, am q] ∧ Bg p ∧ Bg q ∧ Φ (am (mx p q)) m
def sp_law_all : LSp := fun ds m Φ => ∃ (qs : List Rat) (N M : Nat), ds = [.lst (qs.map am)] ∧ (∀ q ∈ qs, Okb N M q) ∧ qs.length ≤ 1000000 ∧ 0 < N ∧ N.log2 < 1900 ∧ M.log2 < 1900 ∧ Φ (am (total qs)) m
def sp_law_same : Nat → LSp
  | 0 => fun _ _ _ => False
  | n + 1 => fun ds m Φ => ∃ x, ds = [x, x] ∧ flat n x ∧ Φ (.bl true) m
def sp_law_some : LSp := fun ds m Φ => ∃ (b : Addr) (n : Nat), ds = [.ref b, .int n] ∧ m b = some (.any BagP) ∧ n < 2 ^ 30 ∧ ∀ q, Okb 30 n q → Φ (am q) m
def sp_law_part : LSp := fun ds m Φ => ∃ (b : Addr) (p : Rat), ds = [.ref b, am p] ∧ m b = some (.any BagP) ∧ 0 ≤ p ∧ Bg p ∧ ∀ q, 0 ≤ q → q ≤ p → (∀ N, Dn N p → Dn (N * 30) q) → Φ (am q) m
/-- _law_bag: 0 _law_script, 1 _law_seed, 2 _law_cell -/
def qb_law_bag : QS :=
  (sSeq (sAsg (.nm 1) (qC (.int 13965)))
    (sSeq (sFor (iLst (qSlL (qVar 0) qNoPart (qPart (qC (.int 63))))) (.nm 2) (sAsg (.nm 1) (qOp (qIC (fun _ j => 0 < j) fun i j => .int (i % j)) (qCB bInt (qCons (qOp qAdd (qOp qAdd (qOp (qIC CM fun i j => .int (i * j)) (qVar 1) (qC (.int 69621))) (qOp (qIC (fun _ j => 0 < j) fun i j => .int (i % j)) (qCB bInt (qCons (qVar 2) qNil)) (qC (.int 2147483629)))) (qC (.int 17))) qNil)) (qC (.int 2147483587)))))
    (sRet (qLstM (qCons (qFreeze (qCB bList (qCons (qSlL (qVar 0) qNoPart (qPart (qC (.int 63)))) qNil))) (qCons (qC (.int 0)) (qCons (qC (.int 0)) (qCons (qVar 1) (qCons (qC (.int 0)) qNil)))))))))
/-- _law_draw: 0 _law_bag_here, 1 _law_many, 2 _law_cell, 3 _law_digit, 4 _law_seed -/
def qb_law_draw : QS :=
  (sOpen (sSeq (sSub (qVar 0) (qC (.int 4)) (qOp qAdd (qOp vIx (qVar 0) (qC (.int 4))) (qC (.int 1))))
    (sSeq (sIf (qAnd (qB (qOp vEq (qOp vIx (qVar 0) (qC (.int 2))) (qC (.int 0)))) (qB (qOp (qI0 fun i j => .bl (decide (i < j))) (qOp vIx (qVar 0) (qC (.int 1))) (qCB bLen (qCons (qOp vIx (qVar 0) (qC (.int 0))) qNil))))) (sSeq (sAsg (.nm 2) (qOp vIx (qOp vIx (qVar 0) (qC (.int 0))) (qOp vIx (qVar 0) (qC (.int 1)))))
    (sSeq (sSub (qVar 0) (qC (.int 1)) (qOp qAdd (qOp vIx (qVar 0) (qC (.int 1))) (qC (.int 1))))
    (sIf (qB (qOp (qI0 fun i j => .bl (decide (j ≤ i))) (qVar 2) (qOp qPow (qC (.int 10)) (qC (.int 18))))) (sSub (qVar 0) (qC (.int 2)) (qVar 2)) (sSub (qVar 0) (qC (.int 3)) (qOp (qIC (fun _ j => 0 < j) fun i j => .int (i % j)) (qCB bInt (qCons (qOp qAdd (qOp qAdd (qOp (qIC CM fun i j => .int (i * j)) (qOp vIx (qVar 0) (qC (.int 3))) (qC (.int 39373))) (qOp (qIC CM fun i j => .int (i * j)) (qOp (qIC (fun _ j => 0 < j) fun i j => .int (i % j)) (qCB bInt (qCons (qVar 2) qNil)) (qC (.int 2147483549))) (qC (.int 24571)))) (qC (.int 59))) qNil)) (qC (.int 2147483579))))))) sNext)
    (sSeq (sIf (qB (qOp (qI0 fun i j => .bl (decide (j < i))) (qOp vIx (qVar 0) (qC (.int 2))) (qC (.int 0)))) (sSeq (sAsg (.nm 3) (qOp (qIC (fun _ j => 0 < j) fun i j => .int (i % j)) (qCB bInt (qCons (qOp vIx (qVar 0) (qC (.int 2))) qNil)) (qVar 1)))
    (sSeq (sSub (qVar 0) (qC (.int 2)) (qOp (qIC CDivW fun i j => .int (i / j)) (qOp vIx (qVar 0) (qC (.int 2))) (qVar 1)))
    (sRet (qVar 3)))) sNext)
    (sSeq (sAsg (.nm 4) (qOp vIx (qVar 0) (qC (.int 3))))
    (sSeq (sSub (qVar 0) (qC (.int 3)) (qOp (qIC (fun _ j => 0 < j) fun i j => .int (i % j)) (qCB bInt (qCons (qOp qAdd (qOp qAdd (qOp qAdd (qOp (qIC CM fun i j => .int (i * j)) (qOp (qIC CM fun i j => .int (i * j)) (qVar 4) (qVar 4)) (qC (.int 29))) (qOp (qIC CM fun i j => .int (i * j)) (qVar 4) (qC (.int 48673)))) (qOp (qIC CM fun i j => .int (i * j)) (qOp vIx (qVar 0) (qC (.int 4))) (qC (.int 1500007)))) (qC (.int 70001))) qNil)) (qC (.int 2147483579))))
    (sRet (qOp (qIC (fun _ j => 0 < j) fun i j => .int (i % j)) (qCB bInt (qCons (qOp qAdd (qOp (qIC CDivW fun i j => .int (i / j)) (qOp vIx (qVar 0) (qC (.int 3))) (qC (.int 101))) (qOp (qIC CM fun i j => .int (i * j)) (qOp (qIC (fun _ j => 0 < j) fun i j => .int (i % j)) (qCB bInt (qCons (qOp vIx (qVar 0) (qC (.int 3))) qNil)) (qC (.int 6007))) (qC (.int 83)))) qNil)) (qVar 1)))))))))
/-- _law_of: 0 _law_bag_here, 1 _law_things -/
def qb_law_of : QS :=
  (sRet (qOp vIx (qVar 1) (qCall sp_law_draw (qCons (qVar 0) (qCons (qCB bLen (qCons (qVar 1) qNil)) qNil)))))
/-- _law_amount: 0 _law_top, 1 _law_bottom, 2 _law_one, 3 _law_two -/
def qb_law_amount : QS :=
  (sSeq (sPar 2 3 (qCons (qVar 0) (qCons (qVar 1) qNil)))
    (sSeq (sWhile (qB (qOp (qI0 fun i j => .bl (decide (j < i))) (qVar 3) (qC (.int 0)))) (sPar 2 3 (qCons (qVar 3) (qCons (qOp (qIC (fun _ j => 0 < j) fun i j => .int (i % j)) (qCB bInt (qCons (qVar 2) qNil)) (qVar 3)) qNil))))
    (sRet (qTup (qCons (qOp (qIC CDivW fun i j => .int (i / j)) (qVar 0) (qVar 2)) (qCons (qOp (qIC CDivW fun i j => .int (i / j)) (qVar 1) (qVar 2)) qNil))))))
/-- _law_sum: 0 _law_one, 1 _law_two -/
def qb_law_sum : QS :=
  (sRet (qCall sp_law_amount (qCons (qOp qAdd (qOp (qIC CM fun i j => .int (i * j)) (qOp vIx (qVar 0) (qC (.int 0))) (qOp vIx (qVar 1) (qC (.int 1)))) (qOp (qIC CM fun i j => .int (i * j)) (qOp vIx (qVar 1) (qC (.int 0))) (qOp vIx (qVar 0) (qC (.int 1))))) (qCons (qOp (qIC CM fun i j => .int (i * j)) (qOp vIx (qVar 0) (qC (.int 1))) (qOp vIx (qVar 1) (qC (.int 1)))) qNil))))
/-- _law_rest: 0 _law_one, 1 _law_two -/
def qb_law_rest : QS :=
  (sRet (qCall sp_law_amount (qCons (qCB bMax2 (qCons (qOp (qI0 fun i j => .int (i - j)) (qOp (qIC CM fun i j => .int (i * j)) (qOp vIx (qVar 0) (qC (.int 0))) (qOp vIx (qVar 1) (qC (.int 1)))) (qOp (qIC CM fun i j => .int (i * j)) (qOp vIx (qVar 1) (qC (.int 0))) (qOp vIx (qVar 0) (qC (.int 1))))) (qCons (qC (.int 0)) qNil))) (qCons (qOp (qIC CM fun i j => .int (i * j)) (qOp vIx (qVar 0) (qC (.int 1))) (qOp vIx (qVar 1) (qC (.int 1)))) qNil))))
/-- _law_scaled: 0 _law_one, 1 _law_top, 2 _law_bottom -/
def qb_law_scaled : QS :=
  (sRet (qCall sp_law_amount (qCons (qOp (qIC CM fun i j => .int (i * j)) (qOp vIx (qVar 0) (qC (.int 0))) (qVar 1)) (qCons (qOp (qIC CM fun i j => .int (i * j)) (qOp vIx (qVar 0) (qC (.int 1))) (qVar 2)) qNil))))
/-- _law_all: 0 _law_row, 1 _law_found, 2 _law_one -/
def qb_law_all : QS :=
  (sSeq (sAsg (.nm 1) (qTup (qCons (qC (.int 0)) (qCons (qC (.int 1)) qNil))))
    (sSeq (sFor (iLst (qVar 0)) (.nm 2) (sAsg (.nm 1) (qCall sp_law_sum (qCons (qVar 1) (qCons (qVar 2) qNil)))))
    (sRet (qVar 1))))
/-- _law_same: 0 _law_told, 1 _law_due, 2 _law_one, 3 _law_two -/
def qb_law_same (n : Nat) : QS :=
  (sSeq (sIf (qB (qIsiT ["tuple", "list"] (qVar 1))) (sSeq (sIf (qOr (qB (qOp vNe (qIsi "tuple" (qVar 0)) (qIsi "tuple" (qVar 1)))) (qB (qOp vNe (qIsi "list" (qVar 0)) (qIsi "list" (qVar 1))))) (sRet (qC (.bl false))) sNext)
    (sRet (qAndV (qOp vEq (qCB bLen (qCons (qVar 0) qNil)) (qCB bLen (qCons (qVar 1) qNil))) (qCB bAll (qCons (qFreeze (qLc (iZipD (qCons (qVar 0) (qCons (qVar 1) qNil))) (.tp [(.nm 2), (.nm 3)]) qYes (qCall (sp_law_same n) (qCons (qVar 2) (qCons (qVar 3) qNil))) [2, 3])) qNil))))) sNext)
    (sSeq (sIf (qOr (qB (qOp qIsN (qVar 1) (qC .non))) (qB (qOp qIsN (qVar 0) (qC .non)))) (sRet (qAndV (qOp qIsN (qVar 1) (qC .non)) (qOp qIsN (qVar 0) (qC .non)))) sNext)
    (sSeq (sIf (qOr (qB (qOp vNe (qIsi "bool" (qVar 0)) (qIsi "bool" (qVar 1)))) (qB (qOp vNe (qIsi "int" (qVar 0)) (qIsi "int" (qVar 1))))) (sRet (qC (.bl false))) sNext)
    (sRet (qAndV (qOp vEq (qIsi "str" (qVar 0)) (qIsi "str" (qVar 1))) (qOp vEq (qVar 0) (qVar 1)))))))
/-- _law_some: 0 _law_bag_here, 1 _law_most, 2 _law_bottom -/
def qb_law_some : QS :=
  (sSeq (sAsg (.nm 2) (qCall sp_law_of (qCons (qVar 0) (qCons (qLstF (qCons (qC (.int 1)) (qCons (qC (.int 1)) (qCons (qC (.int 2)) (qCons (qC (.int 1)) (qCons (qC (.int 3)) (qCons (qC (.int 1)) (qCons (qC (.int 2)) (qCons (qC (.int 5)) qNil))))))))) qNil))))
    (sRet (qCall sp_law_amount (qCons (qCall sp_law_draw (qCons (qVar 0) (qCons (qOp qAdd (qOp (qIC CM fun i j => .int (i * j)) (qVar 1) (qVar 2)) (qC (.int 1))) qNil))) (qCons (qVar 2) qNil)))))
/-- _law_part: 0 _law_bag_here, 1 _law_one, 2 _law_top, 3 _law_bottom -/
def qb_law_part : QS :=
  (sSeq (sAsg (.tp [(.nm 2), (.nm 3)]) (qCall sp_law_of (qCons (qVar 0) (qCons (qLstF (qCons (qTup (qCons (qC (.int 1)) (qCons (qC (.int 1)) qNil))) (qCons (qTup (qCons (qC (.int 0)) (qCons (qC (.int 1)) qNil))) (qCons (qTup (qCons (qC (.int 1)) (qCons (qC (.int 2)) qNil))) (qCons (qTup (qCons (qC (.int 1)) (qCons (qC (.int 1)) qNil))) (qCons (qTup (qCons (qC (.int 2)) (qCons (qC (.int 3)) qNil))) (qCons (qTup (qCons (qC (.int 1)) (qCons (qC (.int 5)) qNil))) qNil))))))) qNil))))
    (sRet (qCall sp_law_scaled (qCons (qVar 1) (qCons (qVar 2) (qCons (qVar 3) qNil))))))
/-- _law_less: 0 _law_one, 1 _law_two -/
def qb_law_less : QS :=
  (sRet (qOp (qI0 fun i j => .bl (decide (i < j))) (qOp (qIC CM fun i j => .int (i * j)) (qOp vIx (qVar 0) (qC (.int 0))) (qOp vIx (qVar 1) (qC (.int 1)))) (qOp (qIC CM fun i j => .int (i * j)) (qOp vIx (qVar 1) (qC (.int 0))) (qOp vIx (qVar 0) (qC (.int 1))))))
/-- _law_min -/
def qb_law_min : QS :=
  (sRet (qIfE (qB (qCall sp_law_less (qCons (qVar 1) (qCons (qVar 0) qNil)))) (qVar 1) (qVar 0)))
/-- _law_max -/
def qb_law_max : QS :=
  (sRet (qIfE (qB (qCall sp_law_less (qCons (qVar 0) (qCons (qVar 1) qNil)))) (qVar 1) (qVar 0)))
theorem bag_ok {cells : List Int} {i : Nat} {big seed cnt : Int} (h1 : i ≤ cells.length) (h2 : cells.length ≤ 63) (h3 : 0 ≤ big) (h4 : 0 ≤ seed) (h5 : seed < 2147483648) : BagP [.lst (cells.map D.int), .int i, .int big, .int seed, .int cnt] := ⟨cells, i, big, seed, cnt, rfl, h1, h2, h3, h4, h5⟩
theorem len_law_draw : ∀ ds m Φ, sp_law_draw ds m Φ → ds.length = 2 := by rintro _ _ _ ⟨_, _, rfl, _⟩; rfl
theorem len_law_bag : ∀ ds m Φ, sp_law_bag ds m Φ → ds.length = 1 := by rintro _ _ _ ⟨_, rfl, _⟩; rfl
theorem cut63 {ns : List Int} (h : ns.length ≤ 63) : L3.cutD (ns.map D.int) none (some 63) = ns.map D.int := by
  unfold L3.cutD
  have e1 : HT.sIx (ns.map D.int).length 0 none = 0 := rfl
  have e2 : HT.sIx (ns.map D.int).length (ns.map D.int).length (some 63) = ns.length := by
    rw [List.length_map]
    exact (HT.sIx_nat ns.length ns.length 63).trans (by omega)
  rw [e1, e2, List.drop_zero, Nat.sub_zero]
  exact List.take_of_length_le (by rw [List.length_map]; exact Nat.le_refl _)
theorem len_law_of : ∀ ds m Φ, sp_law_of ds m Φ → ds.length = 2 := by
  rintro _ _ _ ⟨_, _, _, _, _, rfl | ⟨_, rfl, _⟩, _⟩ <;> rfl
theorem rd_law_of : ∀ ds m Φ, sp_law_of ds m Φ → qb_law_of (bodyW Φ) (begin_ 2 ds) m := by
  rintro _ m Φ ⟨b, xs, hb, hx, hz, h, k⟩
  have hl : 0 < xs.length := List.length_pos_iff.mpr hx
  rcases h with rfl | ⟨a, rfl, ha⟩
  · refine ⟨b, _, rfl, hb, by omega, by omega, fun d h0 h1 => ?_⟩
    obtain ⟨x, hx, e⟩ := atI_in xs h0 h1
    exact ⟨x, e, wk_at (k x hx)⟩
  · refine Or.inl ⟨xs, ha, b, _, rfl, hb, by omega, by omega, fun d h0 h1 => ?_⟩
    obtain ⟨x, hx, e⟩ := atI_in xs h0 h1
    exact Or.inl ⟨_, _, x, rfl, ha, e, wk_at (k x hx)⟩
theorem len_law_amount : ∀ ds m Φ, sp_law_amount ds m Φ → ds.length = 2 := by rintro _ _ _ ⟨_, _, rfl, _⟩; rfl
theorem rd_law_amount : ∀ ds m Φ, sp_law_amount ds m Φ → qb_law_amount (bodyW Φ) (begin_ 4 ds) m := by
  rintro _ m Φ ⟨t, b, rfl, h1, h2, h3, k⟩
  refine ⟨fun n s' m' => m' = m ∧ ∃ (x y : Int), s' = [some (.int t), some (.int b), some (.int x), some (.int y)] ∧ 0 ≤ x ∧ 0 ≤ y ∧ y.toNat = n ∧ Int.gcd x y = Int.gcd t b ∧ (0 < x ∨ 0 < y), ⟨_, rfl, t, b, rfl, h1, by omega, rfl, rfl, .inr h2⟩, ?_⟩
  rintro n s' m' ⟨rfl, x, y, rfl, hx, hy, rfl, hg, hp⟩
  refine qif (fun h => ?_) (fun h => ?_)
  · have h : 0 < y := dec_t h
    refine ⟨?_, ?_⟩
    · exact h
    · have e1 : 0 ≤ x % y := Int.emod_nonneg _ (by omega)
      have e2 : x % y < y := Int.emod_lt_of_pos _ h
      refine ⟨(x % y).toNat, by omega, rfl, y, x % y, rfl, hy, e1, rfl, ?_, .inl h⟩
      rw [← hg]
      rw [Int.gcd_comm x y]
      exact gcd_step hx hy
  · have h : ¬ 0 < y := dec_f h
    have hy0 : y = 0 := by omega
    subst hy0
    have ex : x = (Int.gcd t b : Nat) := by
      rw [← hg, Int.gcd_zero_right]; omega
    have hlt : x ≤ b := by
      rw [ex]
      have := Int.gcd_le_right (a := t) h2
      omega
    refine ⟨cd_le (by omega) hlt h3, cd_le (by omega) hlt h3, by show 2 ≤ 16777216; decide, wk_at ?_⟩
    have e : D.tup [.int (t / x), .int (b / x)] = am (divInt t b) := am_low h2 ex
    rw [e]
    exact k
end C13
end
section
/-! PA: the program's amounts, hops, buffers, wires -/
namespace PA
open PySem PySem.Spec PyProof.Rows L2 L3 L4
open Rat (divInt)
/-! ### amounts -/
def sp_p_lowest : LSp := fun ds m Φ => ∃ (t b : Int), ds = [.int t, .int b] ∧ 0 < b ∧ b.natAbs.log2 < 9000 ∧ Φ (am (divInt t b)) m
def sp_plus : LSp := fun ds m Φ => ∃ (qs : List Rat) (N M : Nat), ds = [.tup (qs.map am)] ∧ (∀ q ∈ qs, Okb N M q) ∧ qs.length ≤ 1000000 ∧ 0 < N ∧ N.log2 < 1900 ∧ M.log2 < 1900 ∧ Φ (am (total qs)) m
def sp_plus_s : LSp := fun ds m Φ => ∃ ws rest, ds = ws ++ rest ∧ ws.length = 0 ∧ rest.length ≤ sizeLine ∧ sp_plus (ws ++ [.tup rest]) m Φ
def sp_minus : LSp := fun ds m Φ => ∃ (p q : Rat), ds = [am p, am q] ∧ q ≤ p ∧ Bg p ∧ Bg q ∧ Φ (am (p - q)) m
def cmpI (p q : Rat) : Int := if p = q then 0 else if p < q then -1 else 1
def sp_compare : LSp := fun ds m Φ => ∃ (p q : Rat), ds = [am p, am q] ∧ Bg p ∧ Bg q ∧ Φ (.int (cmpI p q)) m
def sp_largest : LSp := fun ds m Φ => ∃ (p : Rat) (qs : List Rat), ds = [am p, .tup (qs.map am)] ∧ Bg p ∧ (∀ q ∈ qs, Bg q) ∧ Φ (am (qs.foldl mx p)) m
def sp_largest_s : LSp := fun ds m Φ => ∃ ws rest, ds = ws ++ rest ∧ ws.length = 1 ∧ rest.length ≤ sizeLine ∧ sp_largest (ws ++ [.tup rest]) m Φ
/-- _lowest: 0 top, 1 bottom, 2 common -/
def qb_p_lowest : QS :=
  (sSeq (sAsg (.nm 2) (qCB bGcd (qCons (qVar 0) (qCons (qVar 1) qNil))))
    (sRet (qTup (qCons (qOp (qIC CDivW fun i j => .int (i / j)) (qVar 0) (qVar 2)) (qCons (qOp (qIC CDivW fun i j => .int (i / j)) (qVar 1) (qVar 2)) qNil)))))
/-- plus: 0 amounts, 1 top, 2 bottom, 3 more, 4 parts, 5 common -/
def qb_plus : QS :=
  (sSeq (sAsg (.tp [(.nm 1), (.nm 2)]) (qC (.tup [(.int 0), (.int 1)])))
    (sSeq (sFor (iTup (qVar 0)) (.tp [(.nm 3), (.nm 4)]) (sIf (qB (qOp vEq (qVar 4) (qVar 2))) (sAug 1 qIAdd (qVar 3)) (sSeq (sAsg (.nm 5) (qCB bGcd (qCons (qVar 2) (qCons (qVar 4) qNil))))
    (sSeq (sAsg (.nm 1) (qOp qAdd (qOp (qIC CM fun i j => .int (i * j)) (qVar 1) (qOp (qIC CDivW fun i j => .int (i / j)) (qVar 4) (qVar 5))) (qOp (qIC CM fun i j => .int (i * j)) (qVar 3) (qOp (qIC CDivW fun i j => .int (i / j)) (qVar 2) (qVar 5)))))
    (sAsg (.nm 2) (qOp (qIC CM fun i j => .int (i * j)) (qOp (qIC CDivW fun i j => .int (i / j)) (qVar 2) (qVar 5)) (qVar 4)))))))
    (sRet (qCall sp_p_lowest (qCons (qVar 1) (qCons (qVar 2) qNil))))))
/-- minus: 0 first, 1 second, 2 top -/
def qb_minus : QS :=
  (sSeq (sAsg (.nm 2) (qOp (qI0 fun i j => .int (i - j)) (qOp (qIC CM fun i j => .int (i * j)) (qOp vIx (qVar 0) (qC (.int 0))) (qOp vIx (qVar 1) (qC (.int 1)))) (qOp (qIC CM fun i j => .int (i * j)) (qOp vIx (qVar 1) (qC (.int 0))) (qOp vIx (qVar 0) (qC (.int 1))))))
    (sSeq (sIf (qB (qOp (qI0 fun i j => .bl (decide (i < j))) (qVar 2) (qC (.int 0)))) sNever sNext)
    (sRet (qCall sp_p_lowest (qCons (qVar 2) (qCons (qOp (qIC CM fun i j => .int (i * j)) (qOp vIx (qVar 0) (qC (.int 1))) (qOp vIx (qVar 1) (qC (.int 1)))) qNil))))))
/-- compare: 0 first, 1 second, 2 left, 3 right -/
def qb_compare : QS :=
  (sSeq (sAsg (.nm 2) (qOp (qIC CM fun i j => .int (i * j)) (qOp vIx (qVar 0) (qC (.int 0))) (qOp vIx (qVar 1) (qC (.int 1)))))
    (sSeq (sAsg (.nm 3) (qOp (qIC CM fun i j => .int (i * j)) (qOp vIx (qVar 1) (qC (.int 0))) (qOp vIx (qVar 0) (qC (.int 1)))))
    (sSeq (sIf (qB (qOp vEq (qVar 2) (qVar 3))) (sRet (qC (.int 0))) sNext)
    (sRet (qIfE (qB (qOp (qI0 fun i j => .bl (decide (i < j))) (qVar 2) (qVar 3))) (qNeg (qC (.int 1))) (qC (.int 1)))))))
/-- largest: 0 first, 1 others, 2 found, 3 other -/
def qb_largest : QS :=
  (sSeq (sAsg (.nm 2) (qVar 0))
    (sSeq (sFor (iTup (qVar 1)) (.nm 3) (sIf (qB (qOp (qI0 fun i j => .bl (decide (j < i))) (qCall sp_compare (qCons (qVar 3) (qCons (qVar 2) qNil))) (qC (.int 0)))) (sAsg (.nm 2) (qVar 3)) sNext))
    (sRet (qVar 2))))
/-! ### hops -/
def flds (way age : Int) (d : Addr) : List (Str × D) := [("_way", .int way), ("_age", .int age), ("_sent", .ref d)]
/-- a hop at h, its dict at d -/
structure HopAt (C : Addr) (m : Mem) (h d : Addr) (way age : Int) (t : Tab) : Prop where
  ob : m h = some (.ins C (flds way age d))
  dc : m d = some (.dK (tabD t))
def sp_Hop_init (C : Addr) : LSp := fun ds m Φ => ∃ (h : Addr) (way age : Int), ds = [.ref h, .int way, .int age] ∧ m h = some (.ins C []) ∧ ∀ d m', m d = none → HopAt C m' h d way age [] → Keeps m m' (fun a => a = h) → Φ .non m'
def sp_Hop_remember (C : Addr) : LSp := fun ds m Φ => ∃ (h d : Addr) (way age tick : Int) (t : Tab) (q : Rat), ds = [.ref h, .int tick, am q] ∧ HopAt C m h d way age t ∧ t.length ≤ 1000 ∧ (t.map (·.1)).Nodup ∧
  ∀ d' m', m d' = none → HopAt C m' h d' way age (putT (t.filter (cutF (tick - age - way))) tick q) → Keeps m m' (fun a => a = h ∨ a = d) → Φ .non m'
def sp_Hop_sent_after (C : Addr) : LSp := fun ds m Φ => ∃ (h d : Addr) (way age lo hi : Int) (t : Tab) (N M : Nat), ds = [.ref h, .int lo, .int hi] ∧ HopAt C m h d way age t ∧ TabOk N M t ∧ 0 < N ∧ N.log2 < 1900 ∧ M.log2 < 1900 ∧ Φ (am (taken t lo hi)) m
def sp_Hop_room (C : Addr) : LSp := fun ds m Φ => ∃ (h d : Addr) (way age now made : Int) (t : Tab) (told : Rat) (N M : Nat), ds = [.ref h, .int now, .int made, am told] ∧ HopAt C m h d way age t ∧ TabOk N M t ∧ 0 < N ∧ N.log2 < 1900 ∧ M.log2 < 1900 ∧ Bg told ∧ Φ (am (rest told (taken t (made - way) now))) m
def sp_Hop_copy (C : Addr) : LSp := fun ds m Φ => ∃ (h d : Addr) (way age : Int) (t : Tab), ds = [.ref h] ∧ HopAt C m h d way age t ∧ ∀ h' d' m', h' ≠ d' → m h' = none → m d' = none → HopAt C m' h' d' way age t → Grows m m' → Φ (.ref h') m'
/-- Hop.__init__: 0 self, 1 way, 2 age -/
def qb_Hop_init (C : Addr) : QS :=
  (sSeq (sSetF C "_way" (qVar 0) (qVar 1))
    (sSeq (sSetF C "_age" (qVar 0) (qVar 2))
    (sSetF C "_sent" (qVar 0) qDNewK)))
/-- Hop.remember: 0 self, 1 tick, 2 water, 3 oldest, 4 kept, 5 sent, 6 put -/
def qb_Hop_remember (C : Addr) : QS :=
  (sSeq (sAsg (.nm 3) (qOp (qI0 fun i j => .int (i - j)) (qOp (qI0 fun i j => .int (i - j)) (qVar 1) (qFld C "_age" (qVar 0))) (qFld C "_way" (qVar 0))))
    (sSeq (sLock (sAsg (.nm 4) (qDc (iDict fItem (qFld C "_sent" (qVar 0))) (.tp [(.nm 5), (.nm 6)]) (qB (qOp (qI0 fun i j => .bl (decide (j ≤ i))) (qVar 5) (qVar 3))) (qVar 5) (qVar 6) [5, 6])))
    (sSeq (sSub (qVar 4) (qVar 1) (qVar 2))
    (sSetF C "_sent" (qVar 0) (qVar 4)))))
/-- Hop.sent_after: 0 self, 1 tick, 2 now, 3 waters, 4 sent, 5 put -/
def qb_Hop_sent_after (C : Addr) : QS :=
  (sSeq (sLock (sAsg (.nm 3) (qFreeze (qLc (iDict fItem (qFld C "_sent" (qVar 0))) (.tp [(.nm 4), (.nm 5)]) (qB (qChain (qI0 fun i j => .bl (decide (i < j))) (qI0 fun i j => .bl (decide (i < j))) (qVar 1) (qVar 4) (qVar 2))) (qVar 5) [4, 5]))))
    (sRet (qCallS1 sp_plus_s (qVar 3))))
/-- Hop.room: 0 self, 1 now, 2 made, 3 told, 4 used -/
def qb_Hop_room (C : Addr) : QS :=
  (sSeq (sAsg (.nm 4) (qMeth C "sent_after" (sp_Hop_sent_after C) (qVar 0) (qCons (qOp (qI0 fun i j => .int (i - j)) (qVar 2) (qFld C "_way" (qVar 0))) (qCons (qVar 1) qNil))))
    (sSeq (sIf (qB (qOp (qI0 fun i j => .bl (decide (j ≤ i))) (qCall sp_compare (qCons (qVar 4) (qCons (qVar 3) qNil))) (qC (.int 0)))) (sRet (qC (.tup [(.int 0), (.int 1)]))) sNext)
    (sRet (qCall sp_minus (qCons (qVar 3) (qCons (qVar 4) qNil))))))
/-- Hop.copy: 0 self, 1 twin -/
def qb_Hop_copy (C : Addr) : QS :=
  (sSeq (sAsg (.nm 1) (qMake C (sp_Hop_init C) (qCons (qFld C "_way" (qVar 0)) (qCons (qFld C "_age" (qVar 0)) qNil))))
    (sSeq (sSetF C "_sent" (qVar 1) (qCB bDict (qCons (qFld C "_sent" (qVar 0)) qNil)))
    (sRet (qVar 1))))
theorem fl_way {w a : Int} {d : Addr} : (flds w a d).lookup ("_way" : Str) = some (D.int w) := by rfl
theorem fl_age {w a : Int} {d : Addr} : (flds w a d).lookup ("_age" : Str) = some (D.int a) := by rfl
theorem fl_sent {w a : Int} {d : Addr} : (flds w a d).lookup ("_sent" : Str) = some (D.ref d) := by rfl
theorem fl_set {w a : Int} {d e : Addr} : putFD ("_sent" : Str) (D.ref e) (flds w a d) = flds w a e := by rfl
theorem fl_new {w a : Int} {d : Addr} : putFD ("_sent" : Str) (D.ref d) (putFD ("_age" : Str) (D.int a) (putFD ("_way" : Str) (D.int w) [])) = flds w a d := by rfl
end PA
end
section
/-! PL: the program's levels: amounts of numbers, products, the smallest, spare shares -/
namespace PL
open PySem PySem.Spec PyProof.Rows L2 L3 L4 LF
open Rat (divInt)
abbrev wantD (p : Int × Rat) : D := .tup [.int p.1, am p.2]
def sp_p_on_scale : LSp := fun ds m Φ => ∃ (q : Rat) (s : Int), ds = [am q, .int s] ∧ 0 < s ∧ q.num.natAbs.log2 < 9000 ∧ (q.den : Int) ≤ s ∧ s.natAbs.log2 < 9000 ∧ Φ (.int (q.num * (s / q.den))) m
def sp_is_number : LSp := fun ds m Φ => ∃ i : Int, ds = [.int i] ∧ Φ (.bl true) m
def sp_amount : LSp := fun ds m Φ => ∃ (t b : Int), ds = [.int t, .int b] ∧ 0 ≤ t ∧ 0 < b ∧ b.natAbs.log2 < 9000 ∧ Φ (am (divInt t b)) m
def sp_smallest : LSp := fun ds m Φ => ∃ (p : Rat) (qs : List Rat), ds = [am p, .tup (qs.map am)] ∧ Bg p ∧ (∀ q ∈ qs, Bg q) ∧ Φ (am (qs.foldl mn p)) m
def sp_smallest_s : LSp := fun ds m Φ => ∃ ws rest, ds = ws ++ rest ∧ ws.length = 1 ∧ rest.length ≤ sizeLine ∧ sp_smallest (ws ++ [.tup rest]) m Φ
def sp_times : LSp := fun ds m Φ => ∃ (p q : Rat), ds = [am p, am q] ∧ Bg p ∧ Bg q ∧ Φ (am (p * q)) m
/-- wants whose sizes are bounded -/
structure Wb (N M W : Nat) (R : Rat) (ws : Wants) : Prop where
  ok : WOk ws
  len : ws.length < 60
  wt : ∀ p ∈ ws, (p.1 : Int) ∣ (W : Int)
  am : ∀ p ∈ ws, Okb N M p.2
  rs : Okb N M R
  n0 : 0 < N
  w0 : 0 < W
  nb : N.log2 < 500
  mb : M.log2 < 500
  wb : W.log2 < 100
def sp_spare_shares : LSp := fun ds m Φ => ∃ (R : Rat) (w : D) (ws : Wants) (N M W : Nat), ds = [am R, w] ∧ ItemsAt w m (ws.map wantD) ∧ Wb N M W R ws ∧ ∀ rs, Filling R ws rs → ∀ a, m a = none → Φ (.ref a) (mset m a (.lst (rs.map am)))
/-- _on_scale: 0 value, 1 scale -/
def qb_p_on_scale : QS :=
  (sRet (qOp (qIC CM fun i j => .int (i * j)) (qOp vIx (qVar 0) (qC (.int 0))) (qOp (qIC CDivW fun i j => .int (i / j)) (qVar 1) (qOp vIx (qVar 0) (qC (.int 1))))))
/-- is_number: 0 value -/
def qb_is_number : QS :=
  (sRet (qAndV (qIsi "int" (qVar 0)) (qNotV (qIsi "bool" (qVar 0)))))
/-- amount: 0 top, 1 bottom -/
def qb_amount : QS :=
  (sSeq (sIf (qOr (qNot (qB (qCall sp_is_number (qCons (qVar 0) qNil)))) (qB (qOp (qI0 fun i j => .bl (decide (i < j))) (qVar 0) (qC (.int 0))))) sNever sNext)
    (sSeq (sIf (qOr (qNot (qB (qCall sp_is_number (qCons (qVar 1) qNil)))) (qB (qOp (qI0 fun i j => .bl (decide (i < j))) (qVar 1) (qC (.int 1))))) sNever sNext)
    (sRet (qCall PA.sp_p_lowest (qCons (qVar 0) (qCons (qVar 1) qNil))))))
/-- smallest: 0 first, 1 others, 2 found, 3 other -/
def qb_smallest : QS :=
  (sSeq (sAsg (.nm 2) (qVar 0))
    (sSeq (sFor (iTup (qVar 1)) (.nm 3) (sIf (qB (qOp (qI0 fun i j => .bl (decide (i < j))) (qCall PA.sp_compare (qCons (qVar 3) (qCons (qVar 2) qNil))) (qC (.int 0)))) (sAsg (.nm 2) (qVar 3)) sNext))
    (sRet (qVar 2))))
/-- times: 0 first, 1 second -/
def qb_times : QS :=
  (sRet (qCall PA.sp_p_lowest (qCons (qOp (qIC CM fun i j => .int (i * j)) (qOp vIx (qVar 0) (qC (.int 0))) (qOp vIx (qVar 1) (qC (.int 0)))) (qCons (qOp (qIC CM fun i j => .int (i * j)) (qOp vIx (qVar 0) (qC (.int 1))) (qOp vIx (qVar 1) (qC (.int 1)))) qNil))))
/-- spare_shares: 0 rest, 1 wants, 2 scale, 3 weight, 4 want, 5 left, 6 weights, 7 heights, 8 height, 9 level, 10 _, 11 each -/
def qb_spare_shares : QS :=
  (sSeq (sAsg (.nm 2) (qOp vIx (qVar 0) (qC (.int 1))))
    (sSeq (sFor (iSeq (qVar 1)) (.tp [(.nm 3), (.nm 4)]) (sAsg (.nm 2) (qCB bLcm (qCons (qVar 2) (qCons (qOp (qIC CM fun i j => .int (i * j)) (qOp vIx (qVar 4) (qC (.int 1))) (qVar 3)) qNil)))))
    (sSeq (sAsg (.nm 5) (qCall sp_p_on_scale (qCons (qVar 0) (qCons (qVar 2) qNil))))
    (sSeq (sAsg (.nm 6) (qCB bSum (qCons (qFreeze (qLc (iSeq (qVar 1)) (.tp [(.nm 3), (.nm 10)]) qYes (qVar 3) [3, 10])) qNil)))
    (sSeq (sAsg (.nm 7) (qFreeze (qLc (iSeq (qVar 1)) (.tp [(.nm 3), (.nm 4)]) qYes (qTup (qCons (qOp (qIC CM fun i j => .int (i * j)) (qOp vIx (qVar 4) (qC (.int 0))) (qOp (qIC CDivW fun i j => .int (i / j)) (qVar 2) (qOp (qIC CM fun i j => .int (i * j)) (qOp vIx (qVar 4) (qC (.int 1))) (qVar 3)))) (qCons (qVar 3) qNil))) [3, 4])))
    (sSeq (sFor (iLst (qFreeze (qCB (bSortP LF.SB) (qCons (qVar 7) qNil)))) (.tp [(.nm 8), (.nm 3)]) (sSeq (sIf (qB (qOp (qI0 fun i j => .bl (decide (j < i))) (qOp (qIC CM fun i j => .int (i * j)) (qVar 8) (qVar 6)) (qVar 5))) (sSeq (sAsg (.nm 9) (qCall sp_amount (qCons (qVar 5) (qCons (qOp (qIC CM fun i j => .int (i * j)) (qVar 6) (qVar 2)) qNil))))
    (sRet (qLc (iSeq (qVar 1)) (.tp [(.nm 11), (.nm 4)]) qYes (qCall sp_smallest_s (qCons (qVar 4) (qCons (qCall sp_times (qCons (qTup (qCons (qVar 11) (qCons (qC (.int 1)) qNil))) (qCons (qVar 9) qNil))) qNil))) [11, 4]))) sNext)
    (sSeq (sAug 5 (qI0 fun i j => .int (i - j)) (qOp (qIC CM fun i j => .int (i * j)) (qVar 8) (qVar 3)))
    (sAug 6 (qI0 fun i j => .int (i - j)) (qVar 3)))))
    (sRet (qLc (iSeq (qVar 1)) (.tp [(.nm 10), (.nm 4)]) qYes (qVar 4) [10, 4]))))))))
section
variable {N M W : Nat} {R : Rat} {ws : Wants} (h : Wb N M W R ws)
include h
end
end PL
end
section
/-! PL2: spare shares -/
namespace PL
open PySem PySem.Spec PyProof.Rows L2 L3 L4 LF
open Rat (divInt)
local macro_rules | `(tactic| walk_at "st") => `(tactic| repeat (first
  | (with_reducible refine k_var (by with_unfolding_all rfl) ?_)
  | (with_reducible refine k_seq ?_)
  | (with_reducible refine k_cons ?_)
  | (with_reducible refine k_nil ?_)
  | (with_reducible refine k_c ?_)
  | (with_reducible refine k_op ?_)
  | (with_reducible refine k_asg ?_)
  | (with_reducible refine k_call ?_)
  | (with_reducible refine k_cb ?_)
  | (with_reducible refine k_i0 ?_)
  | (with_reducible refine k_addI ?_)
  | (with_reducible refine k_B ?_)
  | (with_reducible refine k_bk ?_)
  | (with_reducible refine k_if ?_)
  | (with_reducible refine k_ret ?_)
  | (with_reducible refine k_expr ?_)
  | (with_reducible refine k_next ?_)
  | (with_reducible refine k_not ?_)
  | (with_reducible refine k_and ?_)
  | (with_reducible refine k_or ?_)
  | (with_reducible refine k_ift ?_)
  | (with_reducible refine k_iff ?_)
  | (with_reducible refine k_ifnt ?_)
  | (with_reducible refine k_ifnf ?_)
  | (with_reducible refine k_fz ?_)
  | (with_reducible refine k_lc ?_)
  | (with_reducible refine k_dc ?_)
  | (with_reducible refine k_for ?_)
  | (with_reducible refine k_rng ?_)
  | (with_reducible refine k_iL ?_)
  | (with_reducible refine k_iLl ?_)
  | (with_reducible refine k_iT ?_)
  | (with_reducible refine k_iTt ?_)
  | (with_reducible refine k_zip ?_)
  | (with_reducible refine k_asgp ?_)
  | (with_reducible refine k_atn ?_)
  | (with_reducible refine k_par ?_)
  | (with_reducible refine k_parI ?_)
  | (with_reducible refine k_par3 ?_)
  | (with_reducible refine k_par3I ?_)
  | (with_reducible refine k_sub ?_)
  | (with_reducible refine k_andV ?_)
  | (with_reducible refine k_orV ?_)
  | (with_reducible refine k_notV ?_)
  | (with_reducible refine k_ifE ?_)
  | (with_reducible refine k_chain ?_)
  | (with_reducible refine k_am0 ?_)
  | (with_reducible refine k_am1 ?_)
  | (with_reducible refine k_int ?_)
  | (with_reducible refine k_eqI ?_)
  | (with_reducible refine k_neI ?_)
  | (with_reducible refine k_eqB ?_)
  | (with_reducible refine k_neB ?_)
  | (with_reducible refine k_iaddI ?_)
  | (with_reducible refine k_lenT ?_)
  | (with_reducible refine k_lenL ?_)
  | (with_reducible refine k_tru ?_)
  | (with_reducible refine k_cont ?_)
  | (with_reducible refine k_brk ?_)
  | (with_reducible refine k_retN ?_)
  | (with_reducible refine k_callK ?_)
  | (with_reducible refine k_callS1 ?_)
  | (with_reducible refine k_star ?_)
  | (with_reducible refine k_itL ?_)
  | (with_reducible refine k_itT ?_)
  | (with_reducible refine k_isi ?_)
  | (with_reducible refine k_isiT ?_)
  | (with_reducible refine k_bm ?_)
  | (with_reducible refine k_tup ?_)
  | (with_reducible refine k_lstF ?_)
  | (with_reducible refine k_lstM ?_)
  | (with_reducible refine k_aug (by with_unfolding_all rfl) ?_)
  | (with_reducible refine k_iSv (by with_unfolding_all rfl) ?_)
  | (with_reducible refine k_ixt (by with_unfolding_all rfl) ?_)
  | (with_reducible refine k_at (by with_unfolding_all rfl) ?_)
  | (with_reducible refine k_fzn ‹_› ?_)
  | (refine And.intro (by exact sz (by simp)) ?_)))
section
variable {N M W : Nat} {R : Rat} {ws : Wants}
def hOf (sc : Nat) (p : Int × Rat) : Int × Int := (p.2.num * ((sc : Int) / ((p.2.den : Int) * p.1)), p.1)
end
end PL
end
section
/-! LV2: the program's way to a level: bends in order -/
namespace LV
open PySem PySem.Spec PyProof.Rows L2 L3 L4 LF
open Rat (divInt)
def ps (y : Rat) : Rat := if 0 < y then y else 0
def hasM (r : Wsh) : Bool := r.1.isSome
def ls (r : Wsh) : Rat := (r.1.getD (0, 0)).1
def ms (r : Wsh) : Rat := (r.1.getD (0, 0)).2
def st (r : Wsh) : Rat := ls r * divInt 1 r.2.1
def en (r : Wsh) : Rat := mn (mn (ms r * divInt 1 r.2.1) r.2.2) 1000
/-! ### bends on a scale -/
def on (sc : Nat) (q : Rat) : Int := q.num * ((sc : Int) / (q.den : Int))
def bd (sc : Nat) (r : Wsh) : List (Int × Int) := if on sc (st r) < on sc (en r) then [(on sc (st r), r.2.1), (on sc (en r), -r.2.1)] else []
def bds (sc : Nat) : List Wsh → List (Int × Int)
  | [] => []
  | r :: l => bd sc r ++ bds sc l
def P (L : List (Int × Int)) (X : Rat) : Rat := total (L.map fun p => (p.2 : Rat) * ps (X - (p.1 : Rat)))
structure Sc (sc : Nat) (r : Wsh) : Prop where
  a : (ls r).den ∣ sc
  s : (st r).den ∣ sc
  e : (en r).den ∣ sc
/-- ahead of the j-th bend -/
structure LInv (L0 : Int) (L : List (Int × Int)) (j : Nat) (place slope lacking : Int) : Prop where
  sl : slope = sumI ((L.take j).map (·.2))
  ln : sumI ((L.take j).map fun p => p.1 * p.2) = slope * place - (L0 - lacking)
  below : ∀ p ∈ L.take j, p.1 ≤ place
  above : ∀ p ∈ L.drop j, place ≤ p.1
  nn : 0 ≤ place
  lk : 0 < lacking
end LV
end
section
/-! PS: the program's shares, totals and levels -/
namespace LV
open PySem PySem.Spec PyProof.Rows L2 L3 L4 LF
open Rat (divInt)
section
variable {S : Rat} {rows : List Wsh} {sc : Nat} {L : List (Int × Int)} {L0 : Int}
/-- all that the walk over the bends rests on -/
structure Way (S : Rat) (rows : List Wsh) (sc : Nat) (L : List (Int × Int)) (L0 : Int) : Prop where
  s0 : 0 < sc
  ok : ROk rows
  scd : ∀ r ∈ rows.filter hasM, Sc sc r
  sd : S.den ∣ sc
  pm : L.Perm (bds sc (rows.filter hasM))
  srt : L.Pairwise fun p q => p.1 < q.1 ∨ (p.1 = q.1 ∧ p.2 ≤ q.2)
  l0 : L0 = on sc S - sumI ((rows.filter hasM).map fun r => on sc (ls r))
variable (h : Way S rows sc L L0)
include h
end
end LV
namespace PS
open PySem PySem.Spec PyProof.Rows L2 L3 L4 LF LV PL
open Rat (divInt)
local macro_rules | `(tactic| walk_at "st") => `(tactic| repeat (first
  | (with_reducible refine k_var (by with_unfolding_all rfl) ?_)
  | (with_reducible refine k_seq ?_)
  | (with_reducible refine k_cons ?_)
  | (with_reducible refine k_nil ?_)
  | (with_reducible refine k_c ?_)
  | (with_reducible refine k_op ?_)
  | (with_reducible refine k_asg ?_)
  | (with_reducible refine k_call ?_)
  | (with_reducible refine k_cb ?_)
  | (with_reducible refine k_i0 ?_)
  | (with_reducible refine k_addI ?_)
  | (with_reducible refine k_B ?_)
  | (with_reducible refine k_bk ?_)
  | (with_reducible refine k_if ?_)
  | (with_reducible refine k_ret ?_)
  | (with_reducible refine k_expr ?_)
  | (with_reducible refine k_next ?_)
  | (with_reducible refine k_not ?_)
  | (with_reducible refine k_and ?_)
  | (with_reducible refine k_or ?_)
  | (with_reducible refine k_ift ?_)
  | (with_reducible refine k_iff ?_)
  | (with_reducible refine k_ifnt ?_)
  | (with_reducible refine k_ifnf ?_)
  | (with_reducible refine k_fz ?_)
  | (with_reducible refine k_lc ?_)
  | (with_reducible refine k_dc ?_)
  | (with_reducible refine k_for ?_)
  | (with_reducible refine k_rng ?_)
  | (with_reducible refine k_iL ?_)
  | (with_reducible refine k_iLl ?_)
  | (with_reducible refine k_iT ?_)
  | (with_reducible refine k_iTt ?_)
  | (with_reducible refine k_zip ?_)
  | (with_reducible refine k_asgp ?_)
  | (with_reducible refine k_atn ?_)
  | (with_reducible refine k_par ?_)
  | (with_reducible refine k_parI ?_)
  | (with_reducible refine k_par3 ?_)
  | (with_reducible refine k_par3I ?_)
  | (with_reducible refine k_sub ?_)
  | (with_reducible refine k_andV ?_)
  | (with_reducible refine k_orV ?_)
  | (with_reducible refine k_notV ?_)
  | (with_reducible refine k_ifE ?_)
  | (with_reducible refine k_chain ?_)
  | (with_reducible refine k_am0 ?_)
  | (with_reducible refine k_am1 ?_)
  | (with_reducible refine k_int ?_)
  | (with_reducible refine k_eqI ?_)
  | (with_reducible refine k_neI ?_)
  | (with_reducible refine k_eqB ?_)
  | (with_reducible refine k_neB ?_)
  | (with_reducible refine k_iaddI ?_)
  | (with_reducible refine k_lenT ?_)
  | (with_reducible refine k_lenL ?_)
  | (with_reducible refine k_tru ?_)
  | (with_reducible refine k_cont ?_)
  | (with_reducible refine k_brk ?_)
  | (with_reducible refine k_retN ?_)
  | (with_reducible refine k_callK ?_)
  | (with_reducible refine k_callS1 ?_)
  | (with_reducible refine k_star ?_)
  | (with_reducible refine k_itL ?_)
  | (with_reducible refine k_itT ?_)
  | (with_reducible refine k_isi ?_)
  | (with_reducible refine k_isiT ?_)
  | (with_reducible refine k_bm ?_)
  | (with_reducible refine k_tup ?_)
  | (with_reducible refine k_lstF ?_)
  | (with_reducible refine k_lstM ?_)
  | (with_reducible refine k_aug (by with_unfolding_all rfl) ?_)
  | (with_reducible refine k_iSv (by with_unfolding_all rfl) ?_)
  | (with_reducible refine k_ixt (by with_unfolding_all rfl) ?_)
  | (with_reducible refine k_at (by with_unfolding_all rfl) ?_)
  | (with_reducible refine k_fzn ‹_› ?_)
  | (refine And.intro (by exact sz (by simp)) ?_)))
abbrev mannD (mm : Option (Rat × Rat)) : D := match mm with
  | none => .tup []
  | some p => .tup [am p.1, am p.2]
abbrev wishD (r : Wsh) : D := .tup [mannD r.1, .int r.2.1, am r.2.2]
abbrev rampD (r : Wsh) : D := .tup [.int r.2.1, am (ls r), am (st r), am (en r)]
/-- bounded wishes and capacity -/
structure RA (N M W : Nat) (r : Wsh) : Prop where
  ok : Ok1 r
  wt : r.2.1 ∣ (W : Int)
  m : ∀ p, r.1 = some p → Okb N M p.1 ∧ Okb N M p.2
  b : Okb N M r.2.2
structure RB (N M W : Nat) (rows : List Wsh) (S : Rat) : Prop where
  all : ∀ r ∈ rows, RA N M W r
  len : rows.length < 60
  sp : Okb N M S
  n0 : 0 < N
  w0 : 0 < W
  nb : N.log2 < 500
  mb : M.log2 < 400
  wb : W.log2 < 100
def Lb (N W : Nat) (x : Rat) : Prop := ∃ H : Nat, 0 < H ∧ H.log2 < 120 ∧ Okb (N * W * H) 1000 x
def sp_share : LSp := fun ds m Φ => ∃ (mm : Option (Rat × Rat)) (w : Int) (x : Rat), ds = [mannD mm, .int w, am x] ∧ 0 ≤ w ∧ w.natAbs.log2 < 100 ∧ 0 ≤ x ∧ x.num.natAbs.log2 < 2000 ∧ x.den.log2 < 2000 ∧ (∀ p, mm = some p → Bg p.1 ∧ Bg p.2) ∧ Φ (am (shr mm w x)) m
def sp_p_ramp : LSp := fun ds m Φ => ∃ (r : Wsh) (p : Rat × Rat), r.1 = some p ∧ ds = [mannD r.1, .int r.2.1, am r.2.2] ∧ 1 ≤ r.2.1 ∧ r.2.1.natAbs.log2 < 100 ∧ (p.1.num.natAbs.log2 < 2000 ∧ p.1.den.log2 < 2000) ∧ (p.2.num.natAbs.log2 < 2000 ∧ p.2.den.log2 < 2000) ∧ Bg r.2.2 ∧ Φ (rampD r) m
def sp_level_of : LSp := fun ds m Φ => ∃ (S : Rat) (w : D) (rows : List Wsh) (N M W : Nat), ds = [am S, w] ∧ ItemsAt w m (rows.map wishD) ∧ RB N M W rows S ∧ ∀ x, IsLevel S rows x → Lb N W x → Φ (am x) m
/-- total(wishes, x): all shares have a common bottom N' -/
structure TA (N M : Nat) (rows : List Wsh) (x : Rat) : Prop where
  w : ∀ r ∈ rows, 0 ≤ r.2.1 ∧ r.2.1.natAbs.log2 < 100
  b : ∀ r ∈ rows, Okb N M r.2.2
  m : ∀ r ∈ rows, ∀ p, r.1 = some p → Okb N M p.1 ∧ Okb N M p.2
  x : Okb N M x
  len : rows.length ≤ 1000
  n0 : 0 < N
  nb : N.log2 < 1500
  mb : M.log2 < 450
def sp_total : LSp := fun ds m Φ => ∃ (w : D) (rows : List Wsh) (x : Rat) (N M : Nat), ds = [w, am x] ∧ ItemsAt w m (rows.map wishD) ∧ TA N M rows x ∧ Φ (am (tot rows x)) m
def sp_allotments : LSp := fun ds m Φ => ∃ (w : D) (rows : List Wsh) (x : Rat) (N M : Nat), ds = [am x, w] ∧ ItemsAt w m (rows.map wishD) ∧ TA N M rows x ∧ ∀ a, m a = none → Φ (.ref a) (mset m a (.lst (rows.map fun r => am (ral r x))))
/-- share: 0 manner, 1 weight, 2 level, 3 least, 4 most -/
def qb_share : QS :=
  (sSeq (sIf (qB (qOp vEq (qVar 0) (qTup qNil))) (sRet (qC (.tup [(.int 0), (.int 1)]))) sNext)
    (sSeq (sAsg (.tp [(.nm 3), (.nm 4)]) (qVar 0))
    (sRet (qCall PA.sp_largest_s (qCons (qVar 3) (qCons (qCall sp_smallest_s (qCons (qVar 4) (qCons (qCall sp_times (qCons (qTup (qCons (qVar 1) (qCons (qC (.int 1)) qNil))) (qCons (qVar 2) qNil))) qNil))) qNil))))))
/-- total: 0 wishes, 1 level, 2 rows, 3 manner, 4 weight, 5 bound -/
def qb_total : QS :=
  (sSeq (sAsg (.nm 2) (qFreeze (qLc (iSeq (qVar 0)) (.tp [(.nm 3), (.nm 4), (.nm 5)]) qYes (qCall sp_share (qCons (qVar 3) (qCons (qVar 4) (qCons (qCall sp_smallest_s (qCons (qVar 1) (qCons (qVar 5) qNil))) qNil)))) [3, 4, 5])))
    (sRet (qCallS1 PA.sp_plus_s (qVar 2))))
/-- _ramp: 0 manner, 1 weight, 2 bound, 3 least, 4 most, 5 part -/
def qb_p_ramp : QS :=
  (sSeq (sAsg (.tp [(.nm 3), (.nm 4)]) (qVar 0))
    (sSeq (sAsg (.nm 5) (qTup (qCons (qC (.int 1)) (qCons (qVar 1) qNil))))
    (sRet (qTup (qCons (qVar 1) (qCons (qVar 3) (qCons (qCall sp_times (qCons (qVar 3) (qCons (qVar 5) qNil))) (qCons (qCall sp_smallest_s (qCons (qCall sp_times (qCons (qVar 4) (qCons (qVar 5) qNil))) (qCons (qVar 2) (qCons (qC (.tup [(.int 1000), (.int 1)])) qNil)))) qNil))))))))
/-- level_of: 0 capacity, 1 wishes, 2 ramps, 3 scale, 4 _, 5 least, 6 start, 7 end, 8 lacking, 9 bends, 10 weight, 11 rise, 12 rest, 13 place, 14 slope, 15 bend, 16 change, 17 gain, 18 manner, 19 bound -/
def qb_level_of : QS :=
  (sSeq (sAsg (.nm 2) (qFreeze (qLc (iSeq (qVar 1)) (.tp [(.nm 18), (.nm 10), (.nm 19)]) (qB (qOp vNe (qVar 18) (qTup qNil))) (qCall sp_p_ramp (qCons (qVar 18) (qCons (qVar 10) (qCons (qVar 19) qNil)))) [18, 10, 19])))
    (sSeq (sAsg (.nm 3) (qOp vIx (qVar 0) (qC (.int 1))))
    (sSeq (sFor (iLst (qVar 2)) (.tp [(.nm 4), (.nm 5), (.nm 6), (.nm 7)]) (sAsg (.nm 3) (qCB bLcm4 (qCons (qVar 3) (qCons (qOp vIx (qVar 5) (qC (.int 1))) (qCons (qOp vIx (qVar 6) (qC (.int 1))) (qCons (qOp vIx (qVar 7) (qC (.int 1))) qNil)))))))
    (sSeq (sAsg (.nm 8) (qCall sp_p_on_scale (qCons (qVar 0) (qCons (qVar 3) qNil))))
    (sSeq (sAsg (.nm 9) (qLstM qNil))
    (sSeq (sFor (iLst (qVar 2)) (.tp [(.nm 10), (.nm 5), (.nm 6), (.nm 7)]) (sSeq (sAug 8 (qI0 fun i j => .int (i - j)) (qCall sp_p_on_scale (qCons (qVar 5) (qCons (qVar 3) qNil))))
    (sSeq (sAsg (.nm 11) (qCall sp_p_on_scale (qCons (qVar 6) (qCons (qVar 3) qNil))))
    (sSeq (sAsg (.nm 12) (qCall sp_p_on_scale (qCons (qVar 7) (qCons (qVar 3) qNil))))
    (sIf (qB (qOp (qI0 fun i j => .bl (decide (i < j))) (qVar 11) (qVar 12))) (sSeq (sExpr (qBM "list" (mtL gAppend) (qVar 9) (qCons (qTup (qCons (qVar 11) (qCons (qVar 10) qNil))) qNil)))
    (sExpr (qBM "list" (mtL gAppend) (qVar 9) (qCons (qTup (qCons (qVar 12) (qCons (qNeg (qVar 10)) qNil))) qNil)))) sNext)))))
    (sSeq (sIf (qB (qOp (qI0 fun i j => .bl (decide (i ≤ j))) (qVar 8) (qC (.int 0)))) (sRet (qC (.tup [(.int 0), (.int 1)]))) sNext)
    (sSeq (sAsg (.nm 13) (qC (.int 0)))
    (sSeq (sAsg (.nm 14) (qC (.int 0)))
    (sSeq (sFor (iLst (qFreeze (qCB bSortD (qCons (qVar 9) qNil)))) (.tp [(.nm 15), (.nm 16)]) (sSeq (sAsg (.nm 17) (qOp (qIC CM fun i j => .int (i * j)) (qVar 14) (qOp (qI0 fun i j => .int (i - j)) (qVar 15) (qVar 13))))
    (sSeq (sIf (qB (qOp (qI0 fun i j => .bl (decide (j ≤ i))) (qVar 17) (qVar 8))) (sRet (qCall sp_amount (qCons (qOp qAdd (qOp (qIC CM fun i j => .int (i * j)) (qVar 13) (qVar 14)) (qVar 8)) (qCons (qOp (qIC CM fun i j => .int (i * j)) (qVar 14) (qVar 3)) qNil)))) sNext)
    (sSeq (sAug 8 (qI0 fun i j => .int (i - j)) (qVar 17))
    (sSeq (sAsg (.nm 13) (qVar 15))
    (sAug 14 qIAdd (qVar 16)))))))
    (sRet (qC (.tup [(.int 1000), (.int 1)])))))))))))))
section
variable {N M : Nat} {rows : List Wsh} {x : Rat}
end
end PS
end
section
/-! C05: the helpers of the laws k00 to k13, k70 to k73 (bag 48271, 69621, 30103) -/
namespace C05
open PySem PySem.Spec PyProof.Rows L2 L3 L4
open Rat (divInt)
open C13 (BagP bag_ok cut63)
local macro_rules | `(tactic| walk_at "st") => `(tactic| repeat (first
  | (with_reducible refine k_var (by with_unfolding_all rfl) ?_)
  | (with_reducible refine k_seq ?_)
  | (with_reducible refine k_cons ?_)
  | (with_reducible refine k_nil ?_)
  | (with_reducible refine k_c ?_)
  | (with_reducible refine k_op ?_)
  | (with_reducible refine k_asg ?_)
  | (with_reducible refine k_call ?_)
  | (with_reducible refine k_cb ?_)
  | (with_reducible refine k_i0 ?_)
  | (with_reducible refine k_addI ?_)
  | (with_reducible refine k_B ?_)
  | (with_reducible refine k_bk ?_)
  | (with_reducible refine k_if ?_)
  | (with_reducible refine k_ret ?_)
  | (with_reducible refine k_expr ?_)
  | (with_reducible refine k_next ?_)
  | (with_reducible refine k_not ?_)
  | (with_reducible refine k_and ?_)
  | (with_reducible refine k_or ?_)
  | (with_reducible refine k_ift ?_)
  | (with_reducible refine k_iff ?_)
  | (with_reducible refine k_ifnt ?_)
  | (with_reducible refine k_ifnf ?_)
  | (with_reducible refine k_fz ?_)
  | (with_reducible refine k_lc ?_)
  | (with_reducible refine k_dc ?_)
  | (with_reducible refine k_for ?_)
  | (with_reducible refine k_rng ?_)
  | (with_reducible refine k_iL ?_)
  | (with_reducible refine k_iLl ?_)
  | (with_reducible refine k_iT ?_)
  | (with_reducible refine k_iTt ?_)
  | (with_reducible refine k_zip ?_)
  | (with_reducible refine k_asgp ?_)
  | (with_reducible refine k_atn ?_)
  | (with_reducible refine k_par ?_)
  | (with_reducible refine k_parI ?_)
  | (with_reducible refine k_par3 ?_)
  | (with_reducible refine k_par3I ?_)
  | (with_reducible refine k_sub ?_)
  | (with_reducible refine k_andV ?_)
  | (with_reducible refine k_orV ?_)
  | (with_reducible refine k_notV ?_)
  | (with_reducible refine k_ifE ?_)
  | (with_reducible refine k_chain ?_)
  | (with_reducible refine k_am0 ?_)
  | (with_reducible refine k_am1 ?_)
  | (with_reducible refine k_int ?_)
  | (with_reducible refine k_eqI ?_)
  | (with_reducible refine k_neI ?_)
  | (with_reducible refine k_eqB ?_)
  | (with_reducible refine k_neB ?_)
  | (with_reducible refine k_iaddI ?_)
  | (with_reducible refine k_lenT ?_)
  | (with_reducible refine k_lenL ?_)
  | (with_reducible refine k_tru ?_)
  | (with_reducible refine k_cont ?_)
  | (with_reducible refine k_brk ?_)
  | (with_reducible refine k_retN ?_)
  | (with_reducible refine k_callK ?_)
  | (with_reducible refine k_callS1 ?_)
  | (with_reducible refine k_star ?_)
  | (with_reducible refine k_itL ?_)
  | (with_reducible refine k_itT ?_)
  | (with_reducible refine k_isi ?_)
  | (with_reducible refine k_isiT ?_)
  | (with_reducible refine k_bm ?_)
  | (with_reducible refine k_tup ?_)
  | (with_reducible refine k_lstF ?_)
  | (with_reducible refine k_lstM ?_)
  | (with_reducible refine k_aug (by with_unfolding_all rfl) ?_)
  | (with_reducible refine k_iSv (by with_unfolding_all rfl) ?_)
  | (with_reducible refine k_ixt (by with_unfolding_all rfl) ?_)
  | (with_reducible refine k_at (by with_unfolding_all rfl) ?_)
  | (with_reducible refine k_fzn ‹_› ?_)
  | (refine And.intro (by exact sz (by simp)) ?_)))
abbrev sp_law_bag : LSp := C13.sp_law_bag
abbrev sp_law_draw : LSp := C13.sp_law_draw
abbrev sp_law_of : LSp := C13.sp_law_of
abbrev sp_law_pair : LSp := C13.sp_law_amount
def sp_law_wide : LSp := fun ds m Φ => ∃ (b : Addr) (f : Nat), ds = [.ref b, .int f] ∧ m b = some (.any BagP) ∧ f < 100000 ∧ ∀ w : Int, 0 ≤ w → w < 10 ^ f → Φ (.int w) m
def sp_law_grid : LSp := fun ds m Φ => ∃ b : Addr, ds = [.ref b] ∧ m b = some (.any BagP) ∧ ∀ g : Nat, 1 ≤ g → g ≤ 10 ^ 18 → Φ (.int g) m
def sp_law_bit : LSp := fun ds m Φ => ∃ b : Addr, ds = [.ref b] ∧ m b = some (.any BagP) ∧ ∀ q, Okb 12 12 q → Φ (am q) m
def sp_law_fine : LSp := fun ds m Φ => ∃ (b : Addr) (g : Nat), ds = [.ref b, .int g] ∧ m b = some (.any BagP) ∧ 1 ≤ g ∧ g < 2 ^ 61 ∧ ∀ q, Okb (12 * g) 2000 q → Φ (am q) m
def sp_law_mul : LSp := fun ds m Φ => ∃ (p q : Rat), ds = [am p, am q] ∧ 0 ≤ p ∧ 0 ≤ q ∧ Bg p ∧ Bg q ∧ Φ (am (p * q)) m
def sp_law_div : LSp := fun ds m Φ => ∃ (p q : Rat), ds = [am p, am q] ∧ 0 ≤ p ∧ 0 < q ∧ Bg p ∧ Bg q ∧ Φ (am (p / q)) m
abbrev sp_law_add : LSp := C13.sp_law_sum
def sp_law_sub : LSp := fun ds m Φ => ∃ (p q : Rat), ds = [am p, am q] ∧ q ≤ p ∧ Bg p ∧ Bg q ∧ Φ (am (p - q)) m
def sp_law_more : LSp := fun ds m Φ => ∃ (p q : Rat), ds = [am p, am q] ∧ Bg p ∧ Bg q ∧ Φ (.bl (decide (q < p))) m
abbrev sp_law_min : LSp := C13.sp_law_min
def sp_law_sum : LSp := fun ds m Φ => ∃ (w : D) (qs : List Rat) (N M : Nat), ds = [w] ∧ LItems w m (qs.map am) ∧ (∀ q ∈ qs, Okb N M q) ∧ qs.length ≤ 1000000 ∧ 0 < N ∧ N.log2 < 1900 ∧ M.log2 < 1900 ∧ Φ (am (total qs)) m
def sp_law_mixed : LSp := fun ds m Φ => ∃ (b : Addr) (w : D) (xs : List D), ds = [.ref b, w] ∧ ItemsAt w m xs ∧ m b = some (.any BagP) ∧ xs.length < 1000000 ∧ ∀ ys, ys.Perm xs → Φ (.lst ys) m
def sp_law_like : Nat → LSp
  | 0 => fun _ _ _ => False
  | n + 1 => fun ds m Φ => ∃ x y, ds = [x, y] ∧ ((x = y ∧ flat n x) ∨ ∃ k xs, n = k + 1 ∧ LItems x m xs ∧ LItems y m xs ∧ xs.length < 1000000 ∧ ∀ d ∈ xs, flat k d) ∧ Φ (.bl true) m
/-- _law_bag: 0 _law_script, 1 _law_seed, 2 _law_item -/
def qb_law_bag : QS :=
  (sSeq (sAsg (.nm 1) (qC (.int 13965)))
    (sSeq (sFor (iLst (qSlL (qVar 0) qNoPart (qPart (qC (.int 63))))) (.nm 2) (sAsg (.nm 1) (qOp (qIC (fun _ j => 0 < j) fun i j => .int (i % j)) (qCB bInt (qCons (qOp qAdd (qOp qAdd (qOp (qIC CM fun i j => .int (i * j)) (qVar 1) (qC (.int 48271))) (qOp (qIC (fun _ j => 0 < j) fun i j => .int (i % j)) (qCB bInt (qCons (qVar 2) qNil)) (qC (.int 2147483587)))) (qC (.int 307))) qNil)) (qC (.int 2147483629)))))
    (sRet (qLstM (qCons (qFreeze (qCB bList (qCons (qSlL (qVar 0) qNoPart (qPart (qC (.int 63)))) qNil))) (qCons (qC (.int 0)) (qCons (qC (.int 0)) (qCons (qVar 1) (qCons (qC (.int 0)) qNil)))))))))
def qb_draw_tail : QS :=
  (sSeq (sIf (qB (qOp (qI0 fun i j => .bl (decide (j < i))) (qOp vIx (qVar 0) (qC (.int 2))) (qC (.int 0)))) (sSeq (sAsg (.nm 3) (qOp (qIC (fun _ j => 0 < j) fun i j => .int (i % j)) (qCB bInt (qCons (qOp vIx (qVar 0) (qC (.int 2))) qNil)) (qVar 1)))
    (sSeq (sSub (qVar 0) (qC (.int 2)) (qOp (qIC CDivW fun i j => .int (i / j)) (qOp vIx (qVar 0) (qC (.int 2))) (qVar 1)))
    (sRet (qVar 3)))) sNext)
    (sSeq (sSub (qVar 0) (qC (.int 3)) (qOp (qIC (fun _ j => 0 < j) fun i j => .int (i % j)) (qCB bInt (qCons (qOp qAdd (qOp qAdd (qOp qPow (qOp vIx (qVar 0) (qC (.int 3))) (qC (.int 3))) (qOp (qIC CM fun i j => .int (i * j)) (qOp vIx (qVar 0) (qC (.int 4))) (qC (.int 1299709)))) (qC (.int 60013))) qNil)) (qC (.int 2147483629))))
    (sRet (qOp (qIC (fun _ j => 0 < j) fun i j => .int (i % j)) (qCB bInt (qCons (qOp qAdd (qOp (qIC CDivW fun i j => .int (i / j)) (qOp vIx (qVar 0) (qC (.int 3))) (qC (.int 97))) (qOp (qIC CM fun i j => .int (i * j)) (qOp (qIC (fun _ j => 0 < j) fun i j => .int (i % j)) (qCB bInt (qCons (qOp vIx (qVar 0) (qC (.int 3))) qNil)) (qC (.int 7901))) (qC (.int 67)))) qNil)) (qVar 1)))))
/-- _law_draw: 0 _law_bag_here, 1 _law_many, 2 _law_item, 3 _law_digit -/
def qb_law_draw : QS :=
  (sOpen (sSeq (sSub (qVar 0) (qC (.int 4)) (qOp qAdd (qOp vIx (qVar 0) (qC (.int 4))) (qC (.int 1))))
    (sSeq (sIf (qAnd (qB (qOp vEq (qOp vIx (qVar 0) (qC (.int 2))) (qC (.int 0)))) (qB (qOp (qI0 fun i j => .bl (decide (i < j))) (qOp vIx (qVar 0) (qC (.int 1))) (qCB bLen (qCons (qOp vIx (qVar 0) (qC (.int 0))) qNil))))) (sSeq (sAsg (.nm 2) (qOp vIx (qOp vIx (qVar 0) (qC (.int 0))) (qOp vIx (qVar 0) (qC (.int 1)))))
    (sSeq (sSub (qVar 0) (qC (.int 1)) (qOp qAdd (qOp vIx (qVar 0) (qC (.int 1))) (qC (.int 1))))
    (sIf (qB (qOp (qI0 fun i j => .bl (decide (j ≤ i))) (qVar 2) (qOp qPow (qC (.int 10)) (qC (.int 18))))) (sSub (qVar 0) (qC (.int 2)) (qVar 2)) (sSub (qVar 0) (qC (.int 3)) (qOp (qIC (fun _ j => 0 < j) fun i j => .int (i % j)) (qCB bInt (qCons (qOp qAdd (qOp qAdd (qOp (qIC CM fun i j => .int (i * j)) (qOp vIx (qVar 0) (qC (.int 3))) (qC (.int 69621))) (qOp (qIC CM fun i j => .int (i * j)) (qOp (qIC (fun _ j => 0 < j) fun i j => .int (i % j)) (qCB bInt (qCons (qVar 2) qNil)) (qC (.int 2147483549))) (qC (.int 30103)))) (qC (.int 89))) qNil)) (qC (.int 2147483629))))))) sNext)
    qb_draw_tail)))
/-- _law_of: 0 _law_bag_here, 1 _law_things -/
def qb_law_of : QS :=
  (sRet (qOp vIx (qVar 1) (qCall sp_law_draw (qCons (qVar 0) (qCons (qCB bLen (qCons (qVar 1) qNil)) qNil)))))
/-- _law_wide: 0 _law_bag_here, 1 _law_figures, 2 _law_number, 3 _law_size, 4 _law_k -/
def qb_law_wide : QS :=
  (sSeq (sAsg (.tp [(.nm 2), (.nm 3)]) (qTup (qCons (qC (.int 0)) (qCons (qC (.int 1)) qNil))))
    (sSeq (sFor (iRange1 (qCons (qOp (qIC CDivW fun i j => .int (i / j)) (qVar 1) (qC (.int 5))) qNil)) (.nm 4) (sSeq (sAsg (.nm 2) (qOp qAdd (qVar 2) (qOp (qIC CM fun i j => .int (i * j)) (qCall sp_law_draw (qCons (qVar 0) (qCons (qC (.int 100000)) qNil))) (qVar 3))))
    (sAsg (.nm 3) (qOp (qIC CM fun i j => .int (i * j)) (qVar 3) (qC (.int 100000))))))
    (sSeq (sIf (qB (qOp (qI0 fun i j => .bl (decide (j < i))) (qOp (qIC (fun _ j => 0 < j) fun i j => .int (i % j)) (qCB bInt (qCons (qVar 1) qNil)) (qC (.int 5))) (qC (.int 0)))) (sAsg (.nm 2) (qOp qAdd (qVar 2) (qOp (qIC CM fun i j => .int (i * j)) (qCall sp_law_draw (qCons (qVar 0) (qCons (qOp vIx (qTup (qCons (qC (.int 1)) (qCons (qC (.int 10)) (qCons (qC (.int 100)) (qCons (qC (.int 1000)) (qCons (qC (.int 10000)) qNil)))))) (qOp (qIC (fun _ j => 0 < j) fun i j => .int (i % j)) (qCB bInt (qCons (qVar 1) qNil)) (qC (.int 5)))) qNil))) (qVar 3)))) sNext)
    (sRet (qVar 2)))))
/-- _law_grid: 0 _law_bag_here -/
def qb_law_grid : QS :=
  (sRet (qCall sp_law_of (qCons (qVar 0) (qCons (qLstF (qCons (qC (.int 1)) (qCons (qC (.int 1)) (qCons (qC (.int 2)) (qCons (qC (.int 3)) (qCons (qC (.int 12)) (qCons (qOp qAdd (qC (.int 1)) (qCall sp_law_wide (qCons (qVar 0) (qCons (qC (.int 9)) qNil)))) (qCons (qOp qAdd (qC (.int 1)) (qOp (qIC CM fun i j => .int (i * j)) (qCall sp_law_wide (qCons (qVar 0) (qCons (qC (.int 9)) qNil))) (qCall sp_law_wide (qCons (qVar 0) (qCons (qC (.int 9)) qNil))))) qNil)))))))) qNil))))
/-- _law_pair: 0 _law_a, 1 _law_b, 2 _law_x, 3 _law_y -/
def qb_law_pair : QS :=
  (sSeq (sPar 2 3 (qCons (qVar 0) (qCons (qVar 1) qNil)))
    (sSeq (sWhile (qB (qOp (qI0 fun i j => .bl (decide (j < i))) (qVar 3) (qC (.int 0)))) (sPar 2 3 (qCons (qVar 3) (qCons (qOp (qIC (fun _ j => 0 < j) fun i j => .int (i % j)) (qCB bInt (qCons (qVar 2) qNil)) (qVar 3)) qNil))))
    (sRet (qTup (qCons (qOp (qIC CDivW fun i j => .int (i / j)) (qVar 0) (qVar 2)) (qCons (qOp (qIC CDivW fun i j => .int (i / j)) (qVar 1) (qVar 2)) qNil))))))
/-- _law_bit: 0 _law_bag_here -/
def qb_law_bit : QS :=
  (sRet (qCall sp_law_pair (qCons (qCall sp_law_draw (qCons (qVar 0) (qCons (qC (.int 13)) qNil))) (qCons (qCall sp_law_of (qCons (qVar 0) (qCons (qLstF (qCons (qC (.int 1)) (qCons (qC (.int 1)) (qCons (qC (.int 2)) (qCons (qC (.int 3)) (qCons (qC (.int 1)) (qCons (qC (.int 4)) (qCons (qC (.int 12)) qNil)))))))) qNil))) qNil))))
/-- _law_mul: 0 _law_p, 1 _law_q -/
def qb_law_mul : QS :=
  (sRet (qCall sp_law_pair (qCons (qOp (qIC CM fun i j => .int (i * j)) (qOp vIx (qVar 0) (qC (.int 0))) (qOp vIx (qVar 1) (qC (.int 0)))) (qCons (qOp (qIC CM fun i j => .int (i * j)) (qOp vIx (qVar 0) (qC (.int 1))) (qOp vIx (qVar 1) (qC (.int 1)))) qNil))))
/-- _law_div: 0 _law_p, 1 _law_q -/
def qb_law_div : QS :=
  (sRet (qCall sp_law_pair (qCons (qOp (qIC CM fun i j => .int (i * j)) (qOp vIx (qVar 0) (qC (.int 0))) (qOp vIx (qVar 1) (qC (.int 1)))) (qCons (qOp (qIC CM fun i j => .int (i * j)) (qOp vIx (qVar 0) (qC (.int 1))) (qOp vIx (qVar 1) (qC (.int 0)))) qNil))))
/-- _law_add: 0 _law_p, 1 _law_q -/
def qb_law_add : QS :=
  (sRet (qCall sp_law_pair (qCons (qOp qAdd (qOp (qIC CM fun i j => .int (i * j)) (qOp vIx (qVar 0) (qC (.int 0))) (qOp vIx (qVar 1) (qC (.int 1)))) (qOp (qIC CM fun i j => .int (i * j)) (qOp vIx (qVar 1) (qC (.int 0))) (qOp vIx (qVar 0) (qC (.int 1))))) (qCons (qOp (qIC CM fun i j => .int (i * j)) (qOp vIx (qVar 0) (qC (.int 1))) (qOp vIx (qVar 1) (qC (.int 1)))) qNil))))
/-- _law_sub: 0 _law_p, 1 _law_q -/
def qb_law_sub : QS :=
  (sRet (qCall sp_law_pair (qCons (qOp (qI0 fun i j => .int (i - j)) (qOp (qIC CM fun i j => .int (i * j)) (qOp vIx (qVar 0) (qC (.int 0))) (qOp vIx (qVar 1) (qC (.int 1)))) (qOp (qIC CM fun i j => .int (i * j)) (qOp vIx (qVar 1) (qC (.int 0))) (qOp vIx (qVar 0) (qC (.int 1))))) (qCons (qOp (qIC CM fun i j => .int (i * j)) (qOp vIx (qVar 0) (qC (.int 1))) (qOp vIx (qVar 1) (qC (.int 1)))) qNil))))
/-- _law_more: 0 _law_p, 1 _law_q -/
def qb_law_more : QS :=
  (sRet (qOp (qI0 fun i j => .bl (decide (j < i))) (qOp (qIC CM fun i j => .int (i * j)) (qOp vIx (qVar 0) (qC (.int 0))) (qOp vIx (qVar 1) (qC (.int 1)))) (qOp (qIC CM fun i j => .int (i * j)) (qOp vIx (qVar 1) (qC (.int 0))) (qOp vIx (qVar 0) (qC (.int 1))))))
/-- _law_min: 0 _law_p, 1 _law_q -/
def qb_law_min : QS :=
  (sRet (qIfE (qB (qCall sp_law_more (qCons (qVar 0) (qCons (qVar 1) qNil)))) (qVar 1) (qVar 0)))
/-- _law_sum: 0 _law_pairs, 1 _law_done, 2 _law_p -/
def qb_law_sum : QS :=
  (sSeq (sAsg (.nm 1) (qTup (qCons (qC (.int 0)) (qCons (qC (.int 1)) qNil))))
    (sSeq (sFor (iLst (qVar 0)) (.nm 2) (sAsg (.nm 1) (qCall sp_law_add (qCons (qVar 1) (qCons (qVar 2) qNil)))))
    (sRet (qVar 1))))
/-- _law_fine: 0 _law_bag_here, 1 _law_grid_here, 2 _law_shape -/
def qb_law_fine : QS :=
  (sSeq (sAsg (.nm 2) (qCall sp_law_draw (qCons (qVar 0) (qCons (qC (.int 5)) qNil))))
    (sSeq (sIf (qB (qOp vEq (qVar 2) (qC (.int 0)))) (sRet (qCall sp_law_of (qCons (qVar 0) (qCons (qLstF (qCons (qTup (qCons (qC (.int 0)) (qCons (qC (.int 1)) qNil))) (qCons (qTup (qCons (qC (.int 1)) (qCons (qC (.int 1)) qNil))) (qCons (qTup (qCons (qC (.int 1000)) (qCons (qC (.int 1)) qNil))) (qCons (qTup (qCons (qC (.int 1001)) (qCons (qC (.int 1)) qNil))) (qCons (qTup (qCons (qC (.int 999)) (qCons (qC (.int 1)) qNil))) qNil)))))) qNil)))) sNext)
    (sSeq (sIf (qB (qOp (qI0 fun i j => .bl (decide (i < j))) (qVar 2) (qC (.int 3)))) (sRet (qCall sp_law_bit (qCons (qVar 0) qNil))) sNext)
    (sRet (qCall sp_law_pair (qCons (qOp qAdd (qOp (qIC CM fun i j => .int (i * j)) (qCall sp_law_of (qCons (qVar 0) (qCons (qLstF (qCons (qC (.int 0)) (qCons (qC (.int 3)) (qCons (qCall sp_law_draw (qCons (qVar 0) (qCons (qC (.int 20)) qNil))) (qCons (qCall sp_law_draw (qCons (qVar 0) (qCons (qC (.int 2000)) qNil))) qNil))))) qNil))) (qVar 1)) (qCall sp_law_draw (qCons (qVar 0) (qCons (qVar 1) qNil)))) (qCons (qVar 1) qNil)))))))
/-- _law_mixed: 0 _law_bag_here, 1 _law_things, 2 _law_pool, 3 _law_k -/
def qb_law_mixed : QS :=
  (sSeq (sAsg (.nm 2) (qCB bList (qCons (qVar 1) qNil)))
    (sRet (qFreeze (qLc (iRange1 (qCons (qCB bLen (qCons (qVar 2) qNil)) qNil)) (.nm 3) qYes (qBM "list" (mtL gPopAt) (qVar 2) (qCons (qCall sp_law_draw (qCons (qVar 0) (qCons (qCB bLen (qCons (qVar 2) qNil)) qNil))) qNil)) [3]))))
/-- _law_like: 0 _law_told, 1 _law_due, 2 _law_a, 3 _law_b -/
def qb_law_like (n : Nat) : QS :=
  (sSeq (sIf (qB (qIsiT ["list", "tuple"] (qVar 1))) (sSeq (sIf (qOr (qB (qOp vNe (qIsi "list" (qVar 0)) (qIsi "list" (qVar 1)))) (qB (qOp vNe (qIsi "tuple" (qVar 0)) (qIsi "tuple" (qVar 1))))) (sRet (qC (.bl false))) sNext)
    (sRet (qAndV (qOp vEq (qCB bLen (qCons (qVar 0) qNil)) (qCB bLen (qCons (qVar 1) qNil))) (qCB bAll (qCons (qFreeze (qLc (iZipD (qCons (qVar 0) (qCons (qVar 1) qNil))) (.tp [(.nm 2), (.nm 3)]) qYes (qCall (sp_law_like n) (qCons (qVar 2) (qCons (qVar 3) qNil))) [2, 3])) qNil))))) sNext)
    (sSeq (sIf (qOr (qB (qOp qIsN (qVar 1) (qC .non))) (qB (qOp qIsN (qVar 0) (qC .non)))) (sRet (qAndV (qOp qIsN (qVar 1) (qC .non)) (qOp qIsN (qVar 0) (qC .non)))) sNext)
    (sSeq (sIf (qOr (qB (qIsiT ["list", "tuple"] (qVar 0))) (qB (qOp vNe (qIsi "bool" (qVar 0)) (qIsi "bool" (qVar 1))))) (sRet (qC (.bl false))) sNext)
    (sSeq (sIf (qOr (qB (qOp vNe (qIsi "str" (qVar 0)) (qIsi "str" (qVar 1)))) (qB (qOp vNe (qIsi "int" (qVar 0)) (qIsi "int" (qVar 1))))) (sRet (qC (.bl false))) sNext)
    (sRet (qOp vEq (qVar 0) (qVar 1)))))))
theorem len_law_bag : ∀ ds m Φ, sp_law_bag ds m Φ → ds.length = 1 := C13.len_law_bag
theorem rd_law_bag : ∀ ds m Φ, sp_law_bag ds m Φ → qb_law_bag (bodyW Φ) (begin_ 3 ds) m := by
  rintro _ m Φ ⟨ns, rfl, hl, k⟩
  refine ⟨fun i s' m' => m' = m ∧ ∃ (seed : Int) (c : Option D), s' = [some (.lst (ns.map D.int)), some (.int seed), c] ∧ 0 ≤ seed ∧ seed < 2147483648, ⟨rfl, 13965, none, rfl, by omega, by omega⟩, fun _ _ _ _ _ => trivial, ?_, ?_⟩
  · rintro i d s' m' hd ⟨rfl, seed, c, rfl, h1, h2⟩
    rw [cut63 hl, List.getElem?_map] at hd
    cases e : ns[i]? with
    | none => rw [e] at hd; cases hd
    | some z =>
      rw [e] at hd
      obtain rfl : D.int z = d := Option.some.inj hd
      refine ⟨cm_r (by omega) (by omega), ?_, ?_, ?_⟩
      · show (0 : Int) < 2147483587; omega
      · show (0 : Int) < 2147483629; omega
      · exact ⟨rfl, (seed * 48271 + z % 2147483587 + 307) % 2147483629, _, rfl, by omega, by omega⟩
  · rintro s' m' ⟨rfl, seed, c, rfl, h1, h2⟩
    intro p hp
    refine ⟨_, mset_same, ?_⟩
    rw [mdel_mset hp]
    refine ⟨by show 5 ≤ sizeLine; decide, fun b hb => ?_⟩
    refine ⟨mset m' b (.any BagP), MLe.any ?_, k b hb⟩
    exact ⟨ns, 0, 0, seed, 0, by rw [cut63 hl]; rfl, Nat.zero_le _, hl, by omega, h1, h2⟩
theorem len_law_draw : ∀ ds m Φ, sp_law_draw ds m Φ → ds.length = 2 := C13.len_law_draw
theorem draw_tail {m : Mem} {Φ : DK} {b : Addr} {n : Int} {cells : List Int} (hb : m b = some (.any BagP)) (h1 : 1 ≤ n) (h2 : n < 2 ^ 62) (c2 : cells.length ≤ 63) (k : ∀ d, 0 ≤ d → d < n → Φ (.int d) m) :
    ∀ (x2 x3 : Option D) (i : Nat) (big seed cnt : Int), i ≤ cells.length → 0 ≤ big → 0 ≤ seed → seed < 2147483648 → qb_draw_tail (bodyW Φ) [some (.ref b), some (.int n), x2, x3] (mset m b (.lst [.lst (cells.map D.int), .int i, .int big, .int seed, .int cnt])) := by
  intro x2 x3 i big seed cnt c1 c3 c4 c5
  refine Or.inl ⟨_, _, _, rfl, mset_same, rfl, ?_⟩
  refine qif (fun h => ?_) (fun h => ?_)
  · refine Or.inl ⟨_, _, _, rfl, mset_same, rfl, ?_, Or.inl ⟨_, _, _, rfl, mset_same, rfl, ?_, Or.inl ⟨_, _, _, rfl, mset_same, rfl, ?_⟩⟩⟩
    · show 0 < n; omega
    · exact cd_s (by omega) (by omega)
    · rw [mset_mset]
      refine ⟨m, MLe.close hb (bag_ok (cnt := cnt) c1 c2 (Int.ediv_nonneg c3 (by omega)) c4 c5), ?_⟩
      exact k _ (Int.emod_nonneg _ (by omega)) (Int.emod_lt_of_pos _ (by omega))
  · refine Or.inl ⟨_, _, _, rfl, mset_same, rfl, ⟨by decide, by decide, by omega⟩, fun n3 hn3 => Or.inl ⟨_, _, _, rfl, mset_same, rfl, cm_r (by omega) (by omega), ?_, Or.inl ⟨_, _, _, rfl, mset_same, rfl, ?_⟩⟩⟩
    · show (0 : Int) < 2147483629; omega
    · rw [mset_mset]
      refine Or.inl ⟨_, _, _, rfl, mset_same, rfl, cd_s (by omega) (by omega), Or.inl ⟨_, _, _, rfl, mset_same, rfl, ?_, cm_r (by omega) (by omega), ?_, ?_⟩⟩
      · show (0 : Int) < 7901; omega
      · show 0 < n; omega
      · refine ⟨m, MLe.close hb (bag_ok c1 c2 c3 (Int.emod_nonneg _ (by omega)) ?_), ?_⟩
        · exact Int.lt_trans (Int.emod_lt_of_pos _ (by omega)) (by omega)
        · exact k _ (Int.emod_nonneg _ (by omega)) (Int.emod_lt_of_pos _ (by omega))
theorem rd_law_draw : ∀ ds m Φ, sp_law_draw ds m Φ → qb_law_draw (bodyW Φ) (begin_ 4 ds) m := by
  rintro _ m Φ ⟨b, n, rfl, hb, h1, h2, k⟩
  refine ⟨b, _, hb, ?_⟩
  rintro _ ⟨cells, i, big, seed, cnt, rfl, c1, c2, c3, c4, c5⟩
  have go := draw_tail (cells := cells) hb h1 h2 c2 k
  refine Or.inl ⟨_, _, _, rfl, mset_same, rfl, Or.inl ⟨_, _, _, rfl, mset_same, rfl, ?_⟩⟩
  rw [mset_mset]
  refine Or.inl ⟨_, _, _, rfl, mset_same, rfl, ?_⟩
  refine qif (fun h => ?_) (fun h => ?_)
  · have hz : big = 0 := dec_t h
    refine Or.inl ⟨_, _, _, rfl, mset_same, rfl, Or.inl ⟨_, _, _, rfl, mset_same, rfl, ?_⟩⟩
    refine qif (fun h => ?_) (fun h => ?_)
    · have hi : (i : Int) < ((cells.map D.int).length : Int) := dec_t h
      rw [List.length_map] at hi
      have hi : i < cells.length := by omega
      refine Or.inl ⟨_, _, _, rfl, mset_same, rfl, Or.inl ⟨_, _, _, rfl, mset_same, rfl, D.int cells[i], atI_nat (by rw [List.getElem?_map, List.getElem?_eq_getElem hi]; rfl), ?_⟩⟩
      refine Or.inl ⟨_, _, _, rfl, mset_same, rfl, Or.inl ⟨_, _, _, rfl, mset_same, rfl, ?_⟩⟩
      rw [mset_mset]
      refine ⟨⟨by decide, by decide, by decide⟩, fun n18 hn18 => ?_⟩
      have hp18 : (0 : Int) ≤ n18 := by rw [hn18]; decide
      refine qif (fun h => ?_) (fun h => ?_)
      · have h : n18 ≤ cells[i] := dec_t h
        refine Or.inl ⟨_, _, _, rfl, mset_same, rfl, ?_⟩
        rw [mset_mset]
        exact go _ _ (i + 1) cells[i] seed (cnt + 1) hi (by omega) c4 c5
      · refine Or.inl ⟨_, _, _, rfl, mset_same, rfl, cm_r (by omega) (by omega), ?_, cm_r (by omega) (by omega), ?_, Or.inl ⟨_, _, _, rfl, mset_same, rfl, ?_⟩⟩
        · show (0 : Int) < 2147483549; omega
        · show (0 : Int) < 2147483629; omega
        · rw [mset_mset]
          exact go _ _ (i + 1) big ((seed * 69621 + cells[i] % 2147483549 * 30103 + 89) % 2147483629) (cnt + 1) hi c3 (by omega) (by omega)
    · exact go _ _ i big seed (cnt + 1) c1 c3 c4 c5
  · refine qif_f rfl ?_
    exact go _ _ i big seed (cnt + 1) c1 c3 c4 c5
theorem len_law_pair : ∀ ds m Φ, sp_law_pair ds m Φ → ds.length = 2 := C13.len_law_amount
theorem rd_law_pair : ∀ ds m Φ, sp_law_pair ds m Φ → qb_law_pair (bodyW Φ) (begin_ 4 ds) m := C13.rd_law_amount
theorem len_law_wide : ∀ ds m Φ, sp_law_wide ds m Φ → ds.length = 2 := by rintro _ _ _ ⟨_, _, rfl, _⟩; rfl
theorem rd_law_wide : ∀ ds m Φ, sp_law_wide ds m Φ → qb_law_wide (bodyW Φ) (begin_ 5 ds) m := by
  rintro _ m Φ ⟨b, f, rfl, hb, hf, k⟩
  refine ⟨by show 2 ≤ 16777216; decide, cd_s (by omega) (by omega), by show -(2 ^ 62) ≤ (f : Int) / 5; omega, by show (f : Int) / 5 < 2 ^ 62; omega, ?_⟩
  refine ⟨fun i s' m' => m' = m ∧ ∃ (x : Int) (c : Option D), s' = [some (.ref b), some (.int f), some (.int x), some (.int (100000 ^ i)), c] ∧ 0 ≤ x ∧ x < 100000 ^ i, ⟨rfl, 0, none, rfl, by omega, by decide⟩, fun _ _ _ _ _ => trivial, ?_, ?_⟩
  · rintro i d s' m' hd ⟨rfl, x, c, rfl, h1, h2⟩
    obtain ⟨_, rfl⟩ := get_ints hd
    refine ⟨b, _, rfl, hb, by omega, by omega, fun d d0 d1 => ⟨cm_l d0 (by omega), cm_r (by omega) (by omega), rfl, x + d * 100000 ^ i, some (.int (0 + i)), ?_, ?_, ?_⟩⟩
    · rw [Int.pow_succ]; rfl
    · have := Int.mul_nonneg d0 (show (0 : Int) ≤ 100000 ^ i by omega)
      omega
    · rw [Int.pow_succ]
      have := Int.mul_le_mul_of_nonneg_right (show d ≤ 99999 by omega) (show (0 : Int) ≤ 100000 ^ i by omega)
      omega
  rintro s' m' ⟨rfl, x, c, rfl, h1, h2⟩
  rw [ints_len] at h2 ⊢
  have e5 : (f : Int) / 5 = ((f / 5 : Nat) : Int) := by omega
  have r5 : (f : Int) % 5 = ((f % 5 : Nat) : Int) := by omega
  rw [e5, Int.toNat_natCast] at h2 ⊢
  have ep : (100000 : Int) ^ (f / 5) = 10 ^ (5 * (f / 5)) := by rw [Int.pow_mul]; rfl
  have ef : f = 5 * (f / 5) + f % 5 := by omega
  refine ⟨by show (0 : Int) < 5; omega, qif (fun h => ?_) (fun h => ?_)⟩
  · have h : (0 : Int) < (f : Int) % 5 := dec_t h
    refine ⟨by show 5 ≤ 16777216; decide, by show (0 : Int) < 5; omega, ?_⟩
    have go : ∀ (r : Nat) (t : Int), f % 5 = r → t = 10 ^ r → 1 ≤ t → t ≤ 10000 → sp_law_draw [.ref b, .int t] m' (fun d m1 => match d with
        | .int d => CM d (100000 ^ (f / 5)) ∧ ∃ m2, MLe m1 m2 ∧ Φ (.int (x + d * 100000 ^ (f / 5))) m2
        | _ => False) := by
      intro r t hr ht t1 t2
      refine ⟨b, t, rfl, hb, t1, by omega, fun d d0 d1 => ⟨cm_l d0 (by omega), wk_at (k _ ?_ ?_)⟩⟩
      · have := Int.mul_nonneg d0 (show (0 : Int) ≤ 100000 ^ (f / 5) by omega)
        omega
      · have e1 : (10 : Int) ^ f = 100000 ^ (f / 5) * t := by
          conv => lhs; rw [ef]
          rw [Int.pow_add, ← ep, hr, ht]
        rw [e1]
        have := Int.mul_le_mul_of_nonneg_right (show d ≤ t - 1 by omega) (show (0 : Int) ≤ 100000 ^ (f / 5) by omega)
        rw [Int.sub_mul] at this
        rw [Int.mul_comm _ t]
        omega
    have hc : f % 5 = 1 ∨ f % 5 = 2 ∨ f % 5 = 3 ∨ f % 5 = 4 := by omega
    show ∃ d, atI [D.int 1, D.int 10, D.int 100, D.int 1000, D.int 10000] ((f : Int) % 5) = some d ∧ _
    rw [r5]
    rcases hc with h | h | h | h
    · rw [h]; exact ⟨_, rfl, go 1 10 h (by decide) (by decide) (by decide)⟩
    · rw [h]; exact ⟨_, rfl, go 2 100 h (by decide) (by decide) (by decide)⟩
    · rw [h]; exact ⟨_, rfl, go 3 1000 h (by decide) (by decide) (by decide)⟩
    · rw [h]; exact ⟨_, rfl, go 4 10000 h (by decide) (by decide) (by decide)⟩
  · have h : ¬ (0 : Int) < (f : Int) % 5 := dec_f h
    refine wk_at (k x h1 ?_)
    rw [ep] at h2
    rw [show 5 * (f / 5) = f by omega] at h2
    exact h2
end C05
end
section
namespace PS
open PySem PySem.Spec PyProof.Rows L2 L3 L4 LF LV PL
open Rat (divInt)
local macro_rules | `(tactic| walk_at "st") => `(tactic| repeat (first
  | (with_reducible refine k_var (by with_unfolding_all rfl) ?_)
  | (with_reducible refine k_seq ?_)
  | (with_reducible refine k_cons ?_)
  | (with_reducible refine k_nil ?_)
  | (with_reducible refine k_c ?_)
  | (with_reducible refine k_op ?_)
  | (with_reducible refine k_asg ?_)
  | (with_reducible refine k_call ?_)
  | (with_reducible refine k_cb ?_)
  | (with_reducible refine k_i0 ?_)
  | (with_reducible refine k_addI ?_)
  | (with_reducible refine k_B ?_)
  | (with_reducible refine k_bk ?_)
  | (with_reducible refine k_if ?_)
  | (with_reducible refine k_ret ?_)
  | (with_reducible refine k_expr ?_)
  | (with_reducible refine k_next ?_)
  | (with_reducible refine k_not ?_)
  | (with_reducible refine k_and ?_)
  | (with_reducible refine k_or ?_)
  | (with_reducible refine k_ift ?_)
  | (with_reducible refine k_iff ?_)
  | (with_reducible refine k_ifnt ?_)
  | (with_reducible refine k_ifnf ?_)
  | (with_reducible refine k_fz ?_)
  | (with_reducible refine k_lc ?_)
  | (with_reducible refine k_dc ?_)
  | (with_reducible refine k_for ?_)
  | (with_reducible refine k_rng ?_)
  | (with_reducible refine k_iL ?_)
  | (with_reducible refine k_iLl ?_)
  | (with_reducible refine k_iT ?_)
  | (with_reducible refine k_iTt ?_)
  | (with_reducible refine k_zip ?_)
  | (with_reducible refine k_asgp ?_)
  | (with_reducible refine k_atn ?_)
  | (with_reducible refine k_par ?_)
  | (with_reducible refine k_parI ?_)
  | (with_reducible refine k_par3 ?_)
  | (with_reducible refine k_par3I ?_)
  | (with_reducible refine k_sub ?_)
  | (with_reducible refine k_andV ?_)
  | (with_reducible refine k_orV ?_)
  | (with_reducible refine k_notV ?_)
  | (with_reducible refine k_ifE ?_)
  | (with_reducible refine k_chain ?_)
  | (with_reducible refine k_am0 ?_)
  | (with_reducible refine k_am1 ?_)
  | (with_reducible refine k_int ?_)
  | (with_reducible refine k_eqI ?_)
  | (with_reducible refine k_neI ?_)
  | (with_reducible refine k_eqB ?_)
  | (with_reducible refine k_neB ?_)
  | (with_reducible refine k_iaddI ?_)
  | (with_reducible refine k_lenT ?_)
  | (with_reducible refine k_lenL ?_)
  | (with_reducible refine k_tru ?_)
  | (with_reducible refine k_cont ?_)
  | (with_reducible refine k_brk ?_)
  | (with_reducible refine k_retN ?_)
  | (with_reducible refine k_callK ?_)
  | (with_reducible refine k_callS1 ?_)
  | (with_reducible refine k_star ?_)
  | (with_reducible refine k_itL ?_)
  | (with_reducible refine k_itT ?_)
  | (with_reducible refine k_isi ?_)
  | (with_reducible refine k_isiT ?_)
  | (with_reducible refine k_bm ?_)
  | (with_reducible refine k_tup ?_)
  | (with_reducible refine k_lstF ?_)
  | (with_reducible refine k_lstM ?_)
  | (with_reducible refine k_aug (by with_unfolding_all rfl) ?_)
  | (with_reducible refine k_iSv (by with_unfolding_all rfl) ?_)
  | (with_reducible refine k_ixt (by with_unfolding_all rfl) ?_)
  | (with_reducible refine k_at (by with_unfolding_all rfl) ?_)
  | (with_reducible refine k_fzn ‹_› ?_)
  | (refine And.intro (by exact sz (by simp)) ?_)))
/-- allotments: 0 level, 1 wishes, 2 manner, 3 weight, 4 bound -/
def qb_allotments : QS :=
  (sRet (qLc (iSeq (qVar 1)) (.tp [(.nm 2), (.nm 3), (.nm 4)]) qYes (qCall sp_share (qCons (qVar 2) (qCons (qVar 3) (qCons (qCall sp_smallest_s (qCons (qVar 0) (qCons (qVar 4) qNil))) qNil)))) [2, 3, 4]))
section
variable {N M W : Nat} {rows : List Wsh} {S : Rat}
end
end PS
end
section
/-! C02: the laws' own shares, totals, levels; drawn wishes and capacities (k01 to k04) -/
namespace C02
open PySem PySem.Spec PyProof.Rows L2 L3 L4 LF LV PL PS C05
open Rat (divInt)
open C13 (BagP)
local macro_rules | `(tactic| walk_at "st") => `(tactic| repeat (first
  | (with_reducible refine k_var (by with_unfolding_all rfl) ?_)
  | (with_reducible refine k_seq ?_)
  | (with_reducible refine k_cons ?_)
  | (with_reducible refine k_nil ?_)
  | (with_reducible refine k_c ?_)
  | (with_reducible refine k_op ?_)
  | (with_reducible refine k_asg ?_)
  | (with_reducible refine k_call ?_)
  | (with_reducible refine k_cb ?_)
  | (with_reducible refine k_i0 ?_)
  | (with_reducible refine k_addI ?_)
  | (with_reducible refine k_B ?_)
  | (with_reducible refine k_bk ?_)
  | (with_reducible refine k_if ?_)
  | (with_reducible refine k_ret ?_)
  | (with_reducible refine k_expr ?_)
  | (with_reducible refine k_next ?_)
  | (with_reducible refine k_not ?_)
  | (with_reducible refine k_and ?_)
  | (with_reducible refine k_or ?_)
  | (with_reducible refine k_ift ?_)
  | (with_reducible refine k_iff ?_)
  | (with_reducible refine k_ifnt ?_)
  | (with_reducible refine k_ifnf ?_)
  | (with_reducible refine k_fz ?_)
  | (with_reducible refine k_lc ?_)
  | (with_reducible refine k_dc ?_)
  | (with_reducible refine k_for ?_)
  | (with_reducible refine k_rng ?_)
  | (with_reducible refine k_iL ?_)
  | (with_reducible refine k_iLl ?_)
  | (with_reducible refine k_iT ?_)
  | (with_reducible refine k_iTt ?_)
  | (with_reducible refine k_zip ?_)
  | (with_reducible refine k_asgp ?_)
  | (with_reducible refine k_atn ?_)
  | (with_reducible refine k_par ?_)
  | (with_reducible refine k_parI ?_)
  | (with_reducible refine k_par3 ?_)
  | (with_reducible refine k_par3I ?_)
  | (with_reducible refine k_sub ?_)
  | (with_reducible refine k_andV ?_)
  | (with_reducible refine k_orV ?_)
  | (with_reducible refine k_notV ?_)
  | (with_reducible refine k_ifE ?_)
  | (with_reducible refine k_chain ?_)
  | (with_reducible refine k_am0 ?_)
  | (with_reducible refine k_am1 ?_)
  | (with_reducible refine k_int ?_)
  | (with_reducible refine k_eqI ?_)
  | (with_reducible refine k_neI ?_)
  | (with_reducible refine k_eqB ?_)
  | (with_reducible refine k_neB ?_)
  | (with_reducible refine k_iaddI ?_)
  | (with_reducible refine k_lenT ?_)
  | (with_reducible refine k_lenL ?_)
  | (with_reducible refine k_tru ?_)
  | (with_reducible refine k_cont ?_)
  | (with_reducible refine k_brk ?_)
  | (with_reducible refine k_retN ?_)
  | (with_reducible refine k_callK ?_)
  | (with_reducible refine k_callS1 ?_)
  | (with_reducible refine k_star ?_)
  | (with_reducible refine k_itL ?_)
  | (with_reducible refine k_itT ?_)
  | (with_reducible refine k_isi ?_)
  | (with_reducible refine k_isiT ?_)
  | (with_reducible refine k_bm ?_)
  | (with_reducible refine k_tup ?_)
  | (with_reducible refine k_lstF ?_)
  | (with_reducible refine k_lstM ?_)
  | (with_reducible refine k_aug (by with_unfolding_all rfl) ?_)
  | (with_reducible refine k_iSv (by with_unfolding_all rfl) ?_)
  | (with_reducible refine k_ixt (by with_unfolding_all rfl) ?_)
  | (with_reducible refine k_at (by with_unfolding_all rfl) ?_)
  | (with_reducible refine k_fzn ‹_› ?_)
  | (refine And.intro (by exact sz (by simp)) ?_)))
def sp_law_max : LSp := fun ds m Φ => ∃ (p q : Rat), ds = [am p, am q] ∧ Bg p ∧ Bg q ∧ Φ (am (mx p q)) m
abbrev sp_law_share : LSp := sp_share
def sp_law_total : LSp := fun ds m Φ => ∃ (w : D) (rows : List Wsh) (x : Rat) (N M : Nat), ds = [w, am x] ∧ LItems w m (rows.map wishD) ∧ TA N M rows x ∧ Φ (am (tot rows x)) m
/-- where a total may bend -/
def fnd (r : Wsh) : List Rat := r.2.2 :: (match r.1 with
  | none => []
  | some p => [p.1 * divInt 1 r.2.1, p.2 * divInt 1 r.2.1])
def fnds : List Wsh → List Rat
  | [] => []
  | r :: l => fnd r ++ fnds l
def brk (rows : List Wsh) : List Rat := (0 :: 1000 :: fnds rows).filter fun x => !decide (1000 < x)
structure BA (r : Wsh) : Prop where
  w : 1 ≤ r.2.1 ∧ r.2.1.natAbs.log2 < 100
  b : r.2.2.num.natAbs.log2 < 2000 ∧ r.2.2.den.log2 < 2000
  m : ∀ p, r.1 = some p → 0 ≤ p.1 ∧ 0 ≤ p.2 ∧ (p.1.num.natAbs.log2 < 2000 ∧ p.1.den.log2 < 2000) ∧ (p.2.num.natAbs.log2 < 2000 ∧ p.2.den.log2 < 2000)
def sp_law_breaks : LSp := fun ds m Φ => ∃ (w : D) (rows : List Wsh), ds = [w] ∧ LItems w m (rows.map wishD) ∧ (∀ r ∈ rows, BA r) ∧ rows.length ≤ 1000 ∧ Φ (.lst ((brk rows).map am)) m
def sp_law_level : LSp := fun ds m Φ => ∃ (S : Rat) (w : D) (rows : List Wsh) (N M W : Nat), ds = [am S, w] ∧ LItems w m (rows.map wishD) ∧ RB N M W rows S ∧ ∀ x, IsLevel S rows x → Φ (am x) m
/-- a drawn manner, a drawn wish -/
def DM (g : Nat) (mm : Option (Rat × Rat)) : Prop := ∀ p, mm = some p → Okb (12 * g) 4000 p.1 ∧ Okb (12 * g) 4000 p.2 ∧ p.1 ≤ p.2
structure DR (g : Nat) (r : Wsh) : Prop where
  w : 1 ≤ r.2.1 ∧ r.2.1 ≤ 12
  b : Okb (12 * g) 4000 r.2.2
  m : DM g r.1
def sp_law_wish : LSp := fun ds m Φ => ∃ (b : Addr) (g : Nat), ds = [.ref b, .int g] ∧ m b = some (.any BagP) ∧ 1 ≤ g ∧ g ≤ 10 ^ 18 ∧ ∀ mm, DM g mm → Φ (mannD mm) m
def sp_law_wishes : LSp := fun ds m Φ => ∃ (b : Addr) (n g : Nat), ds = [.ref b, .int n, .int g] ∧ m b = some (.any BagP) ∧ n ≤ 1000 ∧ 1 ≤ g ∧ g ≤ 10 ^ 18 ∧ ∀ rows : List Wsh, (∀ r ∈ rows, DR g r) → rows.length ≤ n → ∀ a, m a = none → Φ (.ref a) (mset m a (.lst (rows.map wishD)))
abbrev NS (g : Nat) : Nat := 144 * (g * 55440)
def sp_law_supply : LSp := fun ds m Φ => ∃ (b : Addr) (w : D) (rows : List Wsh) (g : Nat), ds = [.ref b, w] ∧ m b = some (.any BagP) ∧ LItems w m (rows.map wishD) ∧ (∀ r ∈ rows, DR g r) ∧ rows.length ≤ 10 ∧ 1 ≤ g ∧ g ≤ 10 ^ 18 ∧ ∀ S, 0 < S → Okb (NS g) 50000 S → Φ (am S) m
/-- _law_max: 0 _law_p, 1 _law_q -/
def qb_law_max : QS :=
  (sRet (qIfE (qB (qCall sp_law_more (qCons (qVar 0) (qCons (qVar 1) qNil)))) (qVar 0) (qVar 1)))
/-- _law_share: 0 _law_wish_here, 1 _law_heavy, 2 _law_x -/
def qb_law_share : QS :=
  (sSeq (sIf (qB (qOp vEq (qVar 0) (qTup qNil))) (sRet (qTup (qCons (qC (.int 0)) (qCons (qC (.int 1)) qNil)))) sNext)
    (sRet (qCall sp_law_max (qCons (qOp vIx (qVar 0) (qC (.int 0))) (qCons (qCall sp_law_min (qCons (qOp vIx (qVar 0) (qC (.int 1))) (qCons (qCall sp_law_pair (qCons (qOp (qIC CM fun i j => .int (i * j)) (qVar 1) (qOp vIx (qVar 2) (qC (.int 0)))) (qCons (qOp vIx (qVar 2) (qC (.int 1))) qNil))) qNil))) qNil)))))
/-- _law_total: 0 _law_rows, 1 _law_x, 2 _law_row -/
def qb_law_total : QS :=
  (sRet (qCall sp_law_sum (qCons (qFreeze (qLc (iLst (qVar 0)) (.nm 2) qYes (qCall sp_law_share (qCons (qOp vIx (qVar 2) (qC (.int 0))) (qCons (qOp vIx (qVar 2) (qC (.int 1))) (qCons (qCall sp_law_min (qCons (qVar 1) (qCons (qOp vIx (qVar 2) (qC (.int 2))) qNil))) qNil)))) [2])) qNil)))
/-- _law_breaks: 0 _law_rows, 1 _law_found, 2 _law_row, 3 _law_x -/
def qb_law_breaks : QS :=
  (sSeq (sAsg (.nm 1) (qLstM (qCons (qTup (qCons (qC (.int 0)) (qCons (qC (.int 1)) qNil))) (qCons (qTup (qCons (qC (.int 1000)) (qCons (qC (.int 1)) qNil))) qNil))))
    (sSeq (sFor (iLst (qVar 0)) (.nm 2) (sSeq (sExpr (qBM "list" (mtL gAppend) (qVar 1) (qCons (qOp vIx (qVar 2) (qC (.int 2))) qNil)))
    (sIf (qB (qOp vNe (qOp vIx (qVar 2) (qC (.int 0))) (qTup qNil))) (sExpr (qBM "list" mExtend (qVar 1) (qCons (qLstM (qCons (qCall sp_law_pair (qCons (qOp vIx (qOp vIx (qOp vIx (qVar 2) (qC (.int 0))) (qC (.int 0))) (qC (.int 0))) (qCons (qOp (qIC CM fun i j => .int (i * j)) (qOp vIx (qOp vIx (qOp vIx (qVar 2) (qC (.int 0))) (qC (.int 0))) (qC (.int 1))) (qOp vIx (qVar 2) (qC (.int 1)))) qNil))) (qCons (qCall sp_law_pair (qCons (qOp vIx (qOp vIx (qOp vIx (qVar 2) (qC (.int 0))) (qC (.int 1))) (qC (.int 0))) (qCons (qOp (qIC CM fun i j => .int (i * j)) (qOp vIx (qOp vIx (qOp vIx (qVar 2) (qC (.int 0))) (qC (.int 1))) (qC (.int 1))) (qOp vIx (qVar 2) (qC (.int 1)))) qNil))) qNil))) qNil))) sNext)))
    (sRet (qFreeze (qLc (iLst (qVar 1)) (.nm 3) (qNot (qB (qCall sp_law_more (qCons (qVar 3) (qCons (qTup (qCons (qC (.int 1000)) (qCons (qC (.int 1)) qNil))) qNil))))) (qVar 3) [3])))))
/-- _law_level: 0 _law_supply_here, 1 _law_rows, 2 _law_lower, 3 _law_upper, 4 _law_x, 5 _law_base, 6 _law_rise -/
def qb_law_level : QS :=
  (sSeq (sAsg (.nm 2) (qTup (qCons (qC (.int 0)) (qCons (qC (.int 1)) qNil))))
    (sSeq (sAsg (.nm 3) (qTup (qCons (qC (.int 1000)) (qCons (qC (.int 1)) qNil))))
    (sSeq (sIf (qNot (qB (qCall sp_law_more (qCons (qVar 0) (qCons (qCall sp_law_total (qCons (qVar 1) (qCons (qVar 2) qNil))) qNil))))) (sRet (qVar 2)) sNext)
    (sSeq (sIf (qB (qCall sp_law_more (qCons (qVar 0) (qCons (qCall sp_law_total (qCons (qVar 1) (qCons (qVar 3) qNil))) qNil)))) (sRet (qVar 3)) sNext)
    (sSeq (sFor (iLst (qCall sp_law_breaks (qCons (qVar 1) qNil))) (.nm 4) (sIf (qAnd (qB (qCall sp_law_more (qCons (qVar 4) (qCons (qVar 2) qNil)))) (qB (qCall sp_law_more (qCons (qVar 3) (qCons (qVar 4) qNil))))) (sIf (qB (qCall sp_law_more (qCons (qVar 0) (qCons (qCall sp_law_total (qCons (qVar 1) (qCons (qVar 4) qNil))) qNil)))) (sAsg (.nm 2) (qVar 4)) (sAsg (.nm 3) (qVar 4))) sNext))
    (sSeq (sAsg (.nm 5) (qCall sp_law_total (qCons (qVar 1) (qCons (qVar 2) qNil))))
    (sSeq (sAsg (.nm 6) (qCall sp_law_sub (qCons (qCall sp_law_total (qCons (qVar 1) (qCons (qVar 3) qNil))) (qCons (qVar 5) qNil))))
    (sRet (qCall sp_law_add (qCons (qVar 2) (qCons (qCall sp_law_div (qCons (qCall sp_law_mul (qCons (qCall sp_law_sub (qCons (qVar 0) (qCons (qVar 5) qNil))) (qCons (qCall sp_law_sub (qCons (qVar 3) (qCons (qVar 2) qNil))) qNil))) (qCons (qVar 6) qNil))) qNil)))))))))))
/-- _law_wish: 0 _law_bag_here, 1 _law_grid_here, 2 _law_shape, 3 _law_a -/
def qb_law_wish : QS :=
  (sSeq (sAsg (.nm 2) (qCall sp_law_draw (qCons (qVar 0) (qCons (qC (.int 9)) qNil))))
    (sSeq (sIf (qB (qOp vEq (qVar 2) (qC (.int 0)))) (sRet (qTup qNil)) sNext)
    (sSeq (sAsg (.nm 3) (qCall sp_law_of (qCons (qVar 0) (qCons (qLstF (qCons (qTup (qCons (qC (.int 0)) (qCons (qC (.int 1)) qNil))) (qCons (qCall sp_law_bit (qCons (qVar 0) qNil)) (qCons (qCall sp_law_fine (qCons (qVar 0) (qCons (qVar 1) qNil))) qNil)))) qNil))))
    (sSeq (sIf (qB (qOp (qI0 fun i j => .bl (decide (i < j))) (qVar 2) (qC (.int 3)))) (sRet (qTup (qCons (qVar 3) (qCons (qVar 3) qNil)))) sNext)
    (sSeq (sIf (qB (qOp (qI0 fun i j => .bl (decide (i < j))) (qVar 2) (qC (.int 5)))) (sRet (qIfE (qNot (qB (qCall sp_law_more (qCons (qVar 3) (qCons (qTup (qCons (qC (.int 1000)) (qCons (qC (.int 1)) qNil))) qNil))))) (qTup (qCons (qVar 3) (qCons (qTup (qCons (qC (.int 1000)) (qCons (qC (.int 1)) qNil))) qNil))) (qTup (qCons (qVar 3) (qCons (qVar 3) qNil))))) sNext)
    (sSeq (sIf (qB (qOp vEq (qVar 2) (qC (.int 5)))) (sRet (qTup (qCons (qVar 3) (qCons (qCall sp_law_add (qCons (qVar 3) (qCons (qCall sp_law_fine (qCons (qVar 0) (qCons (qVar 1) qNil))) qNil))) qNil)))) sNext)
    (sRet (qTup (qCons (qVar 3) (qCons (qCall sp_law_add (qCons (qVar 3) (qCons (qCall sp_law_bit (qCons (qVar 0) qNil)) qNil))) qNil))))))))))
/-- _law_wishes: 0 _law_bag_here, 1 _law_bulk, 2 _law_grid_here, 3 _law_many, 4 _law_alike, 5 _law_lid, 6 _law_rows, 7 _law_k, 8 _law_row -/
def qb_law_wishes : QS :=
  (sSeq (sAsg (.nm 3) (qCall sp_law_draw (qCons (qVar 0) (qCons (qOp qAdd (qVar 1) (qC (.int 1))) qNil))))
    (sSeq (sAsg (.nm 4) (qCall sp_law_draw (qCons (qVar 0) (qCons (qC (.int 3)) qNil))))
    (sSeq (sAsg (.nm 5) (qCall sp_law_bit (qCons (qVar 0) qNil)))
    (sSeq (sAsg (.nm 6) (qLstM qNil))
    (sSeq (sFor (iRange1 (qCons (qVar 3) qNil)) (.nm 7) (sSeq (sAsg (.nm 8) (qTup (qCons (qCall sp_law_wish (qCons (qVar 0) (qCons (qVar 2) qNil))) (qCons (qCall sp_law_of (qCons (qVar 0) (qCons (qLstF (qCons (qC (.int 1)) (qCons (qC (.int 1)) (qCons (qC (.int 2)) (qCons (qC (.int 3)) (qCons (qOp qAdd (qC (.int 1)) (qCall sp_law_draw (qCons (qVar 0) (qCons (qC (.int 12)) qNil)))) qNil)))))) qNil))) (qCons (qCall sp_law_of (qCons (qVar 0) (qCons (qLstF (qCons (qTup (qCons (qC (.int 1000)) (qCons (qC (.int 1)) qNil))) (qCons (qTup (qCons (qC (.int 1000)) (qCons (qC (.int 1)) qNil))) (qCons (qCall sp_law_bit (qCons (qVar 0) qNil)) (qCons (qVar 5) (qCons (qCall sp_law_fine (qCons (qVar 0) (qCons (qVar 2) qNil))) qNil)))))) qNil))) qNil)))))
    (sSeq (sIf (qAnd (qB (qOp vEq (qVar 4) (qC (.int 0)))) (qAnd (qB (qOp vNe (qVar 6) (qLstM qNil))) (qB (qOp vEq (qCall sp_law_draw (qCons (qVar 0) (qCons (qC (.int 2)) qNil))) (qC (.int 0)))))) (sAsg (.nm 8) (qTup (qCons (qCall sp_law_of (qCons (qVar 0) (qCons (qLstF (qCons (qOp vIx (qOp vIx (qVar 6) (qC (.int 0))) (qC (.int 0))) (qCons (qOp vIx (qVar 8) (qC (.int 0))) qNil))) qNil))) (qCons (qOp vIx (qVar 8) (qC (.int 1))) (qCons (qCall sp_law_of (qCons (qVar 0) (qCons (qLstF (qCons (qOp vIx (qOp vIx (qVar 6) (qC (.int 0))) (qC (.int 2))) (qCons (qOp vIx (qVar 8) (qC (.int 2))) qNil))) qNil))) qNil))))) sNext)
    (sExpr (qBM "list" (mtL gAppend) (qVar 6) (qCons (qVar 8) qNil))))))
    (sRet (qVar 6)))))))
/-- _law_supply: 0 _law_bag_here, 1 _law_rows, 2 _law_shape, 3 _law_x, 4 _law_y, 5 _law_some -/
def qb_law_supply : QS :=
  (sSeq (sAsg (.nm 2) (qCall sp_law_draw (qCons (qVar 0) (qCons (qC (.int 8)) qNil))))
    (sSeq (sAsg (.nm 3) (qCall sp_law_of (qCons (qVar 0) (qCons (qCall sp_law_breaks (qCons (qVar 1) qNil)) qNil))))
    (sSeq (sAsg (.nm 4) (qCall sp_law_of (qCons (qVar 0) (qCons (qCall sp_law_breaks (qCons (qVar 1) qNil)) qNil))))
    (sSeq (sAsg (.nm 5) (qLstM (qCons (qCall sp_law_add (qCons (qCall sp_law_bit (qCons (qVar 0) qNil)) (qCons (qTup (qCons (qC (.int 1)) (qCons (qC (.int 12)) qNil))) qNil))) (qCons (qCall sp_law_fine (qCons (qVar 0) (qCons (qC (.int 12)) qNil))) (qCons (qCall sp_law_total (qCons (qVar 1) (qCons (qVar 3) qNil))) (qCons (qCall sp_law_total (qCons (qVar 1) (qCons (qVar 3) qNil))) qNil))))))
    (sSeq (sAsg (.nm 5) (qOp qAdd (qVar 5) (qLstM (qCons (qCall sp_law_total (qCons (qVar 1) (qCons (qCall sp_law_mul (qCons (qCall sp_law_add (qCons (qVar 3) (qCons (qVar 4) qNil))) (qCons (qTup (qCons (qC (.int 1)) (qCons (qC (.int 2)) qNil))) qNil))) qNil))) (qCons (qCall sp_law_total (qCons (qVar 1) (qCons (qTup (qCons (qC (.int 0)) (qCons (qC (.int 1)) qNil))) qNil))) qNil)))))
    (sSeq (sAsg (.nm 5) (qOp qAdd (qVar 5) (qLstM (qCons (qCall sp_law_total (qCons (qVar 1) (qCons (qTup (qCons (qC (.int 1000)) (qCons (qC (.int 1)) qNil))) qNil))) (qCons (qCall sp_law_add (qCons (qCall sp_law_total (qCons (qVar 1) (qCons (qTup (qCons (qC (.int 1000)) (qCons (qC (.int 1)) qNil))) qNil))) (qCons (qCall sp_law_bit (qCons (qVar 0) qNil)) qNil))) qNil)))))
    (sRet (qIfE (qB (qOp (qI0 fun i j => .bl (decide (j < i))) (qOp vIx (qOp vIx (qVar 5) (qVar 2)) (qC (.int 0))) (qC (.int 0)))) (qOp vIx (qVar 5) (qVar 2)) (qTup (qCons (qC (.int 1)) (qCons (qOp qAdd (qC (.int 1)) (qCall sp_law_draw (qCons (qVar 0) (qCons (qC (.int 12)) qNil)))) qNil)))))))))))
/-! ### breaks -/
end C02
end
section
namespace C02
open PySem PySem.Spec PyProof.Rows L2 L3 L4 LF LV PL PS C05
open Rat (divInt)
open C13 (BagP)
local macro_rules | `(tactic| walk_at "st") => `(tactic| repeat (first
  | (with_reducible refine k_var (by with_unfolding_all rfl) ?_)
  | (with_reducible refine k_seq ?_)
  | (with_reducible refine k_cons ?_)
  | (with_reducible refine k_nil ?_)
  | (with_reducible refine k_c ?_)
  | (with_reducible refine k_op ?_)
  | (with_reducible refine k_asg ?_)
  | (with_reducible refine k_call ?_)
  | (with_reducible refine k_cb ?_)
  | (with_reducible refine k_i0 ?_)
  | (with_reducible refine k_addI ?_)
  | (with_reducible refine k_B ?_)
  | (with_reducible refine k_bk ?_)
  | (with_reducible refine k_if ?_)
  | (with_reducible refine k_ret ?_)
  | (with_reducible refine k_expr ?_)
  | (with_reducible refine k_next ?_)
  | (with_reducible refine k_not ?_)
  | (with_reducible refine k_and ?_)
  | (with_reducible refine k_or ?_)
  | (with_reducible refine k_ift ?_)
  | (with_reducible refine k_iff ?_)
  | (with_reducible refine k_ifnt ?_)
  | (with_reducible refine k_ifnf ?_)
  | (with_reducible refine k_fz ?_)
  | (with_reducible refine k_lc ?_)
  | (with_reducible refine k_dc ?_)
  | (with_reducible refine k_for ?_)
  | (with_reducible refine k_rng ?_)
  | (with_reducible refine k_iL ?_)
  | (with_reducible refine k_iLl ?_)
  | (with_reducible refine k_iT ?_)
  | (with_reducible refine k_iTt ?_)
  | (with_reducible refine k_zip ?_)
  | (with_reducible refine k_asgp ?_)
  | (with_reducible refine k_atn ?_)
  | (with_reducible refine k_par ?_)
  | (with_reducible refine k_parI ?_)
  | (with_reducible refine k_par3 ?_)
  | (with_reducible refine k_par3I ?_)
  | (with_reducible refine k_sub ?_)
  | (with_reducible refine k_andV ?_)
  | (with_reducible refine k_orV ?_)
  | (with_reducible refine k_notV ?_)
  | (with_reducible refine k_ifE ?_)
  | (with_reducible refine k_chain ?_)
  | (with_reducible refine k_am0 ?_)
  | (with_reducible refine k_am1 ?_)
  | (with_reducible refine k_int ?_)
  | (with_reducible refine k_eqI ?_)
  | (with_reducible refine k_neI ?_)
  | (with_reducible refine k_eqB ?_)
  | (with_reducible refine k_neB ?_)
  | (with_reducible refine k_iaddI ?_)
  | (with_reducible refine k_lenT ?_)
  | (with_reducible refine k_lenL ?_)
  | (with_reducible refine k_tru ?_)
  | (with_reducible refine k_cont ?_)
  | (with_reducible refine k_brk ?_)
  | (with_reducible refine k_retN ?_)
  | (with_reducible refine k_callK ?_)
  | (with_reducible refine k_callS1 ?_)
  | (with_reducible refine k_star ?_)
  | (with_reducible refine k_itL ?_)
  | (with_reducible refine k_itT ?_)
  | (with_reducible refine k_isi ?_)
  | (with_reducible refine k_isiT ?_)
  | (with_reducible refine k_bm ?_)
  | (with_reducible refine k_tup ?_)
  | (with_reducible refine k_lstF ?_)
  | (with_reducible refine k_lstM ?_)
  | (with_reducible refine k_aug (by with_unfolding_all rfl) ?_)
  | (with_reducible refine k_iSv (by with_unfolding_all rfl) ?_)
  | (with_reducible refine k_ixt (by with_unfolding_all rfl) ?_)
  | (with_reducible refine k_at (by with_unfolding_all rfl) ?_)
  | (with_reducible refine k_fzn ‹_› ?_)
  | (refine And.intro (by exact sz (by simp)) ?_)))
section
variable {N M W : Nat} {rows : List Wsh} {S : Rat}
end
end C02
end
section
namespace C02
open PySem PySem.Spec PyProof.Rows L2 L3 L4 LF LV PL PS C05
open Rat (divInt)
open C13 (BagP)
local macro_rules | `(tactic| walk_at "st") => `(tactic| repeat (first
  | (with_reducible refine k_var (by with_unfolding_all rfl) ?_)
  | (with_reducible refine k_seq ?_)
  | (with_reducible refine k_cons ?_)
  | (with_reducible refine k_nil ?_)
  | (with_reducible refine k_c ?_)
  | (with_reducible refine k_op ?_)
  | (with_reducible refine k_asg ?_)
  | (with_reducible refine k_call ?_)
  | (with_reducible refine k_cb ?_)
  | (with_reducible refine k_i0 ?_)
  | (with_reducible refine k_addI ?_)
  | (with_reducible refine k_B ?_)
  | (with_reducible refine k_bk ?_)
  | (with_reducible refine k_if ?_)
  | (with_reducible refine k_ret ?_)
  | (with_reducible refine k_expr ?_)
  | (with_reducible refine k_next ?_)
  | (with_reducible refine k_not ?_)
  | (with_reducible refine k_and ?_)
  | (with_reducible refine k_or ?_)
  | (with_reducible refine k_ift ?_)
  | (with_reducible refine k_iff ?_)
  | (with_reducible refine k_ifnt ?_)
  | (with_reducible refine k_ifnf ?_)
  | (with_reducible refine k_fz ?_)
  | (with_reducible refine k_lc ?_)
  | (with_reducible refine k_dc ?_)
  | (with_reducible refine k_for ?_)
  | (with_reducible refine k_rng ?_)
  | (with_reducible refine k_iL ?_)
  | (with_reducible refine k_iLl ?_)
  | (with_reducible refine k_iT ?_)
  | (with_reducible refine k_iTt ?_)
  | (with_reducible refine k_zip ?_)
  | (with_reducible refine k_asgp ?_)
  | (with_reducible refine k_atn ?_)
  | (with_reducible refine k_par ?_)
  | (with_reducible refine k_parI ?_)
  | (with_reducible refine k_par3 ?_)
  | (with_reducible refine k_par3I ?_)
  | (with_reducible refine k_sub ?_)
  | (with_reducible refine k_andV ?_)
  | (with_reducible refine k_orV ?_)
  | (with_reducible refine k_notV ?_)
  | (with_reducible refine k_ifE ?_)
  | (with_reducible refine k_chain ?_)
  | (with_reducible refine k_am0 ?_)
  | (with_reducible refine k_am1 ?_)
  | (with_reducible refine k_int ?_)
  | (with_reducible refine k_eqI ?_)
  | (with_reducible refine k_neI ?_)
  | (with_reducible refine k_eqB ?_)
  | (with_reducible refine k_neB ?_)
  | (with_reducible refine k_iaddI ?_)
  | (with_reducible refine k_lenT ?_)
  | (with_reducible refine k_lenL ?_)
  | (with_reducible refine k_tru ?_)
  | (with_reducible refine k_cont ?_)
  | (with_reducible refine k_brk ?_)
  | (with_reducible refine k_retN ?_)
  | (with_reducible refine k_callK ?_)
  | (with_reducible refine k_callS1 ?_)
  | (with_reducible refine k_star ?_)
  | (with_reducible refine k_itL ?_)
  | (with_reducible refine k_itT ?_)
  | (with_reducible refine k_isi ?_)
  | (with_reducible refine k_isiT ?_)
  | (with_reducible refine k_bm ?_)
  | (with_reducible refine k_tup ?_)
  | (with_reducible refine k_lstF ?_)
  | (with_reducible refine k_lstM ?_)
  | (with_reducible refine k_aug (by with_unfolding_all rfl) ?_)
  | (with_reducible refine k_iSv (by with_unfolding_all rfl) ?_)
  | (with_reducible refine k_ixt (by with_unfolding_all rfl) ?_)
  | (with_reducible refine k_at (by with_unfolding_all rfl) ?_)
  | (with_reducible refine k_fzn ‹_› ?_)
  | (refine And.intro (by exact sz (by simp)) ?_)))
end C02
end
section
namespace C02
open PySem PySem.Spec PyProof.Rows L2 L3 L4 LF LV PL PS C05
open Rat (divInt)
open C13 (BagP)
local macro_rules | `(tactic| walk_at "st") => `(tactic| repeat (first
  | (with_reducible refine k_var (by with_unfolding_all rfl) ?_)
  | (with_reducible refine k_seq ?_)
  | (with_reducible refine k_cons ?_)
  | (with_reducible refine k_nil ?_)
  | (with_reducible refine k_c ?_)
  | (with_reducible refine k_op ?_)
  | (with_reducible refine k_asg ?_)
  | (with_reducible refine k_call ?_)
  | (with_reducible refine k_cb ?_)
  | (with_reducible refine k_i0 ?_)
  | (with_reducible refine k_addI ?_)
  | (with_reducible refine k_B ?_)
  | (with_reducible refine k_bk ?_)
  | (with_reducible refine k_if ?_)
  | (with_reducible refine k_ret ?_)
  | (with_reducible refine k_expr ?_)
  | (with_reducible refine k_next ?_)
  | (with_reducible refine k_not ?_)
  | (with_reducible refine k_and ?_)
  | (with_reducible refine k_or ?_)
  | (with_reducible refine k_ift ?_)
  | (with_reducible refine k_iff ?_)
  | (with_reducible refine k_ifnt ?_)
  | (with_reducible refine k_ifnf ?_)
  | (with_reducible refine k_fz ?_)
  | (with_reducible refine k_lc ?_)
  | (with_reducible refine k_dc ?_)
  | (with_reducible refine k_for ?_)
  | (with_reducible refine k_rng ?_)
  | (with_reducible refine k_iL ?_)
  | (with_reducible refine k_iLl ?_)
  | (with_reducible refine k_iT ?_)
  | (with_reducible refine k_iTt ?_)
  | (with_reducible refine k_zip ?_)
  | (with_reducible refine k_asgp ?_)
  | (with_reducible refine k_atn ?_)
  | (with_reducible refine k_par ?_)
  | (with_reducible refine k_parI ?_)
  | (with_reducible refine k_par3 ?_)
  | (with_reducible refine k_par3I ?_)
  | (with_reducible refine k_sub ?_)
  | (with_reducible refine k_andV ?_)
  | (with_reducible refine k_orV ?_)
  | (with_reducible refine k_notV ?_)
  | (with_reducible refine k_ifE ?_)
  | (with_reducible refine k_chain ?_)
  | (with_reducible refine k_am0 ?_)
  | (with_reducible refine k_am1 ?_)
  | (with_reducible refine k_int ?_)
  | (with_reducible refine k_eqI ?_)
  | (with_reducible refine k_neI ?_)
  | (with_reducible refine k_eqB ?_)
  | (with_reducible refine k_neB ?_)
  | (with_reducible refine k_iaddI ?_)
  | (with_reducible refine k_lenT ?_)
  | (with_reducible refine k_lenL ?_)
  | (with_reducible refine k_tru ?_)
  | (with_reducible refine k_cont ?_)
  | (with_reducible refine k_brk ?_)
  | (with_reducible refine k_retN ?_)
  | (with_reducible refine k_callK ?_)
  | (with_reducible refine k_callS1 ?_)
  | (with_reducible refine k_star ?_)
  | (with_reducible refine k_itL ?_)
  | (with_reducible refine k_itT ?_)
  | (with_reducible refine k_isi ?_)
  | (with_reducible refine k_isiT ?_)
  | (with_reducible refine k_bm ?_)
  | (with_reducible refine k_tup ?_)
  | (with_reducible refine k_lstF ?_)
  | (with_reducible refine k_lstM ?_)
  | (with_reducible refine k_aug (by with_unfolding_all rfl) ?_)
  | (with_reducible refine k_iSv (by with_unfolding_all rfl) ?_)
  | (with_reducible refine k_ixt (by with_unfolding_all rfl) ?_)
  | (with_reducible refine k_at (by with_unfolding_all rfl) ?_)
  | (with_reducible refine k_fzn ‹_› ?_)
  | (refine And.intro (by exact sz (by simp)) ?_)))
section
variable {g : Nat} {rows : List Wsh} (g1 : 1 ≤ g) (g2 : g ≤ 10 ^ 18) (h : ∀ r ∈ rows, DR g r)
include g1 g2 h
end
end C02
end
section
/-! C05b: great numbers, any amounts (k00, k01, k03, k71) -/
namespace C05
open PySem PySem.Spec PyProof.Rows L2 L3 L4
open Rat (divInt)
open C13 (BagP)
local macro_rules | `(tactic| walk_at "st") => `(tactic| repeat (first
  | (with_reducible refine k_var (by with_unfolding_all rfl) ?_)
  | (with_reducible refine k_seq ?_)
  | (with_reducible refine k_cons ?_)
  | (with_reducible refine k_nil ?_)
  | (with_reducible refine k_c ?_)
  | (with_reducible refine k_op ?_)
  | (with_reducible refine k_asg ?_)
  | (with_reducible refine k_call ?_)
  | (with_reducible refine k_cb ?_)
  | (with_reducible refine k_i0 ?_)
  | (with_reducible refine k_addI ?_)
  | (with_reducible refine k_B ?_)
  | (with_reducible refine k_bk ?_)
  | (with_reducible refine k_if ?_)
  | (with_reducible refine k_ret ?_)
  | (with_reducible refine k_expr ?_)
  | (with_reducible refine k_next ?_)
  | (with_reducible refine k_not ?_)
  | (with_reducible refine k_and ?_)
  | (with_reducible refine k_or ?_)
  | (with_reducible refine k_ift ?_)
  | (with_reducible refine k_iff ?_)
  | (with_reducible refine k_ifnt ?_)
  | (with_reducible refine k_ifnf ?_)
  | (with_reducible refine k_fz ?_)
  | (with_reducible refine k_lc ?_)
  | (with_reducible refine k_dc ?_)
  | (with_reducible refine k_for ?_)
  | (with_reducible refine k_rng ?_)
  | (with_reducible refine k_iL ?_)
  | (with_reducible refine k_iLl ?_)
  | (with_reducible refine k_iT ?_)
  | (with_reducible refine k_iTt ?_)
  | (with_reducible refine k_zip ?_)
  | (with_reducible refine k_asgp ?_)
  | (with_reducible refine k_atn ?_)
  | (with_reducible refine k_par ?_)
  | (with_reducible refine k_parI ?_)
  | (with_reducible refine k_par3 ?_)
  | (with_reducible refine k_par3I ?_)
  | (with_reducible refine k_sub ?_)
  | (with_reducible refine k_andV ?_)
  | (with_reducible refine k_orV ?_)
  | (with_reducible refine k_notV ?_)
  | (with_reducible refine k_ifE ?_)
  | (with_reducible refine k_chain ?_)
  | (with_reducible refine k_am0 ?_)
  | (with_reducible refine k_am1 ?_)
  | (with_reducible refine k_int ?_)
  | (with_reducible refine k_eqI ?_)
  | (with_reducible refine k_neI ?_)
  | (with_reducible refine k_eqB ?_)
  | (with_reducible refine k_neB ?_)
  | (with_reducible refine k_iaddI ?_)
  | (with_reducible refine k_lenT ?_)
  | (with_reducible refine k_lenL ?_)
  | (with_reducible refine k_tru ?_)
  | (with_reducible refine k_cont ?_)
  | (with_reducible refine k_brk ?_)
  | (with_reducible refine k_retN ?_)
  | (with_reducible refine k_callK ?_)
  | (with_reducible refine k_callS1 ?_)
  | (with_reducible refine k_star ?_)
  | (with_reducible refine k_itL ?_)
  | (with_reducible refine k_itT ?_)
  | (with_reducible refine k_isi ?_)
  | (with_reducible refine k_isiT ?_)
  | (with_reducible refine k_bm ?_)
  | (with_reducible refine k_tup ?_)
  | (with_reducible refine k_lstF ?_)
  | (with_reducible refine k_lstM ?_)
  | (with_reducible refine k_aug (by with_unfolding_all rfl) ?_)
  | (with_reducible refine k_iSv (by with_unfolding_all rfl) ?_)
  | (with_reducible refine k_ixt (by with_unfolding_all rfl) ?_)
  | (with_reducible refine k_at (by with_unfolding_all rfl) ?_)
  | (with_reducible refine k_fzn ‹_› ?_)
  | (refine And.intro (by exact sz (by simp)) ?_)))
def sp_law_great : LSp := fun ds m Φ => ∃ b : Addr, ds = [.ref b] ∧ m b = some (.any BagP) ∧ ∀ n : Int, 0 ≤ n → n < 10 ^ 34 → Φ (.int n) m
/-- sizes of a drawn amount -/
structure Sz (q : Rat) : Prop where
  nn : 0 ≤ q
  n : q.num.natAbs.log2 < 120
  d : q.den.log2 < 120
def sp_law_amount : LSp := fun ds m Φ => ∃ b : Addr, ds = [.ref b] ∧ m b = some (.any BagP) ∧ ∀ q, Sz q → Φ (am q) m
/-- _law_great: 0 _law_bag_here, 1 _law_a, 2 _law_b, 3 _law_c -/
def qb_law_great : QS :=
  (sSeq (sAsg (.nm 1) (qCall sp_law_wide (qCons (qVar 0) (qCons (qC (.int 10)) qNil))))
    (sSeq (sAsg (.nm 2) (qCall sp_law_wide (qCons (qVar 0) (qCons (qC (.int 10)) qNil))))
    (sSeq (sAsg (.nm 3) (qCall sp_law_wide (qCons (qVar 0) (qCons (qC (.int 10)) qNil))))
    (sRet (qCall sp_law_of (qCons (qVar 0) (qCons (qLstF (qCons (qVar 1) (qCons (qOp qAdd (qOp (qIC CM fun i j => .int (i * j)) (qVar 1) (qOp qPow (qC (.int 10)) (qC (.int 10)))) (qVar 2)) (qCons (qOp qAdd (qOp (qIC CM fun i j => .int (i * j)) (qOp qAdd (qOp (qIC CM fun i j => .int (i * j)) (qVar 1) (qOp qPow (qC (.int 10)) (qC (.int 10)))) (qVar 2)) (qOp qPow (qC (.int 10)) (qC (.int 10)))) (qVar 3)) (qCons (qOp qAdd (qOp (qIC CM fun i j => .int (i * j)) (qOp qAdd (qOp (qIC CM fun i j => .int (i * j)) (qOp qAdd (qOp (qIC CM fun i j => .int (i * j)) (qVar 1) (qOp qPow (qC (.int 10)) (qC (.int 10)))) (qVar 2)) (qOp qPow (qC (.int 10)) (qC (.int 10)))) (qVar 3)) (qOp qPow (qC (.int 10)) (qC (.int 4)))) (qCall sp_law_draw (qCons (qVar 0) (qCons (qOp qPow (qC (.int 10)) (qC (.int 4))) qNil)))) qNil))))) qNil)))))))
/-- _law_amount: 0 _law_bag_here, 1 _law_shape -/
def qb_law_amount : QS :=
  (sSeq (sAsg (.nm 1) (qCall sp_law_draw (qCons (qVar 0) (qCons (qC (.int 8)) qNil))))
    (sSeq (sIf (qB (qOp vEq (qVar 1) (qC (.int 0)))) (sRet (qCall sp_law_of (qCons (qVar 0) (qCons (qLstF (qCons (qTup (qCons (qC (.int 0)) (qCons (qC (.int 1)) qNil))) (qCons (qTup (qCons (qC (.int 1)) (qCons (qC (.int 1)) qNil))) (qCons (qTup (qCons (qC (.int 1000)) (qCons (qC (.int 1)) qNil))) (qCons (qTup (qCons (qC (.int 1)) (qCons (qC (.int 12)) qNil))) (qCons (qTup (qCons (qC (.int 999)) (qCons (qC (.int 1)) qNil))) (qCons (qTup (qCons (qC (.int 1001)) (qCons (qC (.int 1)) qNil))) (qCons (qTup (qCons (qC (.int 12001)) (qCons (qC (.int 12)) qNil))) (qCons (qTup (qCons (qC (.int 1)) (qCons (qC (.int 13)) qNil))) (qCons (qTup (qCons (qC (.int 2)) (qCons (qC (.int 1)) qNil))) qNil)))))))))) qNil)))) sNext)
    (sSeq (sIf (qB (qOp (qI0 fun i j => .bl (decide (i < j))) (qVar 1) (qC (.int 5)))) (sRet (qCall sp_law_pair (qCons (qCall sp_law_draw (qCons (qVar 0) (qCons (qC (.int 40)) qNil))) (qCons (qOp qAdd (qC (.int 1)) (qCall sp_law_draw (qCons (qVar 0) (qCons (qC (.int 12)) qNil)))) qNil)))) sNext)
    (sSeq (sIf (qB (qOp vEq (qVar 1) (qC (.int 5)))) (sRet (qCall sp_law_pair (qCons (qCall sp_law_wide (qCons (qVar 0) (qCons (qC (.int 9)) qNil))) (qCons (qOp qAdd (qC (.int 1)) (qCall sp_law_draw (qCons (qVar 0) (qCons (qOp (qI0 fun i j => .int (i - j)) (qOp qPow (qC (.int 10)) (qC (.int 9))) (qC (.int 1))) qNil)))) qNil)))) sNext)
    (sSeq (sIf (qB (qOp vEq (qVar 1) (qC (.int 6)))) (sRet (qCall sp_law_pair (qCons (qCall sp_law_great (qCons (qVar 0) qNil)) (qCons (qOp qAdd (qC (.int 1)) (qCall sp_law_draw (qCons (qVar 0) (qCons (qC (.int 12)) qNil)))) qNil)))) sNext)
    (sRet (qCall sp_law_pair (qCons (qCall sp_law_great (qCons (qVar 0) qNil)) (qCons (qCB bMax2 (qCons (qC (.int 1)) (qCons (qCall sp_law_great (qCons (qVar 0) qNil)) qNil))) qNil)))))))))
theorem k_pow {i j : Int} {m : Mem} {Φ : DK} (c : CPow i j) (h : ∀ n : Int, n = i ^ j.toNat → Φ (.int n) m) : qPow (.int i) (.int j) m Φ := ⟨c, h⟩
theorem p10 : (10 : Int) ^ (Int.toNat 10) = 10000000000 := by decide
theorem p4 : (10 : Int) ^ (Int.toNat 4) = 10000 := by decide
theorem p9 : (10 : Int) ^ (Int.toNat 9) = 1000000000 := by decide
theorem sz_div {t w : Int} (h0 : 0 ≤ t) (h1 : t < 10 ^ 34) (w0 : 0 < w) (w1 : w < 10 ^ 35) : Sz (divInt t w) := by
  have a1 : (divInt t w).num.natAbs ≤ t.natAbs := by
    rw [Rat.num_divInt, Int.sign_eq_one_of_pos w0, Int.one_mul]
    exact Int.natAbs_ediv_le_natAbs _ _
  have a2 : (divInt t w).den ≤ w.natAbs := by
    rw [Rat.den_divInt, if_neg (by omega)]
    exact Nat.div_le_self _ _
  have b1 := log2_le (show (divInt t w).num.natAbs ≤ 10 ^ 34 by omega)
  have b2 := log2_le (show (divInt t w).den ≤ 10 ^ 35 by omega)
  have c1 : Nat.log2 (10 ^ 34) < 120 := by decide
  have c2 : Nat.log2 (10 ^ 35) < 120 := by decide
  exact ⟨divInt_nn h0 w0, by omega, by omega⟩
end C05
end
section
/-! LV3: totals do not jump; at a level the capacity is not passed -/
namespace LV
open PySem PySem.Spec PyProof.Rows L2 L3 L4 LF PS
open Rat (divInt)
def heavy (rows : List Wsh) : Rat := total (rows.map fun r => (r.2.1 : Rat))
/-- what is owed at nought -/
def owed (rows : List Wsh) : Rat := total ((rows.filter hasM).map ls)
end LV
end
section
/-! L4c: steps over slices, joined lists, lists of any kind -/
namespace L4
open PySem PySem.Spec PyProof.Rows L2 L3
section
variable {s : DSt} {m : Mem} {Φ : DK} {qe : QE} {ql qh : QO} {w x y : D} {xs ys : List D}
def SlK (x : D) (l u : Option Int) (m3 : Mem) (Φ : DK) : Prop := match x with
  | .lst ds => Φ (.lst (L3.cutD ds l u)) m3
  | .ref a => ∃ ds, m3 a = some (.lst ds) ∧ Φ (.lst (L3.cutD ds l u)) m3
  | _ => False
def PartK (x : D) (m1 : Mem) (F : Option Int → Mem → Prop) : Prop := match x with | .int i => F (some i) m1 | _ => False
end
end L4
end
section
/-! VA: values of any kind; sizes of amounts -/
namespace VA
open PySem PySem.Spec PyProof.Rows L2 L3 L4 LF LV PL PS C02
open Rat (divInt)
open C13 (BagP)
/-- sizes of an amount -/
structure Az (n : Nat) (q : Rat) : Prop where
  nn : 0 ≤ q
  t : q.num.natAbs.log2 < n
  d : q.den.log2 < n
/-- plain values of any kind, of bounded depth -/
def Pn : Nat → D → Prop
  | _, .non => True
  | _, .bl _ => True
  | _, .int i => i.natAbs.log2 < 400
  | _, .str z => PyData.strOk z = true
  | n + 1, .tup ds => ds.length < 1000 ∧ ∀ d ∈ ds, Pn n d
  | n + 1, .lst ds => ds.length < 1000 ∧ ∀ d ∈ ds, Pn n d
  | _, _ => False
def isNum : D → Bool
  | .int _ => true
  | _ => false
def isTup : D → Bool
  | .tup _ => true
  | _ => false
/-- an amount in lowest terms -/
noncomputable def isAm (d : D) : Bool := @decide (∃ q : Rat, 0 ≤ q ∧ d = am q) (Classical.propDecidable _)
noncomputable def isMn (d : D) : Bool := @decide (d = .tup [] ∨ ∃ p q : Rat, 0 ≤ p ∧ p ≤ q ∧ d = .tup [am p, am q]) (Classical.propDecidable _)
/-- isinstance of a plain value -/
def tyOf : D → String
  | .non => "NoneType" | .bl _ => "bool" | .int _ => "int" | .str _ => "str" | .tup _ => "tuple" | .lst _ => "list" | .ref _ => "list"
def isInt : D → Bool
  | .int _ => true | .bl _ => true | _ => false
def isBool : D → Bool
  | .bl _ => true | _ => false
def pnB : Nat → D → Bool
  | _, .non => true
  | _, .bl _ => true
  | _, .int i => decide (i.natAbs ≤ 100000)
  | _, .str z => PyData.strOk z
  | n + 1, .tup ds => decide (ds.length < 1000) && ds.all (pnB n)
  | n + 1, .lst ds => decide (ds.length < 1000) && ds.all (pnB n)
  | _, _ => false
end VA
end
section
/-! L3t: texts: str(i), int(x), f-strings, partition, a text walked, a sign in a text -/
namespace L3
open PySem PySem.Spec PyProof.Rows L2
section
variable {X : Cx}
def bStr : LSp := fun ds m Φ => match ds with | [.int i] => i.natAbs.log2 < 1920 ∧ Φ (.str (toString i)) m | _ => False
def bIntS : LSp := fun ds m Φ => match ds with | [.str a] => ∃ n, PySem.intText? a = some n ∧ a.length ≤ 640 ∧ Φ (.int n) m | _ => False
/-! ### f-strings -/
def FmtK (x : D) (m1 : Mem) (Φ : DK) : Prop := match x with
  | .str y => y.length ≤ sizeLine ∧ Φ (.str y) m1
  | .int i => i.natAbs.log2 < 1920 ∧ Φ (.str (toString i)) m1
  | _ => False
def qFmt (qe : QE) : QE := fun s m Φ => qe s m fun x m1 => FmtK x m1 Φ
def qJs : List QE → Str → DSt → Mem → (Str → Mem → Prop) → Prop
  | [], acc, _, m, F => F acc m
  | q :: qs, acc, s, m, F => q s m fun x m1 => ∃ y, x = .str y ∧ (acc ++ y).length ≤ sizeLine ∧ qJs qs (acc ++ y) s m1 F
def qJoin (qs : List QE) : QE := fun s m Φ => qJs qs Str.empty s m fun out m1 => Φ (.str out) m1
inductive PJD (X : Cx) : List Expr → List QE → Prop where
  | nil : PJD X [] []
  | cons {e : Expr} {q : QE} {es : List Expr} {qs : List QE} (h : PE X e (liftE X.K q)) (r : PJD X es qs) : PJD X (e :: es) (q :: qs)
/-! ### partition -/
def PartnK (x y : D) (m : Mem) (Φ : DK) : Prop := match x, y with
  | .str a, .str b => (b.length == 0) = false ∧ a.length ≤ sizeLine ∧ Φ (.tup [.str (Txt.partition a b).1, .str (Txt.partition a b).2.1, .str (Txt.partition a b).2.2]) m
  | _, _ => False
def qPartn (qo qe : QE) : QE := fun s m Φ => qo s m fun x m1 => (∃ a, x = .str a) ∧ qe s m1 fun y m2 => PartnK x y m2 Φ
/-! ### a text walked, a sign in a text -/
def signs (z : Str) : List D := z.cps.toList.map fun c => .str ⟨#[c]⟩
def StrK (x : D) (m1 : Mem) (Ξ : List D → (Mem → Prop) → Mem → Prop) : Prop := match x with
  | .str z => Ξ (signs z) (fun _ => True) m1
  | _ => False
def iSigns (qe : QE) : QI := fun s m Φ => qe s m fun x m1 => StrK x m1 Φ
def vInS : D → D → Mem → DK → Prop := fun x y m Φ => match x, y with
  | .str ⟨⟨[c]⟩⟩, .str z => Φ (.bl (decide (c ∈ z.cps.toList))) m
  | _, _ => False
end
section
variable {s : DSt} {m : Mem} {Φ : DK} {qe qo : QE}
end
end L3
namespace L3
open PySem PySem.Spec PyProof.Rows L2
/-- a list times an int -/
def qRep : D → D → Mem → DK → Prop := fun x y m Φ => match x, y with
  | .ref a, .int k => ∃ xs, m a = some (.lst xs) ∧ -(2 ^ 63) ≤ k ∧ k < 2 ^ 63 ∧ xs.length * k.toNat ≤ sizeLine ∧ ∀ p, m p = none → Φ (.ref p) (mset m p (.lst (List.replicate k.toNat xs).flatten))
  | _, _ => False
end L3
namespace L3
open PySem PySem.Spec PyProof.Rows L2
end L3
end
section
/-! VL: the laws' own comparison of values, texts among them -/
namespace VL
open PySem PySem.Spec PyProof.Rows L2 L3 L4
local macro_rules | `(tactic| walk_at "st") => `(tactic| repeat (first
  | (with_reducible refine k_var (by with_unfolding_all rfl) ?_)
  | (with_reducible refine k_seq ?_)
  | (with_reducible refine k_cons ?_)
  | (with_reducible refine k_nil ?_)
  | (with_reducible refine k_c ?_)
  | (with_reducible refine k_op ?_)
  | (with_reducible refine k_asg ?_)
  | (with_reducible refine k_call ?_)
  | (with_reducible refine k_cb ?_)
  | (with_reducible refine k_i0 ?_)
  | (with_reducible refine k_addI ?_)
  | (with_reducible refine k_B ?_)
  | (with_reducible refine k_bk ?_)
  | (with_reducible refine k_if ?_)
  | (with_reducible refine k_ret ?_)
  | (with_reducible refine k_expr ?_)
  | (with_reducible refine k_next ?_)
  | (with_reducible refine k_not ?_)
  | (with_reducible refine k_and ?_)
  | (with_reducible refine k_or ?_)
  | (with_reducible refine k_ift ?_)
  | (with_reducible refine k_iff ?_)
  | (with_reducible refine k_ifnt ?_)
  | (with_reducible refine k_ifnf ?_)
  | (with_reducible refine k_fz ?_)
  | (with_reducible refine k_lc ?_)
  | (with_reducible refine k_dc ?_)
  | (with_reducible refine k_for ?_)
  | (with_reducible refine k_rng ?_)
  | (with_reducible refine k_iL ?_)
  | (with_reducible refine k_iLl ?_)
  | (with_reducible refine k_iT ?_)
  | (with_reducible refine k_iTt ?_)
  | (with_reducible refine k_zip ?_)
  | (with_reducible refine k_asgp ?_)
  | (with_reducible refine k_atn ?_)
  | (with_reducible refine k_par ?_)
  | (with_reducible refine k_parI ?_)
  | (with_reducible refine k_par3 ?_)
  | (with_reducible refine k_par3I ?_)
  | (with_reducible refine k_sub ?_)
  | (with_reducible refine k_andV ?_)
  | (with_reducible refine k_orV ?_)
  | (with_reducible refine k_notV ?_)
  | (with_reducible refine k_ifE ?_)
  | (with_reducible refine k_chain ?_)
  | (with_reducible refine k_am0 ?_)
  | (with_reducible refine k_am1 ?_)
  | (with_reducible refine k_int ?_)
  | (with_reducible refine k_eqI ?_)
  | (with_reducible refine k_neI ?_)
  | (with_reducible refine k_eqB ?_)
  | (with_reducible refine k_neB ?_)
  | (with_reducible refine k_iaddI ?_)
  | (with_reducible refine k_lenT ?_)
  | (with_reducible refine k_lenL ?_)
  | (with_reducible refine k_tru ?_)
  | (with_reducible refine k_cont ?_)
  | (with_reducible refine k_brk ?_)
  | (with_reducible refine k_retN ?_)
  | (with_reducible refine k_callK ?_)
  | (with_reducible refine k_callS1 ?_)
  | (with_reducible refine k_star ?_)
  | (with_reducible refine k_itL ?_)
  | (with_reducible refine k_itT ?_)
  | (with_reducible refine k_isi ?_)
  | (with_reducible refine k_isiT ?_)
  | (with_reducible refine k_bm ?_)
  | (with_reducible refine k_tup ?_)
  | (with_reducible refine k_lstF ?_)
  | (with_reducible refine k_lstM ?_)
  | (with_reducible refine k_aug (by with_unfolding_all rfl) ?_)
  | (with_reducible refine k_iSv (by with_unfolding_all rfl) ?_)
  | (with_reducible refine k_ixt (by with_unfolding_all rfl) ?_)
  | (with_reducible refine k_at (by with_unfolding_all rfl) ?_)
  | (with_reducible refine k_fzn ‹_› ?_)
  | (refine And.intro (by exact sz (by simp <;> omega)) ?_)
  | fail))
/-- plain values, texts among them, of bounded depth -/
def flatS : Nat → D → Prop
  | _, .non => True
  | _, .bl _ => True
  | _, .int _ => True
  | _, .str z => PyData.strOk z = true
  | n + 1, .tup ds => ds.length < 1000000 ∧ ∀ d ∈ ds, flatS n d
  | n + 1, .lst ds => ds.length < 1000000 ∧ ∀ d ∈ ds, flatS n d
  | _, _ => False
theorem flatS_am {n : Nat} (q : Rat) : flatS (n + 1) (am q) := ⟨by show 2 < 1000000; decide, fun d hd => by
  simp only [List.mem_cons, List.not_mem_nil, or_false] at hd
  rcases hd with rfl | rfl <;> (cases n <;> trivial)⟩
theorem flatS_bl {n : Nat} (b : Bool) : flatS n (.bl b) := by cases n <;> trivial
theorem flatS_int {n : Nat} (i : Int) : flatS n (.int i) := by cases n <;> trivial
theorem flatS_non {n : Nat} : flatS n .non := by cases n <;> trivial
theorem flatS_str {n : Nat} {z : Str} (h : PyData.strOk z = true) : flatS n (.str z) := by cases n <;> exact h
def sp_law_like : Nat → LSp
  | 0 => fun _ _ _ => False
  | n + 1 => fun ds m Φ => ∃ x y, ds = [x, y] ∧ ((x = y ∧ flatS n x) ∨ ∃ k xs, n = k + 1 ∧ LItems x m xs ∧ LItems y m xs ∧ xs.length < 1000000 ∧ ∀ d ∈ xs, flatS k d) ∧ Φ (.bl true) m
/-- _law_like: 0 _law_told, 1 _law_due, 2 _law_a, 3 _law_b -/
def qb_law_like (n : Nat) : QS :=
  (sSeq (sIf (qB (qIsiT ["list", "tuple"] (qVar 1))) (sSeq (sIf (qOr (qB (qOp vNe (qIsi "list" (qVar 0)) (qIsi "list" (qVar 1)))) (qB (qOp vNe (qIsi "tuple" (qVar 0)) (qIsi "tuple" (qVar 1))))) (sRet (qC (.bl false))) sNext)
    (sRet (qAndV (qOp vEq (qCB bLen (qCons (qVar 0) qNil)) (qCB bLen (qCons (qVar 1) qNil))) (qCB bAll (qCons (qFreeze (qLc (iZipD (qCons (qVar 0) (qCons (qVar 1) qNil))) (.tp [(.nm 2), (.nm 3)]) qYes (qCall (sp_law_like n) (qCons (qVar 2) (qCons (qVar 3) qNil))) [2, 3])) qNil))))) sNext)
    (sSeq (sIf (qOr (qB (qOp qIsN (qVar 1) (qC .non))) (qB (qOp qIsN (qVar 0) (qC .non)))) (sRet (qAndV (qOp qIsN (qVar 1) (qC .non)) (qOp qIsN (qVar 0) (qC .non)))) sNext)
    (sSeq (sIf (qOr (qB (qIsiT ["list", "tuple"] (qVar 0))) (qB (qOp vNe (qIsi "bool" (qVar 0)) (qIsi "bool" (qVar 1))))) (sRet (qC (.bl false))) sNext)
    (sSeq (sIf (qOr (qB (qOp vNe (qIsi "str" (qVar 0)) (qIsi "str" (qVar 1)))) (qB (qOp vNe (qIsi "int" (qVar 0)) (qIsi "int" (qVar 1))))) (sRet (qC (.bl false))) sNext)
    (sRet (qOp vEq (qVar 0) (qVar 1)))))))
theorem len_law_like : ∀ n, ∀ ds m Φ, sp_law_like n ds m Φ → ds.length = 2
  | 0 => fun _ _ _ h => h.elim
  | _ + 1 => by rintro _ _ _ ⟨_, _, rfl, _⟩; rfl
theorem like_zip {n : Nat} {Φ : DK} {m : Mem} {x y : D} {C : Mem → Prop} {ds : List D} (hC : ∀ a o, m a = none → C (mset m a o)) (hl : ds.length < 1000000) (hf : ∀ d ∈ ds, flatS n d) (k : Φ (.bl true) m) :
    LcIn (.tp [.nm 2, .nm 3]) qYes (qCall (sp_law_like (n + 1)) (qCons (qVar 2) (qCons (qVar 3) qNil))) [some x, some y, none, none] (zipD ds ds) C m (fun d m1 => match d with
      | .ref a => ∃ ds, m1 a = some (.lst ds) ∧ qCB bAll (qCons (qC (.lst ds)) qNil) [] (mdel m1 a) (bodyW Φ).rt
      | _ => False) := by
  refine lc_by (fun i acc => acc = List.replicate i (.bl true)) rfl hC ?_ ?_
  · rintro i d acc a ha hd hl' rfl
    obtain ⟨y, hy, rfl⟩ := zip_self ds hd
    have hi : i < ds.length := by
      have := (List.getElem?_eq_some_iff.mp hd).1
      rw [zipD_length] at this; omega
    refine qif_t rfl ⟨y, y, rfl, .inl ⟨rfl, hf y hy⟩, ?_⟩
    exact lc_ok hl' (by show i < 16777216; omega) (by rw [List.replicate_succ'])
  · rintro acc a ha hl' rfl
    refine ⟨_, mset_same, ?_⟩
    rw [mdel_mset ha]
    refine ⟨List.replicate (zipD ds ds).length true, by rw [List.map_replicate], ?_⟩
    rw [all_true]
    exact wk_at k
theorem like_list {n : Nat} {m : Mem} {Φ : DK} {x y : D} {xs : List D} (lx : LItems x m xs) (ly : LItems y m xs) (hl : xs.length < 1000000) (hf : ∀ d ∈ xs, flatS n d) (k : Φ (.bl true) m) : qb_law_like (n + 1) (bodyW Φ) (begin_ 4 [x, y]) m := by
  refine ⟨"list", true, LItems.ty ly, rfl, qif_t rfl ?_⟩
  refine ⟨"list", true, LItems.ty lx, rfl, "list", true, LItems.ty ly, rfl, qif_f rfl ⟨"list", false, LItems.ty lx, rfl, "list", false, LItems.ty ly, rfl, qif_f rfl ?_⟩⟩
  walk_at "st"
  refine k_len lx.to ?_
  walk_at "st"
  refine k_len ly.to ?_
  walk_at "st"
  refine qif_t (decide_eq_true rfl) ?_
  walk_at "st"
  refine k_zipi lx ly fun C hC => ?_
  walk_at "st"
  exact like_zip (fun a o ha => hC _ (lx.new ha) (ly.new ha)) hl hf k
theorem rd_law_like (n : Nat) : ∀ ds m Φ, sp_law_like (n + 1) ds m Φ → qb_law_like n (bodyW Φ) (begin_ 4 ds) m := by
  rintro _ m Φ ⟨x, y, rfl, h, k⟩
  rcases h with ⟨rfl, hf⟩ | ⟨j, xs, rfl, lx, ly, hl, hf⟩
  · cases x with
    | int i =>
      refine ⟨"int", false, rfl, rfl, qif_f rfl ?_⟩
      refine qif_f rfl (qif_f rfl ?_)
      refine ⟨"int", false, rfl, rfl, qif_f rfl ⟨"int", false, rfl, rfl, "int", false, rfl, rfl, qif_f rfl ?_⟩⟩
      refine ⟨"int", false, rfl, rfl, "int", false, rfl, rfl, qif_f rfl ⟨"int", true, rfl, rfl, "int", true, rfl, rfl, qif_f rfl ?_⟩⟩
      show ∃ m', MLe m m' ∧ Φ (.bl (decide (i = i))) m'
      rw [decide_eq_true rfl]
      exact wk_at k
    | bl i =>
      refine ⟨"bool", false, rfl, rfl, qif_f rfl ?_⟩
      refine qif_f rfl (qif_f rfl ?_)
      refine ⟨"bool", false, rfl, rfl, qif_f rfl ⟨"bool", true, rfl, rfl, "bool", true, rfl, rfl, qif_f rfl ?_⟩⟩
      refine ⟨"bool", false, rfl, rfl, "bool", false, rfl, rfl, qif_f rfl ⟨"bool", true, rfl, rfl, "bool", true, rfl, rfl, qif_f rfl ?_⟩⟩
      show ∃ m', MLe m m' ∧ Φ (.bl (decide (i = i))) m'
      rw [decide_eq_true rfl]
      exact wk_at k
    | non =>
      refine ⟨"NoneType", false, rfl, rfl, qif_f rfl ?_⟩
      refine qif_t rfl (qif_t rfl ?_)
      exact qif_t rfl (wk_at k)
    | str z =>
      have hz : PyData.strOk z = true := by cases n <;> exact hf
      refine ⟨"str", false, rfl, rfl, qif_f rfl ?_⟩
      refine qif_f rfl (qif_f rfl ?_)
      refine ⟨"str", false, rfl, rfl, qif_f rfl ⟨"str", false, rfl, rfl, "str", false, rfl, rfl, qif_f rfl ?_⟩⟩
      refine ⟨"str", true, rfl, rfl, "str", true, rfl, rfl, qif_f rfl ⟨"str", false, rfl, rfl, "str", false, rfl, rfl, qif_f rfl ?_⟩⟩
      exact k_eqC (x := .str z) (y := .str z) (Φ := (bodyW Φ).rt) 0 (by decide) hz hz fun b hb => by
        rw [hb.mpr rfl]
        exact wk_at k
    | ref a => cases n <;> exact hf.elim
    | tup ds =>
      cases n with
      | zero => exact hf.elim
      | succ n =>
        obtain ⟨hl, hf⟩ := hf
        refine ⟨"tuple", true, rfl, rfl, qif_t rfl ?_⟩
        refine ⟨"tuple", false, rfl, rfl, "tuple", false, rfl, rfl, qif_f rfl ⟨"tuple", true, rfl, rfl, "tuple", true, rfl, rfl, qif_f rfl ?_⟩⟩
        refine qif_t (decide_eq_true rfl) ?_
        exact like_zip (fun _ _ _ => trivial) hl hf k
    | lst ds =>
      cases n with
      | zero => exact hf.elim
      | succ n => exact like_list (.inl rfl) (.inl rfl) hf.1 hf.2 k
  · exact like_list lx ly hl hf k
end VL
end
section
/-! VT: texts of amounts -/
namespace VT
open PySem PySem.Spec PyProof.Rows L2 L3 L4 VA
open Rat (divInt)
def tx (n : Nat) : Str := Str.ofString (toString ((n : Nat) : Int))
/-- an amount as a text -/
def shw (q : Rat) : Str := if q.den = 1 then Str.ofString (toString q.num) else Str.empty ++ Str.ofString (toString q.num) ++ ("/" : Str) ++ Str.ofString (toString (q.den : Int))
abbrev sl : Str := "/"
end VT
end
section
/-! L3w: own ==, isinstance of own classes, C(.., k = v, ..), dicts with tuple keys, slices and joins of texts -/
namespace L3
open PySem PySem.Spec PyProof.Rows L2
section
variable {X : Cx}
/-! ### x == y by an own __eq__ -/
def vEqO (C : Addr) (sp : LSp) : D → D → Mem → DK → Prop := fun x y m Φ => match x, y with
  | .ref a, .ref b => (∃ fs, m a = some (.ins C fs)) ∧ (∃ gs, m b = some (.ins C gs)) ∧ sp [.ref a, .ref b] m fun d m1 => match d with | .bl c => Φ (.bl c) m1 | _ => False
  | _, _ => False
/-! ### isinstance of an instance of an own class -/
def qIsC (C : Addr) (b : Bool) (qe : QE) : QE := fun s m Φ => qe s m fun x m1 => match x with
  | .ref a => (∃ fs, m1 a = some (.ins C fs)) ∧ Φ (.bl b) m1
  | _ => False
/-! ### texts -/
def qSlS (qe : QE) (ql qh : QO) : QE := fun s m Φ => qe s m fun x m1 => ql s m1 fun l m2 => qh s m2 fun u m3 => match x with
  | .str z => z.length ≤ sizeLine ∧ Φ (.str (cutS z l u)) m3
  | _ => False
/-- a.join(xs), xs a list that never changes -/
def qJoinL (qo qe : QE) : QE := fun s m Φ => qo s m fun x m1 => (∃ a, x = .str a) ∧ qe s m1 fun y m2 => match x, y with
  | .str a, .lst ds => ∃ ys : List Str, ds = ys.map D.str ∧ (ys.map (·.length)).sum + ys.length * a.length ≤ 16777216 ∧ Φ (.str (Txt.join a ys)) m2
  | _, _ => False
theorem de_join {o e : Expr} {qo qe : QE} {apos pos : Pos} (ho : PE X o (liftE X.K qo)) (he : PE X e (liftE X.K qe)) (hs : starEach [e] X.env = [(false, eval e X.env)] := by rfl) (hbase : attributeBase o "join" X.env (eval o X.env) = eval o X.env := by rfl) (hline : (apos.endLine == pos.line) = true := by rfl) :
    PE X (.Call (.Attribute o "join" apos) [e] [] pos) (liftE X.K (qJoinL qo qe)) :=
  pe_imp (pe_join ho he hs hbase hline) fun σ H Q ⟨G, s, m, Φ, rm, rs, q, k⟩ => ⟨G, s, m, _, rm, rs, q, fun G1 x m1 v H1 e1 r1 rx q1 => by
    obtain ⟨⟨a, rfl⟩, q1⟩ := q1
    obtain rfl : v = .str a := rx
    exact ⟨⟨a, rfl⟩, G1, s, m1, _, r1, rs.mono e1, q1, fun G2 y m2 w H2 e2 r2 ry q2 => by
      cases y with
      | lst ds =>
        obtain ⟨ys, rfl, hz, q2⟩ := q2
        obtain ⟨p, xs, rfl, h1, h2⟩ := ry
        have e := h2.strs
        subst e
        exact ⟨a, p, ys, rfl, rfl, .inl (r2.sub.l h1), hz, k G2 (.str _) m2 _ H2 (e1.trans e2) r2 rfl q2⟩
      | _ => exact q2.elim⟩⟩
/-- a.index(b), there -/
def mIndexS : D → LSp := fun x ds m Φ => match x, ds with
  | .str a, [.str b] => ∃ (i : Nat) (rest : List Nat), Builtin.Str.occurrences a b 0 a.length 1 = i :: rest ∧ Φ (.int (i : Nat)) m
  | _, _ => False
/-- len(set(xs)), xs a list or tuple of no text or one -/
def qLenSet (qe : QE) : QE := fun s m Φ => qe s m fun x m1 => match x with
  | .lst ds => ∃ ys : List Str, ds = ys.map D.str ∧ ys.length ≤ 1 ∧ Φ (.int ys.length) m1
  | .tup ds => ∃ ys : List Str, ds = ys.map D.str ∧ ys.length ≤ 1 ∧ Φ (.int ys.length) m1
  | _ => False
/-! ### C(e, .., k = v, ..) -/
def qMakeK (C : Addr) (sp : LSp) (n kk : Nat) (is : List Nat) (qa qk : QA) : QE := fun s m Φ => qa s m fun ds m1 => qk s m1 fun es m2 => (ds.length = n ∧ es.length = kk) ∧ ∀ a, m2 a = none → sp (pick is (.ref a :: (ds ++ es))) (mset m2 a (.ins C [])) fun d m3 => match d with | .non => Φ (.ref a) m3 | _ => False
structure KwM (K : PySem.W.Frag) (fd : FuncData) (ps ks : List Str) (n : Nat) (is : List Nat) : Prop where
  kb : KBn K fd ps (n + 1) ks (fun us ws => pick is (us ++ ws)) (fun vs zs => pick is (vs ++ zs))
theorem kwm_of {K : PySem.W.Frag} {fd : FuncData} {ps ks : List Str} {n : Nat} {is : List Nat} (h : ∀ (us ws : List Value), us.length = n + 1 → ws.length = ks.length → bindArgs fd ⟨us, ks.zip ws⟩ = pure (ps.zip (pick is (us ++ ws)))) : KwM K fd ps ks n is :=
  ⟨⟨fun s us ws _ h1 h2 => .of_eq (h us ws h1 h2), fun r rz => Vals.pick (r.append rz) is⟩⟩
/-! ### dicts with tuple keys -/
/-- {(..): v} -/
def qDispT1 (qa : QA) (qv : QE) : QE := fun s m Φ => ∀ p, m p = none → qa s (mset m p (.dT [])) fun ds m1 => ds.length ≤ sizeLine ∧ qv s m1 fun y m2 => m2 p = some (.dT []) ∧ ∃ k, keysD ds = some k ∧ Φ (.ref p) (mset m2 p (.dT [(k, y)]))
/-- d.get((..), z) -/
def qDGetT (qd : QE) (qa : QA) (qz : QE) : QE := fun s m Φ => qd s m fun x m1 => match x with
  | .ref a => (∃ ks, m1 a = some (.dT ks)) ∧ qa s m1 fun ds m2 => ds.length ≤ sizeLine ∧ qz s m2 fun z m3 => ∃ ks k, m3 a = some (.dT ks) ∧ keysD ds = some k ∧ Φ ((valD ks k).getD z) m3
  | _ => False
/-- {k: v}, the key a tuple that was just made -/
def tDispT1 (tk tv : TE) : TE := fun σ H Q => ∀ p, H p = none → tk σ (upd H p (.dT [])) fun x H1 => tv σ H1 fun y H2 => H2 p = some (.dT []) ∧ ∃ (ks : List Key) (b : Addr), x = .ref b ∧ H2 b = some (.tup (ks.map kV)) ∧ Q (.ref p) (upd H2 p (.dT [(ks, y)]))
/-! ### a text in a list or tuple of texts; texts as constants of the module -/
def vInX (neg : Bool) : D → D → Mem → DK → Prop := fun x y m Φ => match x, y with
  | .str w, .tup ds => ∃ ys : List Str, ds = ys.map D.str ∧ Φ (.bl (if neg then !decide (w ∈ ys) else decide (w ∈ ys))) m
  | .str w, .lst ds => ∃ ys : List Str, ds = ys.map D.str ∧ Φ (.bl (if neg then !decide (w ∈ ys) else decide (w ∈ ys))) m
  | _, _ => False
theorem RVs.of_strs {K : PySem.W.Frag} {G : Hp} : ∀ (ys : List Str), RVs K G (ys.map D.str) (ys.map V.str)
  | [] => rfl
  | y :: ys => ⟨_, _, rfl, rfl, RVs.of_strs ys⟩
end
end L3
end
section
/-! PF: the program's flows: checks, the constructor, own == -/
namespace PF
open PySem PySem.Spec PyProof.Rows L2 L3 L4 LV PL PS VA
open Rat (divInt)
local macro_rules | `(tactic| walk_at "st") => `(tactic| repeat (first
  | (with_reducible refine k_var (by with_unfolding_all rfl) ?_)
  | (with_reducible refine k_seq ?_)
  | (with_reducible refine k_cons ?_)
  | (with_reducible refine k_nil ?_)
  | (with_reducible refine k_c ?_)
  | (with_reducible refine k_op ?_)
  | (with_reducible refine k_asg ?_)
  | (with_reducible refine k_call ?_)
  | (with_reducible refine k_cb ?_)
  | (with_reducible refine k_i0 ?_)
  | (with_reducible refine k_addI ?_)
  | (with_reducible refine k_B ?_)
  | (with_reducible refine k_bk ?_)
  | (with_reducible refine k_if ?_)
  | (with_reducible refine k_ret ?_)
  | (with_reducible refine k_expr ?_)
  | (with_reducible refine k_next ?_)
  | (with_reducible refine k_not ?_)
  | (with_reducible refine k_and ?_)
  | (with_reducible refine k_or ?_)
  | (with_reducible refine k_ift ?_)
  | (with_reducible refine k_iff ?_)
  | (with_reducible refine k_ifnt ?_)
  | (with_reducible refine k_ifnf ?_)
  | (with_reducible refine k_fz ?_)
  | (with_reducible refine k_lc ?_)
  | (with_reducible refine k_dc ?_)
  | (with_reducible refine k_for ?_)
  | (with_reducible refine k_rng ?_)
  | (with_reducible refine k_iL ?_)
  | (with_reducible refine k_iLl ?_)
  | (with_reducible refine k_iT ?_)
  | (with_reducible refine k_iTt ?_)
  | (with_reducible refine k_zip ?_)
  | (with_reducible refine k_asgp ?_)
  | (with_reducible refine k_atn ?_)
  | (with_reducible refine k_par ?_)
  | (with_reducible refine k_parI ?_)
  | (with_reducible refine k_par3 ?_)
  | (with_reducible refine k_par3I ?_)
  | (with_reducible refine k_sub ?_)
  | (with_reducible refine k_andV ?_)
  | (with_reducible refine k_orV ?_)
  | (with_reducible refine k_notV ?_)
  | (with_reducible refine k_ifE ?_)
  | (with_reducible refine k_chain ?_)
  | (with_reducible refine k_am0 ?_)
  | (with_reducible refine k_am1 ?_)
  | (with_reducible refine k_int ?_)
  | (with_reducible refine k_eqI ?_)
  | (with_reducible refine k_neI ?_)
  | (with_reducible refine k_eqB ?_)
  | (with_reducible refine k_neB ?_)
  | (with_reducible refine k_iaddI ?_)
  | (with_reducible refine k_lenT ?_)
  | (with_reducible refine k_lenL ?_)
  | (with_reducible refine k_tru ?_)
  | (with_reducible refine k_cont ?_)
  | (with_reducible refine k_brk ?_)
  | (with_reducible refine k_retN ?_)
  | (with_reducible refine k_callK ?_)
  | (with_reducible refine k_callS1 ?_)
  | (with_reducible refine k_star ?_)
  | (with_reducible refine k_itL ?_)
  | (with_reducible refine k_itT ?_)
  | (with_reducible refine k_isi ?_)
  | (with_reducible refine k_isiT ?_)
  | (with_reducible refine k_bm ?_)
  | (with_reducible refine k_tup ?_)
  | (with_reducible refine k_lstF ?_)
  | (with_reducible refine k_lstM ?_)
  | (with_reducible refine k_aug (by with_unfolding_all rfl) ?_)
  | (with_reducible refine k_iSv (by with_unfolding_all rfl) ?_)
  | (with_reducible refine k_ixt (by with_unfolding_all rfl) ?_)
  | (with_reducible refine k_at (by with_unfolding_all rfl) ?_)
  | (with_reducible refine k_fzn ‹_› ?_)
  | (refine And.intro (by exact sz (by simp <;> omega)) ?_)
  | fail))
/-! ### what is right -/
/-- small amounts -/
structure Sm (q : Rat) : Prop where
  nn : 0 ≤ q
  le : q ≤ 1000
  d : q.den ≤ 12
/-- sizes of water -/
structure Ws (q : Rat) : Prop where
  nn : 0 ≤ q
  le : q ≤ 1000000
  az : Az 60 q
structure Nm (z : Str) : Prop where
  l1 : 1 ≤ z.length
  l6 : z.length ≤ 6
  ab : ∀ c ∈ z.cps.toList, 97 ≤ c ∧ c ≤ 122
def KindOk (k : Str) (s : D) : Prop := (k = "window" ∧ ∃ q, s = am q ∧ Ws q) ∨ (k = "probe" ∧ ∃ i : Int, s = .int i ∧ 1 ≤ i ∧ i ≤ 12) ∨ ((k = "level" ∨ k = "eager") ∧ s = .non)
def MannOk (mm : Option (Rat × Rat)) (g G : Rat) : Prop := ∀ p, mm = some p → 0 ≤ p.1 ∧ p.1 ≤ p.2 ∧ p.1 ≤ g ∧ p.2 ≤ G ∧ Az 400 p.1 ∧ Az 400 p.2
/-- the values of a flow -/
structure FV where
  name : Str
  names : List Str
  bufs : List Rat
  kind : Str
  size : D
  w : Int
  g : Rat
  G : Rat
  door : Rat
  way : Int
  mm : Option (Rat × Rat)
  odd : Bool
def FV.fs1 (v : FV) : List (Str × D) := [("name", .str v.name), ("route", .tup (v.names.map D.str)), ("last", .int (v.names.map D.str).length), ("buffers", .tup (v.bufs.map am)), ("kind", .str v.kind), ("size", v.size), ("weight", .int v.w)]
def FV.fs (v : FV) : List (Str × D) := [("name", .str v.name), ("route", .tup (v.names.map D.str)), ("last", .int (v.names.map D.str).length), ("buffers", .tup (v.bufs.map am)), ("kind", .str v.kind), ("size", v.size), ("weight", .int v.w), ("least", am v.g), ("cap", am v.G), ("door", am v.door), ("way", .int v.way), ("manner", mannD v.mm), ("strange", .bl v.odd)]
structure FV.Wok (v : FV) : Prop where
  sg : Sm v.g
  sG : Sm v.G
  gG : v.g ≤ v.G
  sd : Sm v.door
  Gd : v.G ≤ v.door
  y1 : 1 ≤ v.way
  y2 : v.way ≤ 20
  mo : MannOk v.mm v.g v.G
structure FV.Ok (v : FV) : Prop extends v.Wok where
  nm : Nm v.name
  nms : ∃ z, v.names = [z] ∧ Nm z
  bl : v.bufs.length = v.names.length
  bo : ∀ q ∈ v.bufs, Ws q
  kd : KindOk v.kind v.size
  w1 : 1 ≤ v.w
  w2 : v.w ≤ 12
/-! ### specs -/
abbrev sp_is_number : LSp := PL.sp_is_number
abbrev sp_compare : LSp := PA.sp_compare
def sp_is_amount : LSp := fun ds m Φ => ∃ q : Rat, ds = [am q] ∧ 0 ≤ q ∧ Φ (.bl true) m
def sp_is_small : LSp := fun ds m Φ => ∃ q : Rat, ds = [am q] ∧ Sm q ∧ Φ (.bl true) m
def sp_is_between : LSp := fun ds m Φ => ∃ i j k : Int, ds = [.int i, .int j, .int k] ∧ j ≤ i ∧ i ≤ k ∧ Φ (.bl true) m
def sp_is_wide_manner : LSp := fun ds m Φ => ∃ mm : Option (Rat × Rat), ds = [mannD mm] ∧ (∀ p, mm = some p → 0 ≤ p.1 ∧ 0 ≤ p.2) ∧ Φ (.bl true) m
def sp_is_manner : LSp := fun ds m Φ => ∃ mm : Option (Rat × Rat), ds = [mannD mm] ∧ (∀ p, mm = some p → 0 ≤ p.1 ∧ p.1 ≤ p.2 ∧ Bg p.1 ∧ Bg p.2) ∧ Φ (.bl true) m
def sp_may_wish : LSp := fun ds m Φ => ∃ (mm : Option (Rat × Rat)) (g G : Rat), ds = [mannD mm, am g, am G] ∧ MannOk mm g G ∧ Bg g ∧ Bg G ∧ Φ (.bl true) m
def sp_is_name : LSp := fun ds m Φ => ∃ z : Str, ds = [.str z] ∧ Nm z ∧ Φ (.bl true) m
def sp_is_row : LSp := fun ds m Φ => ∃ (w : D) (xs : List D), ds = [w] ∧ ItemsAt w m xs ∧ Φ (.bl true) m
def sp_is_route : LSp := fun ds m Φ => ∃ z : Str, ds = [.lst [.str z]] ∧ Nm z ∧ Φ (.bl true) m
def sp_is_water_size : LSp := fun ds m Φ => ∃ q : Rat, ds = [am q] ∧ Ws q ∧ Φ (.bl true) m
def sp_are_buffers : LSp := fun ds m Φ => ∃ (w : D) (qs : List Rat), ds = [w] ∧ ItemsAt w m (qs.map am) ∧ qs.length < 1000000 ∧ (∀ q ∈ qs, Ws q) ∧ Φ (.bl true) m
def sp_is_size : LSp := fun ds m Φ => ∃ (k : Str) (s : D), ds = [.str k, s] ∧ KindOk k s ∧ Φ (.bl true) m
def sp_Flow_p_set_wishes (C : Addr) : LSp := fun ds m Φ => ∃ (f : Addr) (v : FV), ds = [.ref f, am v.g, am v.G, am v.door, .int v.way, mannD v.mm, .bl v.odd] ∧ m f = some (.ins C v.fs1) ∧ v.Wok ∧ Φ .non (mset m f (.ins C v.fs))
def sp_Flow_init (C : Addr) : LSp := fun ds m Φ => ∃ (f : Addr) (v : FV), ds = [.ref f, .str v.name, .lst (v.names.map D.str), .lst (v.bufs.map am), .str v.kind, v.size, .int v.w, am v.g, am v.G, am v.door, .int v.way, mannD v.mm, .bl v.odd] ∧ m f = some (.ins C []) ∧ v.Ok ∧ Φ .non (mset m f (.ins C v.fs))
def FV.fields (v : FV) : D := .tup [.tup [.str v.name, .tup (v.names.map D.str), .tup (v.bufs.map am), .str v.kind, v.size, .int v.w], am v.g, am v.G, am v.door, .int v.way, mannD v.mm, .bl v.odd]
def sp_Flow_p_fields (C : Addr) : LSp := fun ds m Φ => ∃ (f : Addr) (v : FV), ds = [.ref f] ∧ m f = some (.ins C v.fs) ∧ Φ v.fields m
def sp_Flow_eq (C : Addr) : LSp := fun ds m Φ => ∃ (f : Addr) (v : FV), ds = [.ref f, .ref f] ∧ m f = some (.ins C v.fs) ∧ v.Ok ∧ Φ (.bl true) m
/-- is_amount: 0 value, 1 top, 2 bottom -/
def qb_is_amount : QS :=
  (sSeq (sIf (qOr (qNot (qB (qIsi "tuple" (qVar 0)))) (qB (qOp vNe (qCB bLen (qCons (qVar 0) qNil)) (qC (.int 2))))) (sRet (qC (.bl false))) sNext)
    (sSeq (sAsg (.tp [(.nm 1), (.nm 2)]) (qVar 0))
    (sSeq (sIf (qOr (qNot (qB (qCall sp_is_number (qCons (qVar 1) qNil)))) (qNot (qB (qCall sp_is_number (qCons (qVar 2) qNil))))) (sRet (qC (.bl false))) sNext)
    (sRet (qAndV (qOp (qI0 fun i j => .bl (decide (j ≤ i))) (qVar 1) (qC (.int 0))) (qAndV (qOp (qI0 fun i j => .bl (decide (j ≤ i))) (qVar 2) (qC (.int 1))) (qOp vEq (qCB bGcd (qCons (qVar 1) (qCons (qVar 2) qNil))) (qC (.int 1)))))))))
/-- is_small: 0 value -/
def qb_is_small : QS :=
  (sRet (qAndV (qCall sp_is_amount (qCons (qVar 0) qNil)) (qAndV (qOp (qI0 fun i j => .bl (decide (i ≤ j))) (qOp vIx (qVar 0) (qC (.int 1))) (qC (.int 12))) (qOp (qI0 fun i j => .bl (decide (i ≤ j))) (qCall sp_compare (qCons (qVar 0) (qCons (qC (.tup [(.int 1000), (.int 1)])) qNil))) (qC (.int 0))))))
/-- is_between: 0 value, 1 low, 2 high -/
def qb_is_between : QS :=
  (sRet (qAndV (qCall sp_is_number (qCons (qVar 0) qNil)) (qChain (qI0 fun i j => .bl (decide (i ≤ j))) (qI0 fun i j => .bl (decide (i ≤ j))) (qVar 1) (qVar 0) (qVar 2))))
/-- is_wide_manner: 0 value -/
def qb_is_wide_manner : QS :=
  (sSeq (sIf (qNot (qB (qIsi "tuple" (qVar 0)))) (sRet (qC (.bl false))) sNext)
    (sSeq (sIf (qB (qOp vEq (qVar 0) (qTup qNil))) (sRet (qC (.bl true))) sNext)
    (sRet (qAndV (qOp vEq (qCB bLen (qCons (qVar 0) qNil)) (qC (.int 2))) (qAndV (qCall sp_is_amount (qCons (qOp vIx (qVar 0) (qC (.int 0))) qNil)) (qCall sp_is_amount (qCons (qOp vIx (qVar 0) (qC (.int 1))) qNil)))))))
/-- is_manner: 0 value -/
def qb_is_manner : QS :=
  (sSeq (sIf (qNot (qB (qCall sp_is_wide_manner (qCons (qVar 0) qNil)))) (sRet (qC (.bl false))) sNext)
    (sRet (qOrV (qOp vEq (qVar 0) (qTup qNil)) (qOp (qI0 fun i j => .bl (decide (i ≤ j))) (qCall sp_compare (qCons (qOp vIx (qVar 0) (qC (.int 0))) (qCons (qOp vIx (qVar 0) (qC (.int 1))) qNil))) (qC (.int 0))))))
/-- may_wish: 0 manner, 1 least, 2 cap -/
def qb_may_wish : QS :=
  (sSeq (sIf (qNot (qB (qCall sp_is_manner (qCons (qVar 0) qNil)))) (sRet (qC (.bl false))) sNext)
    (sRet (qOrV (qOp vEq (qVar 0) (qTup qNil)) (qAndV (qOp (qI0 fun i j => .bl (decide (i ≤ j))) (qCall sp_compare (qCons (qOp vIx (qVar 0) (qC (.int 0))) (qCons (qVar 1) qNil))) (qC (.int 0))) (qOp (qI0 fun i j => .bl (decide (i ≤ j))) (qCall sp_compare (qCons (qOp vIx (qVar 0) (qC (.int 1))) (qCons (qVar 2) qNil))) (qC (.int 0)))))))
/-- is_name: 0 value, 1 letter -/
def qb_is_name : QS :=
  (sSeq (sIf (qOr (qNot (qB (qIsi "str" (qVar 0)))) (qNot (qB (qChain (qI0 fun i j => .bl (decide (i ≤ j))) (qI0 fun i j => .bl (decide (i ≤ j))) (qC (.int 1)) (qCB bLen (qCons (qVar 0) qNil)) (qC (.int 6)))))) (sRet (qC (.bl false))) sNext)
    (sRet (qCB bAll (qCons (qFreeze (qLc (iSigns (qVar 0)) (.nm 1) qYes (qOp vInS (qVar 1) (qC (.str "abcdefghijklmnopqrstuvwxyz"))) [1])) qNil))))
/-- is_row: 0 value -/
def qb_is_row : QS :=
  (sRet (qIsiT ["list", "tuple"] (qVar 0)))
/-- is_route: 0 value, 1 link -/
def qb_is_route : QS :=
  (sSeq (sIf (qOr (qNot (qB (qCall sp_is_row (qCons (qVar 0) qNil)))) (qNot (qB (qChain (qI0 fun i j => .bl (decide (i ≤ j))) (qI0 fun i j => .bl (decide (i ≤ j))) (qC (.int 1)) (qCB bLen (qCons (qVar 0) qNil)) (qC (.int 5)))))) (sRet (qC (.bl false))) sNext)
    (sRet (qAndV (qCB bAll (qCons (qFreeze (qLc (iSeq (qVar 0)) (.nm 1) qYes (qCall sp_is_name (qCons (qVar 1) qNil)) [1])) qNil)) (qOp vEq (qLenSet (qVar 0)) (qCB bLen (qCons (qVar 0) qNil))))))
/-- is_water_size: 0 value -/
def qb_is_water_size : QS :=
  (sRet (qAndV (qCall sp_is_amount (qCons (qVar 0) qNil)) (qOp (qI0 fun i j => .bl (decide (i ≤ j))) (qCall sp_compare (qCons (qVar 0) (qCons (qC (.tup [(.int 1000000), (.int 1)])) qNil))) (qC (.int 0)))))
/-- is_size: 0 kind, 1 size -/
def qb_is_size : QS :=
  (sSeq (sIf (qB (qOp vEq (qVar 0) (qC (.str "window")))) (sRet (qCall sp_is_water_size (qCons (qVar 1) qNil))) sNext)
    (sSeq (sIf (qB (qOp vEq (qVar 0) (qC (.str "probe")))) (sRet (qCall sp_is_between (qCons (qVar 1) (qCons (qC (.int 1)) (qCons (qC (.int 12)) qNil))))) sNext)
    (sRet (qOp qIsN (qVar 1) (qC .non)))))
/-- are_buffers: 0 value, 1 size -/
def qb_are_buffers : QS :=
  (sRet (qAndV (qCall sp_is_row (qCons (qVar 0) qNil)) (qCB bAll (qCons (qFreeze (qLc (iSeq (qVar 0)) (.nm 1) qYes (qCall sp_is_water_size (qCons (qVar 1) qNil)) [1])) qNil))))
/-- Flow._set_wishes: 0 self, 1 least, 2 cap, 3 door, 4 way, 5 manner, 6 strange -/
def qb_Flow_p_set_wishes (C : Addr) : QS :=
  (sSeq (sIf (qNot (qB (qCall sp_is_small (qCons (qVar 1) qNil)))) sNever sNext)
    (sSeq (sIf (qOr (qNot (qB (qCall sp_is_small (qCons (qVar 2) qNil)))) (qB (qOp (qI0 fun i j => .bl (decide (i < j))) (qCall sp_compare (qCons (qVar 2) (qCons (qVar 1) qNil))) (qC (.int 0))))) sNever sNext)
    (sSeq (sIf (qB (qOp qIsN (qVar 3) (qC .non))) (sAsg (.nm 3) (qVar 2)) sNext)
    (sSeq (sIf (qOr (qNot (qB (qCall sp_is_small (qCons (qVar 3) qNil)))) (qB (qOp (qI0 fun i j => .bl (decide (i < j))) (qCall sp_compare (qCons (qVar 3) (qCons (qVar 2) qNil))) (qC (.int 0))))) sNever sNext)
    (sSeq (sIf (qNot (qB (qCall sp_is_between (qCons (qVar 4) (qCons (qC (.int 1)) (qCons (qC (.int 20)) qNil)))))) sNever sNext)
    (sSeq (sIf (qB (qOp qIsN (qVar 5) (qC .non))) (sAsg (.nm 5) (qTup (qCons (qVar 1) (qCons (qVar 2) qNil)))) sNext)
    (sSeq (sIf (qNot (qB (qCall sp_may_wish (qCons (qVar 5) (qCons (qVar 1) (qCons (qVar 2) qNil)))))) sNever sNext)
    (sSeq (sIf (qNot (qB (qIsi "bool" (qVar 6)))) sNever sNext)
    (sSeq (sSetF C "least" (qVar 0) (qVar 1))
    (sSeq (sSetF C "cap" (qVar 0) (qVar 2))
    (sSeq (sSetF C "door" (qVar 0) (qVar 3))
    (sSeq (sSetF C "way" (qVar 0) (qVar 4))
    (sSeq (sSetF C "manner" (qVar 0) (qVar 5))
    (sSetF C "strange" (qVar 0) (qVar 6)))))))))))))))
/-- Flow.__init__: 0 self, 1 name, 2 route, 3 buffers, 4 kind, 5 size, 6 weight, 7 least, 8 cap, 9 door, 10 way, 11 manner, 12 strange -/
def qb_Flow_init (C : Addr) : QS :=
  (sSeq (sIf (qNot (qB (qCall sp_is_name (qCons (qVar 1) qNil)))) sNever sNext)
    (sSeq (sIf (qNot (qB (qCall sp_is_route (qCons (qVar 2) qNil)))) sNever sNext)
    (sSeq (sIf (qOr (qNot (qB (qCall sp_are_buffers (qCons (qVar 3) qNil)))) (qB (qOp vNe (qCB bLen (qCons (qVar 3) qNil)) (qCB bLen (qCons (qVar 2) qNil))))) sNever sNext)
    (sSeq (sIf (qOr (qNot (qB (qIsi "str" (qVar 4)))) (qB (qOp (vInX true) (qVar 4) (qC (.tup [(.str "level"), (.str "eager"), (.str "window"), (.str "probe")]))))) sNever sNext)
    (sSeq (sIf (qNot (qB (qCall sp_is_size (qCons (qVar 4) (qCons (qVar 5) qNil))))) sNever sNext)
    (sSeq (sIf (qNot (qB (qCall sp_is_between (qCons (qVar 6) (qCons (qC (.int 1)) (qCons (qC (.int 12)) qNil)))))) sNever sNext)
    (sSeq (sSetF C "name" (qVar 0) (qVar 1))
    (sSeq (sSetF C "route" (qVar 0) (qCB bTuple (qCons (qVar 2) qNil)))
    (sSeq (sSetF C "last" (qVar 0) (qCB bLen (qCons (qFld C "route" (qVar 0)) qNil)))
    (sSeq (sSetF C "buffers" (qVar 0) (qCB bTuple (qCons (qVar 3) qNil)))
    (sSeq (sSetF C "kind" (qVar 0) (qVar 4))
    (sSeq (sSetF C "size" (qVar 0) (qVar 5))
    (sSeq (sSetF C "weight" (qVar 0) (qVar 6))
    (sExpr (qMeth C "_set_wishes" (sp_Flow_p_set_wishes C) (qVar 0) (qCons (qVar 7) (qCons (qVar 8) (qCons (qVar 9) (qCons (qVar 10) (qCons (qVar 11) (qCons (qVar 12) qNil)))))))))))))))))))))
/-- Flow._fields: 0 self, 1 source -/
def qb_Flow_p_fields (C : Addr) : QS :=
  (sSeq (sAsg (.nm 1) (qTup (qCons (qFld C "name" (qVar 0)) (qCons (qFld C "route" (qVar 0)) (qCons (qFld C "buffers" (qVar 0)) (qCons (qFld C "kind" (qVar 0)) (qCons (qFld C "size" (qVar 0)) (qCons (qFld C "weight" (qVar 0)) qNil))))))))
    (sRet (qTup (qCons (qVar 1) (qCons (qFld C "least" (qVar 0)) (qCons (qFld C "cap" (qVar 0)) (qCons (qFld C "door" (qVar 0)) (qCons (qFld C "way" (qVar 0)) (qCons (qFld C "manner" (qVar 0)) (qCons (qFld C "strange" (qVar 0)) qNil))))))))))
/-- Flow.__eq__: 0 self, 1 other -/
def qb_Flow_eq (C : Addr) : QS :=
  (sRet (qAndV (qIsC C true (qVar 1)) (qOp vEq (qMeth C "_fields" (sp_Flow_p_fields C) (qVar 0) qNil) (qMeth C "_fields" (sp_Flow_p_fields C) (qVar 1) qNil))))
/-! ### steps -/
section
variable {s : DSt} {m : Mem} {Φ : DK} {qe qo qv : QE} {E : DE} {C a : Addr} {f : Str} {fs : List (Str × D)} {y d : D}
def SetK (C : Addr) (f : Str) (x y : D) (F : Mem → Prop) (m2 : Mem) : Prop := match x with
  | .ref a => ∃ fs, m2 a = some (.ins C fs) ∧ fs.length < 1000 ∧ F (mset m2 a (.ins C (putFD f y fs)))
  | _ => False
theorem k_setF (h : qv s m fun y m1 => qo s m1 fun x m2 => SetK C f x y (E.nx s) m2) : sSetF C f qo qv E s m := h
theorem k_setI {F : Mem → Prop} (hm : m a = some (.ins C fs)) (hl : fs.length < 1000) (h : F (mset m a (.ins C (putFD f y fs)))) : SetK C f (.ref a) y F m := ⟨fs, hm, hl, h⟩
def FldK (C : Addr) (f : Str) (x : D) (Φ : DK) (m1 : Mem) : Prop := match x with
  | .ref a => ∃ fs d, m1 a = some (.ins C fs) ∧ fs.lookup f = some d ∧ Φ d m1
  | _ => False
theorem k_fld (h : qe s m fun x m1 => FldK C f x Φ m1) : qFld C f qe s m Φ := h
theorem k_fldI (hm : m a = some (.ins C fs)) (hl : fs.lookup f = some d) (h : Φ d m) : FldK C f (.ref a) Φ m := ⟨fs, d, hm, hl, h⟩
def MthK (C : Addr) (f : Str) (sp : LSp) (qa : QA) (s : DSt) (Φ : DK) (x : D) (m1 : Mem) : Prop := match x with
  | .ref a => ∃ fs, m1 a = some (.ins C fs) ∧ fs.lookup f = none ∧ qa s m1 fun ds m2 => sp (x :: ds) m2 Φ
  | _ => False
theorem k_meth {sp : LSp} {qa : QA} (h : qo s m fun x m1 => MthK C f sp qa s Φ x m1) : qMeth C f sp qo qa s m Φ := h
theorem k_methI {sp : LSp} {qa : QA} (hm : m a = some (.ins C fs)) (hl : fs.lookup f = none) (h : qa s m fun ds m2 => sp (.ref a :: ds) m2 Φ) : MthK C f sp qa s Φ (.ref a) m := ⟨fs, hm, hl, h⟩
end
/-! ### readings -/
/-! ### own == -/
end PF
end
section
/-! CF: the laws' own flows: names, rows of what a flow is made of -/
namespace CF
open PySem PySem.Spec PyProof.Rows L2 L3 L4 LV PL PS VA PF
open Rat (divInt)
open C13 (BagP)
local macro_rules | `(tactic| walk_at "st") => `(tactic| repeat (first
  | (with_reducible refine k_var (by with_unfolding_all rfl) ?_)
  | (with_reducible refine k_seq ?_)
  | (with_reducible refine k_cons ?_)
  | (with_reducible refine k_nil ?_)
  | (with_reducible refine k_c ?_)
  | (with_reducible refine k_op ?_)
  | (with_reducible refine k_asg ?_)
  | (with_reducible refine k_call ?_)
  | (with_reducible refine k_cb ?_)
  | (with_reducible refine k_i0 ?_)
  | (with_reducible refine k_addI ?_)
  | (with_reducible refine k_B ?_)
  | (with_reducible refine k_bk ?_)
  | (with_reducible refine k_if ?_)
  | (with_reducible refine k_ret ?_)
  | (with_reducible refine k_expr ?_)
  | (with_reducible refine k_next ?_)
  | (with_reducible refine k_not ?_)
  | (with_reducible refine k_and ?_)
  | (with_reducible refine k_or ?_)
  | (with_reducible refine k_ift ?_)
  | (with_reducible refine k_iff ?_)
  | (with_reducible refine k_ifnt ?_)
  | (with_reducible refine k_ifnf ?_)
  | (with_reducible refine k_fz ?_)
  | (with_reducible refine k_lc ?_)
  | (with_reducible refine k_dc ?_)
  | (with_reducible refine k_for ?_)
  | (with_reducible refine k_rng ?_)
  | (with_reducible refine k_iL ?_)
  | (with_reducible refine k_iLl ?_)
  | (with_reducible refine k_iT ?_)
  | (with_reducible refine k_iTt ?_)
  | (with_reducible refine k_zip ?_)
  | (with_reducible refine k_asgp ?_)
  | (with_reducible refine k_atn ?_)
  | (with_reducible refine k_par ?_)
  | (with_reducible refine k_parI ?_)
  | (with_reducible refine k_par3 ?_)
  | (with_reducible refine k_par3I ?_)
  | (with_reducible refine k_sub ?_)
  | (with_reducible refine k_andV ?_)
  | (with_reducible refine k_orV ?_)
  | (with_reducible refine k_notV ?_)
  | (with_reducible refine k_ifE ?_)
  | (with_reducible refine k_chain ?_)
  | (with_reducible refine k_am0 ?_)
  | (with_reducible refine k_am1 ?_)
  | (with_reducible refine k_int ?_)
  | (with_reducible refine k_eqI ?_)
  | (with_reducible refine k_neI ?_)
  | (with_reducible refine k_eqB ?_)
  | (with_reducible refine k_neB ?_)
  | (with_reducible refine k_iaddI ?_)
  | (with_reducible refine k_lenT ?_)
  | (with_reducible refine k_lenL ?_)
  | (with_reducible refine k_tru ?_)
  | (with_reducible refine k_cont ?_)
  | (with_reducible refine k_brk ?_)
  | (with_reducible refine k_retN ?_)
  | (with_reducible refine k_callK ?_)
  | (with_reducible refine k_callS1 ?_)
  | (with_reducible refine k_star ?_)
  | (with_reducible refine k_itL ?_)
  | (with_reducible refine k_itT ?_)
  | (with_reducible refine k_isi ?_)
  | (with_reducible refine k_isiT ?_)
  | (with_reducible refine k_bm ?_)
  | (with_reducible refine k_tup ?_)
  | (with_reducible refine k_lstF ?_)
  | (with_reducible refine k_lstM ?_)
  | (with_reducible refine k_aug (by with_unfolding_all rfl) ?_)
  | (with_reducible refine k_iSv (by with_unfolding_all rfl) ?_)
  | (with_reducible refine k_ixt (by with_unfolding_all rfl) ?_)
  | (with_reducible refine k_at (by with_unfolding_all rfl) ?_)
  | (with_reducible refine k_fzn ‹_› ?_)
  | (refine And.intro (by exact sz (by simp <;> omega)) ?_)
  | fail))
/-! ### specs -/
abbrev sp_law_draw : LSp := C13.sp_law_draw
abbrev sp_law_amount : LSp := C13.sp_law_amount
abbrev sp_law_sum : LSp := C13.sp_law_sum
abbrev sp_law_rest : LSp := C13.sp_law_rest
abbrev sp_law_scaled : LSp := C13.sp_law_scaled
abbrev sp_law_less : LSp := C13.sp_law_less
abbrev sp_law_min : LSp := C13.sp_law_min
abbrev sp_law_max : LSp := C13.sp_law_max
abbrev sp_law_part : LSp := C13.sp_law_part
def sp_law_of : LSp := fun ds m Φ => C13.sp_law_of ds m Φ ∨ ∃ (b : Addr) (z : Str), ds = [.ref b, .str z] ∧ m b = some (.any BagP) ∧ 0 < z.length ∧ z.length < 1000000 ∧ ∀ c ∈ z.cps.toList, Φ (.str ⟨#[c]⟩) m
def sp_law_some : LSp := fun ds m Φ => ∃ (b : Addr) (n : Nat), ds = [.ref b, .int n] ∧ m b = some (.any BagP) ∧ n < 2 ^ 30 ∧ ∀ q, Okb 30 n q → q.den ≤ 5 → Φ (am q) m
def sp_law_name : LSp := fun ds m Φ => ∃ (b : Addr) (ts : List Str), ds = [.ref b, .lst (ts.map D.str)] ∧ m b = some (.any BagP) ∧ ∀ z, Nm z → Φ (.str z) m
def sp_law_above : LSp := fun ds m Φ => ∃ (b : Addr) (p : Rat), ds = [.ref b, am p] ∧ m b = some (.any BagP) ∧ Sm p ∧ ∀ q, Sm q → p ≤ q → Φ (am q) m
def sp_law_wish : LSp := fun ds m Φ => ∃ (b r : Addr) (kvs : List (Key × D)) (g G : Rat), ds = [.ref b, .ref r] ∧ m b = some (.any BagP) ∧ m r = some (.dK kvs) ∧ valD kvs (.inr "g") = some (am g) ∧ valD kvs (.inr "G") = some (am G) ∧ Sm g ∧ Sm G ∧ g ≤ G ∧ ∀ mm, MannOk mm g G → Φ (mannD mm) m
structure RowOk (names : List Str) (k : Str) (w way : Int) (g G door : Rat) (mm : Option (Rat × Rat)) (size : D) (bufs : List Rat) : Prop where
  w1 : 1 ≤ w
  w2 : w ≤ 12
  y1 : 1 ≤ way
  y2 : way ≤ 3
  sg : Sm g
  sG : Sm G
  sd : Sm door
  gG : g ≤ G
  Gd : G ≤ door
  mo : MannOk mm g G
  kd : KindOk k size
  dz : ∀ q, size = am q → Dn 27720 q
  bl : bufs.length = names.length
  bo : ∀ q ∈ bufs, Ws q
def rowK (z : Str) (names : List Str) (k : Str) (w way : Int) (g G door : Rat) (mm : Option (Rat × Rat)) (odd : Bool) (size : D) (bufs : List Rat) : List (Key × D) :=
  [(.inr "name", .str z), (.inr "route", .lst (names.map D.str)), (.inr "kind", .str k), (.inr "w", .int w), (.inr "way", .int way), (.inr "g", am g), (.inr "G", am G), (.inr "door", am door), (.inr "wish", mannD mm), (.inr "odd", .bl odd), (.inr "size", size), (.inr "bufs", .lst (bufs.map am))]
def LeftOk (names : List Str) (kl : List (Key × D)) : Prop := ∀ n ∈ names, ∃ q, valD kl (.inr n) = some (am q) ∧ Okb 27720 1000 q
def sp_law_flow : LSp := fun ds m Φ => ∃ (b l : Addr) (z : Str) (names kinds : List Str) (wild : Bool) (kl : List (Key × D)), ds = [.ref b, .str z, .lst (names.map D.str), .ref l, .lst (kinds.map D.str), .bl wild] ∧ m b = some (.any BagP) ∧ m l = some (.dK kl) ∧ kl.length ≤ 100 ∧ LeftOk names kl ∧ names.length ≤ 10 ∧ kinds ≠ [] ∧ kinds.length < 10 ∧ (∀ k ∈ kinds, k ∈ [("level" : Str), "eager", "window", "probe"]) ∧
  ∀ (r : Addr) (kl' : List (Key × D)) (k : Str) (w way : Int) (g G door : Rat) (mm : Option (Rat × Rat)) (odd : Bool) (size : D) (bufs : List Rat), m r = none → k ∈ kinds → (wild = false → odd = false) → RowOk names k w way g G door mm size bufs → Φ (.ref r) (mset (mset m l (.dK kl')) r (.dK (rowK z names k w way g G door mm odd size bufs)))
/-- _law_of: 0 _law_bag_here, 1 _law_things -/
def qb_law_of : QS :=
  (sRet (qOp vIx (qVar 1) (qCall sp_law_draw (qCons (qVar 0) (qCons (qCB bLen (qCons (qVar 1) qNil)) qNil)))))
/-- _law_some: 0 _law_bag_here, 1 _law_most, 2 _law_bottom -/
def qb_law_some : QS :=
  (sSeq (sAsg (.nm 2) (qCall sp_law_of (qCons (qVar 0) (qCons (qLstF (qCons (qC (.int 1)) (qCons (qC (.int 1)) (qCons (qC (.int 2)) (qCons (qC (.int 1)) (qCons (qC (.int 3)) (qCons (qC (.int 1)) (qCons (qC (.int 2)) (qCons (qC (.int 5)) qNil))))))))) qNil))))
    (sRet (qCall sp_law_amount (qCons (qCall sp_law_draw (qCons (qVar 0) (qCons (qOp qAdd (qOp (qIC CM fun i j => .int (i * j)) (qVar 1) (qVar 2)) (qC (.int 1))) qNil))) (qCons (qVar 2) qNil)))))
/-- _law_part: 0 _law_bag_here, 1 _law_one, 2 _law_top, 3 _law_bottom -/
def qb_law_part : QS :=
  (sSeq (sAsg (.tp [(.nm 2), (.nm 3)]) (qCall sp_law_of (qCons (qVar 0) (qCons (qLstF (qCons (qTup (qCons (qC (.int 1)) (qCons (qC (.int 1)) qNil))) (qCons (qTup (qCons (qC (.int 0)) (qCons (qC (.int 1)) qNil))) (qCons (qTup (qCons (qC (.int 1)) (qCons (qC (.int 2)) qNil))) (qCons (qTup (qCons (qC (.int 1)) (qCons (qC (.int 1)) qNil))) (qCons (qTup (qCons (qC (.int 2)) (qCons (qC (.int 3)) qNil))) (qCons (qTup (qCons (qC (.int 1)) (qCons (qC (.int 5)) qNil))) qNil))))))) qNil))))
    (sRet (qCall sp_law_scaled (qCons (qVar 1) (qCons (qVar 2) (qCons (qVar 3) qNil))))))
/-- _law_name: 0 _law_bag_here, 1 _law_taken, 2 _law_signs, 3 _law_called, 4 _law_k -/
def qb_law_name : QS :=
  (sSeq (sAsg (.nm 2) (qC (.str "abcdefghijklmnopqrstuvwxyz")))
    (sSeq (sIf (qB (qOp vEq (qCall sp_law_draw (qCons (qVar 0) (qCons (qC (.int 4)) qNil))) (qC (.int 0)))) (sAsg (.nm 3) (qCall sp_law_of (qCons (qVar 0) (qCons (qLstF (qCons (qC (.str "self")) (qCons (qC (.str "all")) (qCons (qC (.str "level")) (qCons (qC (.str "a")) (qCons (qC (.str "aaaaaa")) (qCons (qC (.str "z")) (qCons (qC (.str "end")) (qCons (qC (.str "manner")) qNil))))))))) qNil)))) (sAsg (.nm 3) (qJoinL (qC (.str "")) (qFreeze (qLc (iRange1 (qCons (qCall sp_law_of (qCons (qVar 0) (qCons (qLstF (qCons (qC (.int 1)) (qCons (qC (.int 1)) (qCons (qC (.int 2)) (qCons (qC (.int 3)) (qCons (qC (.int 6)) qNil)))))) qNil))) qNil)) (.nm 4) qYes (qCall sp_law_of (qCons (qVar 0) (qCons (qVar 2) qNil))) [4])))))
    (sSeq (sFor (iRange1 (qCons (qC (.int 26)) qNil)) (.nm 4) (sIf (qB (qOp (vInX false) (qVar 3) (qVar 1))) (sAsg (.nm 3) (qOp qAdd (qSlS (qVar 3) qNoPart (qPart (qNeg (qC (.int 1))))) (qOp vIx (qVar 2) (qOp (qIC (fun _ j => 0 < j) fun i j => .int (i % j)) (qCB bInt (qCons (qOp qAdd (qBM "str" mIndexS (qVar 2) (qCons (qOp vIx (qVar 3) (qNeg (qC (.int 1)))) qNil)) (qC (.int 1))) qNil)) (qC (.int 26)))))) sNext))
    (sRet (qVar 3)))))
/-- _law_above: 0 _law_bag_here, 1 _law_base, 2 _law_more -/
def qb_law_above : QS :=
  (sSeq (sAsg (.nm 2) (qCall sp_law_sum (qCons (qVar 1) (qCons (qCall sp_law_some (qCons (qVar 0) (qCons (qC (.int 9)) qNil))) qNil))))
    (sSeq (sIf (qB (qOp vEq (qCall sp_law_draw (qCons (qVar 0) (qCons (qC (.int 4)) qNil))) (qC (.int 0)))) (sRet (qVar 1)) sNext)
    (sRet (qIfE (qAnd (qB (qOp (qI0 fun i j => .bl (decide (i ≤ j))) (qOp vIx (qVar 2) (qC (.int 1))) (qC (.int 12)))) (qNot (qB (qCall sp_law_less (qCons (qTup (qCons (qC (.int 1000)) (qCons (qC (.int 1)) qNil))) (qCons (qVar 2) qNil)))))) (qVar 2) (qTup (qCons (qC (.int 1000)) (qCons (qC (.int 1)) qNil)))))))
/-- _law_wish: 0 _law_bag_here, 1 _law_row, 2 _law_base -/
def qb_law_wish : QS :=
  (sSeq (sIf (qB (qOp vEq (qCall sp_law_draw (qCons (qVar 0) (qCons (qC (.int 5)) qNil))) (qC (.int 0)))) (sRet (qTup qNil)) sNext)
    (sSeq (sAsg (.nm 2) (qCall sp_law_part (qCons (qVar 0) (qCons (qOp vIx (qVar 1) (qC (.str "g"))) qNil))))
    (sSeq (sIf (qB (qOp vEq (qCall sp_law_draw (qCons (qVar 0) (qCons (qC (.int 2)) qNil))) (qC (.int 0)))) (sRet (qTup (qCons (qVar 2) (qCons (qCall sp_law_max (qCons (qVar 2) (qCons (qCall sp_law_min (qCons (qOp vIx (qVar 1) (qC (.str "G"))) (qCons (qCall sp_law_some (qCons (qVar 0) (qCons (qC (.int 6)) qNil))) qNil))) qNil))) qNil)))) sNext)
    (sRet (qTup (qCons (qVar 2) (qCons (qCall sp_law_sum (qCons (qVar 2) (qCons (qCall sp_law_part (qCons (qVar 0) (qCons (qCall sp_law_rest (qCons (qOp vIx (qVar 1) (qC (.str "G"))) (qCons (qVar 2) qNil))) qNil))) qNil))) qNil)))))))
/-- _law_flow: 0 _law_bag_here, 1 _law_called, 2 _law_route, 3 _law_left, 4 _law_kinds, 5 _law_wild, 6 _law_row, 7 _law_least_left, 8 _law_one, 9 _law_part_here, 10 _law_menu -/
def qb_law_flow : QS :=
  (sSeq (sAsg (.nm 6) (qDisp [((qC (.str "name")), (qVar 1)), ((qC (.str "route")), (qVar 2)), ((qC (.str "kind")), (qCall sp_law_of (qCons (qVar 0) (qCons (qVar 4) qNil)))), ((qC (.str "w")), (qCall sp_law_of (qCons (qVar 0) (qCons (qLstF (qCons (qC (.int 1)) (qCons (qC (.int 2)) (qCons (qC (.int 3)) (qCons (qC (.int 1)) (qCons (qC (.int 5)) (qCons (qC (.int 12)) qNil))))))) qNil))))]))
    (sSeq (sSub (qVar 6) (qC (.str "way")) (qOp qAdd (qC (.int 1)) (qCall sp_law_draw (qCons (qVar 0) (qCons (qC (.int 3)) qNil)))))
    (sSeq (sAsg (.nm 7) (qTup (qCons (qC (.int 1000)) (qCons (qC (.int 1)) qNil))))
    (sSeq (sFor (iLst (qVar 2)) (.nm 8) (sAsg (.nm 7) (qCall sp_law_min (qCons (qVar 7) (qCons (qOp vIx (qVar 3) (qVar 8)) qNil)))))
    (sSeq (sAsg (.nm 9) (qCall sp_law_some (qCons (qVar 0) (qCons (qC (.int 3)) qNil))))
    (sSeq (sIf (qB (qCall sp_law_less (qCons (qVar 7) (qCons (qVar 9) qNil)))) (sAsg (.nm 9) (qIfE (qB (qOp (qI0 fun i j => .bl (decide (i ≤ j))) (qOp vIx (qVar 7) (qC (.int 1))) (qC (.int 12)))) (qVar 7) (qTup (qCons (qC (.int 0)) (qCons (qC (.int 1)) qNil))))) sNext)
    (sSeq (sFor (iLst (qVar 2)) (.nm 8) (sSub (qVar 3) (qVar 8) (qCall sp_law_rest (qCons (qOp vIx (qVar 3) (qVar 8)) (qCons (qVar 9) qNil)))))
    (sSeq (sSub (qVar 6) (qC (.str "g")) (qVar 9))
    (sSeq (sSub (qVar 6) (qC (.str "G")) (qIfE (qB (qOp vEq (qCall sp_law_draw (qCons (qVar 0) (qCons (qC (.int 2)) qNil))) (qC (.int 0)))) (qCall sp_law_above (qCons (qVar 0) (qCons (qVar 9) qNil))) (qTup (qCons (qC (.int 1000)) (qCons (qC (.int 1)) qNil)))))
    (sSeq (sSub (qVar 6) (qC (.str "door")) (qCall sp_law_above (qCons (qVar 0) (qCons (qOp vIx (qVar 6) (qC (.str "G"))) qNil))))
    (sSeq (sSub (qVar 6) (qC (.str "wish")) (qCall sp_law_wish (qCons (qVar 0) (qCons (qVar 6) qNil))))
    (sSeq (sSub (qVar 6) (qC (.str "odd")) (qAndV (qVar 5) (qOp vEq (qCall sp_law_draw (qCons (qVar 0) (qCons (qC (.int 5)) qNil))) (qC (.int 0)))))
    (sSeq (sSub (qVar 6) (qC (.str "size")) (qC .non))
    (sSeq (sAsg (.nm 10) (qLstF (qCons (qCall sp_law_some (qCons (qVar 0) (qCons (qC (.int 9)) qNil))) (qCons (qCall sp_law_some (qCons (qVar 0) (qCons (qC (.int 9)) qNil))) (qCons (qTup (qCons (qC (.int 20)) (qCons (qC (.int 1)) qNil))) (qCons (qTup (qCons (qC (.int 1000)) (qCons (qC (.int 1)) qNil))) (qCons (qTup (qCons (qC (.int 0)) (qCons (qC (.int 1)) qNil))) qNil)))))))
    (sSeq (sSub (qVar 6) (qC (.str "bufs")) (qFreeze (qLc (iLst (qVar 2)) (.nm 8) qYes (qCall sp_law_of (qCons (qVar 0) (qCons (qVar 10) qNil))) [8])))
    (sSeq (sIf (qB (qOp vEq (qOp vIx (qVar 6) (qC (.str "kind"))) (qC (.str "window")))) (sSeq (sSub (qVar 6) (qC (.str "size")) (qCall sp_law_of (qCons (qVar 0) (qCons (qLstF (qCons (qCall sp_law_some (qCons (qVar 0) (qCons (qC (.int 9)) qNil))) (qCons (qTup (qCons (qC (.int 12)) (qCons (qC (.int 1)) qNil))) (qCons (qTup (qCons (qC (.int 1000)) (qCons (qC (.int 1)) qNil))) (qCons (qTup (qCons (qC (.int 0)) (qCons (qC (.int 1)) qNil))) qNil))))) qNil))))
    (sSub (qVar 6) (qC (.str "bufs")) (qFreeze (qLc (iLst (qOp vIx (qVar 6) (qC (.str "bufs")))) (.nm 8) qYes (qCall sp_law_sum (qCons (qOp vIx (qVar 6) (qC (.str "size"))) (qCons (qCall sp_law_part (qCons (qVar 0) (qCons (qVar 8) qNil))) qNil))) [8])))) sNext)
    (sSeq (sIf (qB (qOp vEq (qOp vIx (qVar 6) (qC (.str "kind"))) (qC (.str "probe")))) (sSub (qVar 6) (qC (.str "size")) (qOp qAdd (qC (.int 1)) (qCall sp_law_draw (qCons (qVar 0) (qCons (qC (.int 3)) qNil))))) sNext)
    (sRet (qVar 6)))))))))))))))))))
/-! ### sizes -/
/-! ### steps -/
theorem rd_law_of : ∀ ds m Φ, sp_law_of ds m Φ → qb_law_of (bodyW Φ) (begin_ 2 ds) m := by
  rintro _ m Φ (h | ⟨b, z, rfl, hb, h0, hl, k⟩)
  · exact C13.rd_law_of _ _ _ h
  · refine ⟨by show z.length ≤ 16777216; omega, b, _, rfl, hb, by omega, by omega, fun d d0 d1 => ?_⟩
    obtain ⟨c, hc, e⟩ := atI_in z.cps.toList d0 (by rw [Array.length_toList]; exact d1)
    exact ⟨c, by show z.length ≤ 16777216; omega, e, wk_at (k c hc)⟩
def SlSK (x : D) (l u : Option Int) (m3 : Mem) (Φ : DK) : Prop := match x with
  | .str z => z.length ≤ sizeLine ∧ Φ (.str (cutS z l u)) m3
  | _ => False
theorem k_slS {qe : QE} {ql qh : QO} {s : DSt} {m : Mem} {Φ : DK} (h : qe s m fun x m1 => ql s m1 fun l m2 => qh s m2 fun u m3 => SlSK x l u m3 Φ) : qSlS qe ql qh s m Φ := h
theorem k_slSI {z : Str} {l u : Option Int} {m : Mem} {Φ : DK} (hl : z.length ≤ sizeLine) (k : Φ (.str (cutS z l u)) m) : SlSK (.str z) l u m Φ := ⟨hl, k⟩
theorem k_ixS {z : Str} {i : Int} {c : Nat} {m : Mem} {Φ : DK} (hl : z.length ≤ sizeLine) (e : L2.atI z.cps.toList i = some c) (k : Φ (.str ⟨#[c]⟩) m) : vIx (.str z) (.int i) m Φ := ⟨c, hl, e, k⟩
theorem k_catS {a b : Str} {m : Mem} {Φ : DK} (hl : a.length + b.length ≤ sizeLine) (k : Φ (.str (a ++ b)) m) : qAdd (.str a) (.str b) m Φ := ⟨hl, k⟩
/-! ### manners -/
/-! ### names -/
abbrev abc : Str := "abcdefghijklmnopqrstuvwxyz"
theorem abc_list : abc.cps.toList = [97, 98, 99, 100, 101, 102, 103, 104, 105, 106, 107, 108, 109, 110, 111, 112, 113, 114, 115, 116, 117, 118, 119, 120, 121, 122] := by decide
theorem abc_len : abc.length = 26 := by decide
theorem abc_in {c : Nat} (h : c ∈ abc.cps.toList) : 97 ≤ c ∧ c ≤ 122 := by
  rw [abc_list] at h
  simp only [List.mem_cons, List.not_mem_nil, or_false] at h
  omega
theorem abc_at {i : Int} (h0 : 0 ≤ i) (h1 : i < 26) : ∃ c, 97 ≤ c ∧ c ≤ 122 ∧ L2.atI abc.cps.toList i = some c := by
  obtain ⟨c, hc, e⟩ := atI_in abc.cps.toList h0 (by rw [abc_list]; exact h1)
  exact ⟨c, (abc_in hc).1, (abc_in hc).2, e⟩
theorem join_sgn (cs : List Nat) : Txt.join ("" : Str) (cs.map fun c => (⟨#[c]⟩ : Str)) = ⟨cs.toArray⟩ := by
  rw [TL.join_eq, show ("" : Str) = ⟨#[]⟩ by decide]
  exact PyProof.Rows.join_ones cs
/-! ### rows -/
theorem k_pcons {qk qv : QE} {ps : List (QE × QE)} {s : DSt} {m : Mem} {F : List (D × D) → Mem → Prop} (h : qk s m fun x m1 => qv s m1 fun y m2 => qPairs ps s m2 fun xs m3 => F ((x, y) :: xs) m3) : qPairs ((qk, qv) :: ps) s m F := h
theorem k_pnil {s : DSt} {m : Mem} {F : List (D × D) → Mem → Prop} (h : F [] m) : qPairs [] s m F := h
theorem k_disp {ps : List (QE × QE)} {s : DSt} {m : Mem} {Φ : DK} (h : ∀ p, m p = none → qPairs ps s (mset m p (.dK [])) fun xs m2 => m2 p = some (.dK []) ∧ ∃ kvs, keysP xs = some kvs ∧ kvs.length ≤ 15 ∧ Φ (.ref p) (mset m2 p (.dK (mergeD [] kvs)))) : qDisp ps s m Φ := h
/-- the memory with a left dict and a row -/
def MM (m : Mem) (l r : Addr) (kl row : List (Key × D)) : Mem := mset (mset m l (.dK kl)) r (.dK row)
section
variable {m : Mem} {l r b : Addr} {kl kl' row row' : List (Key × D)}
end
theorem put_new {kl : List (Key × D)} {k : Key} {v : D} (h : (kl.any fun kv => decide (kv.1 = k)) = false) : putD kl k v = kl ++ [(k, v)] := by
  unfold putD
  rw [if_neg (by rw [h]; exact Bool.false_ne_true)]
theorem merge4 (a b c d : D) : mergeD [] [((.inr "name" : Key), a), (.inr "route", b), (.inr "kind", c), (.inr "w", d)] = [(.inr "name", a), (.inr "route", b), (.inr "kind", c), (.inr "w", d)] := rfl
theorem row_size (z : Str) (names : List Str) (k : Str) (w way : Int) (g G door : Rat) (mm : Option (Rat × Rat)) (odd : Bool) (size v : D) (bufs : List Rat) : putD (rowK z names k w way g G door mm odd size bufs) (.inr "size") v = rowK z names k w way g G door mm odd v bufs := rfl
theorem row_bufs (z : Str) (names : List Str) (k : Str) (w way : Int) (g G door : Rat) (mm : Option (Rat × Rat)) (odd : Bool) (size : D) (bufs us : List Rat) : putD (rowK z names k w way g G door mm odd size bufs) (.inr "bufs") (.lst (us.map am)) = rowK z names k w way g G door mm odd size us := rfl
theorem row_app (z : Str) (names : List Str) (k : Str) (w way : Int) (g G door : Rat) (mm : Option (Rat × Rat)) (odd : Bool) (size : D) (bufs : List Rat) :
    [((.inr "name" : Key), .str z), (.inr "route", .lst (names.map D.str)), (.inr "kind", .str k), (.inr "w", .int w)] ++ [(.inr "way", .int way)] ++ [(.inr "g", am g)] ++ [(.inr "G", am G)] ++ [(.inr "door", am door)] ++ [(.inr "wish", mannD mm)] ++ [(.inr "odd", .bl odd)] ++ [(.inr "size", size)] ++ [(.inr "bufs", .lst (bufs.map am))] = rowK z names k w way g G door mm odd size bufs := rfl
/-- waters of at most 1000 on the common bottom -/
structure Wm (q : Rat) : Prop where
  ok : Okb 27720 1000 q
end CF
end
section
/-! L3x: exceptions of own classes: raise, try .. except C as e -/
namespace L3
open PySem PySem.Spec PyProof.Rows L2
/-- what is wanted of an exception: its class, its own dict, the slots, the memory -/
abbrev DXs := Value → Option Addr → DSt → Mem → Prop
abbrev DXe := Value → Option Addr → Mem → Prop
abbrev LSpE := List D → Mem → DK → DXe → Prop
def KXW (K : PySem.W.Frag) (G : Hp) (Ψ : DXs) (W : WX) : Prop := ∀ G' cls s' m' od σ' H', Sub G G' → RelM K m' G' H' → RelS K s' G' σ' → Ψ cls od s' m' → W cls od σ' H'
def KXE (K : PySem.W.Frag) (G : Hp) (Ψ : DXe) (E : XK) : Prop := ∀ G' cls m' od H', Sub G G' → RelM K m' G' H' → Ψ cls od m' → E cls od H'
def liftSpE (K : PySem.W.Frag) (sp : LSpE) : Sp := fun vs H Q E => ∃ G m ds Φ Ψ, RelM K m G H ∧ RVs K G ds vs ∧ sp ds m Φ Ψ ∧ KQ K G Φ Q ∧ KXE K G Ψ E
def liftSX (K : PySem.W.Frag) (W : WX) (q : DXs → QS) : TS := fun D σ H => ∃ (G : Hp) (s : DSt) (m : Mem) (E : DE) (Ψ : DXs), RelM K m G H ∧ RelS K s G σ ∧ q Ψ E s m ∧ KS K G E.nx D.nx ∧ KQ K G E.rt D.rt ∧ KS K G E.bk D.bk ∧ KS K G E.ct D.ct ∧ KXW K G Ψ W
section
variable {X : Cx} {W : WX} {st : Stmt} {rest : List Stmt}
theorem xss_one {t : DXs → QS} (h : PS X st (liftSX X.K W t)) : PSs X [st] (liftSX X.K W t) := pss_one h
end
/-! ### raise C(e), C's __init__ storing its one argument -/
def spE1 (C : Addr) (f : Str) : Sp := fun vs H Q _ => ∃ (a : Addr) (y : V), vs = [.ref a, y] ∧ H a = some (exo a C none) ∧ ∀ dx, H dx = none → dx ≠ a → Q .non (upd (upd H dx (exd dx [(f, y)])) a (exo a C (some dx)))
/-- the class as the top has made it, its __init__ as a def -/
structure Ex1 (P : Program) (w : World) (K : PySem.W.Frag) (mg : Str → Option Value) (base : Heap) (x : Str) (C : Addr) (f : Str) : Prop where
  gx : mg x = some (.ref C)
  oex : OexC K C
  ini : ∃ (fI : Addr) (fd : FuncData) (p : Str), PySem.W.findIn K (.ref C) "__init__" = some (some (.ref fI)) ∧ PySem.W.typeIn K (.ref fI) = some (.type "function") ∧ FnOk P w K mg base CX0 1 fI fd ["self", p] (spE1 C f) ∧ Binds K fd ["self", p] []
def sRaise1 (C : Addr) (f : Str) (qe : QE) : DXs → QS := fun Ψ E s m => qe s m fun d m1 => ∀ x, m1 x = none → Ψ (.ref C) (some x) s (mset m1 x (.xd [(f, d)]))
/-! ### calls that may raise, as statements -/
/-- a def that may raise -/
def FnDX (P : Program) (w : World) (K : PySem.W.Frag) (mg : Str → Option Value) (base : Heap) (k : Nat) (f : Addr) (sp : LSpE) : Prop := FnR P w K mg base (L2N.CX P w) k f (liftSpE K sp)
section
variable {X : Cx} {W : WX} {k : Nat} {f C : Addr} {m x : Str} {pos apos p : Pos} {e o : Expr} {es : List Expr}
/-- o.m(..) as a statement -/
def sExprM (C : Addr) (m : Str) (sp : LSpE) (qo : QE) (qa : QA) : DXs → QS := fun Ψ E s mm => qo s mm fun x m1 => match x with
  | .ref a => ∃ fs, m1 a = some (.ins C fs) ∧ fs.lookup m = none ∧ qa s m1 fun ds m2 => sp (x :: ds) m2 (fun _ m3 => E.nx s m3) (fun cls od m3 => Ψ cls od s m3)
  | _ => False
end
/-! ### a def that may raise -/
section
variable {P : Program} {w : World} {K : PySem.W.Frag} {mg : Str → Option Value} {base : Heap}
end
/-! ### try .. except C as e -/
section
variable {X : Cx}
/-- qb: the body; qs: the suite, by the exception's place, class and own dict. The name's slot is i -/
def sTry (C : Addr) (i : Nat) (qb : DXs → QS) (qs : Addr → Value → Option Addr → QS) : QS := fun E s m => qb (fun cls od s' m' => cls = .ref C ∧
  ∀ a, m' a = none → qs a cls od { nx := fun s2 m2 => E.nx (s2.set i none) m2, rt := E.rt, bk := fun s2 m2 => E.bk (s2.set i none) m2, ct := fun s2 m2 => E.ct (s2.set i none) m2 } (s'.set i (some (.ref a))) m') E s m
/-- e.f of the exception in hand -/
def qXf (a : Addr) (cls : Value) (od : Option Addr) (C : Addr) (f : Str) (qe : QE) : QE := fun s m Φ => qe s m fun x m1 => x = .ref a ∧ cls = .ref C ∧ ∃ dd fs d, od = some dd ∧ m1 dd = some (.xd fs) ∧ fs.lookup f = some d ∧ Φ d m1
end
end L3
end
section
/-! L3y: isinstance of an exception in hand that has fields -/
namespace L3
open PySem PySem.Spec PyProof.Rows L2
def rIsE2 (K : PySem.W.Frag) (D a : Addr) (d : Option Addr) : List V → Hp → VK → Prop := fun xs H Q => ∃ (c : V) (cv : Value) (b : Bool) (dd : Addr) (ys : List (Str × V)), xs = [.ref a, c] ∧ (∀ u, RelV c u → u = cv) ∧ d = some dd ∧ H dd = some (.xd ys) ∧ PySem.W.kitOne K (.ref D) cv = some b ∧ Q (.bl b) H
def qIsE (a : Addr) (cls : Value) (od : Option Addr) (D : Addr) (b : Bool) (qe : QE) : QE := fun s m Φ => cls = .ref D ∧ qe s m fun x m1 => x = .ref a ∧ ∃ dd fs, od = some dd ∧ m1 dd = some (.xd fs) ∧ Φ (.bl b) m1
end L3
end
section
set_option maxHeartbeats 4000000
/-! zip of three: lists and tuples in any mix -/
namespace RZ
open PySem PySem.Spec PyProof.Rows L2
/-- a list (k false) or a tuple (k true) -/
def SqK (k : Bool) (K : PySem.W.Frag) (H : Hp) (a : Addr) (xs : List V) : Prop := if k then SqT K H a xs else SqL K H a xs
def HasK (k : Bool) (h : Heap) (a : Addr) (its : Array Value) : Prop := if k then h.IsTuple a its else h.IsList a its
def ItK (k : Bool) (h : Heap) (it a : Addr) (i : Nat) : Prop := if k then h.IsTupleIter it a i else h.IsListIter it a i
def begO (k : Bool) (a : Addr) : Obj := if k then { cls := .type "tuple_iterator", data := .fields #[.ref a, .int 0 0] } else { cls := .type "list_iterator", data := .fields #[.ref a, .int 0 0] }
def Itz3 (K : PySem.W.Frag) (k1 k2 k3 : Bool) (a b c : Addr) : It :=
  ⟨fun i H => ∃ (xs ys zs : List V) (x y z : V), SqK k1 K H a xs ∧ SqK k2 K H b ys ∧ SqK k3 K H c zs ∧ xs[i]? = some x ∧ ys[i]? = some y ∧ zs[i]? = some z,
    fun i H v H' => ∃ T x y z, v = .ref T ∧ H T = none ∧ H' = upd H T (.tup [x, y, z]) ∧ (∀ xs, SqK k1 K H a xs → xs[i]? = some x) ∧ (∀ ys, SqK k2 K H b ys → ys[i]? = some y) ∧ ∀ zs, SqK k3 K H c zs → zs[i]? = some z,
    fun i H => ∃ xs ys zs : List V, SqK k1 K H a xs ∧ SqK k2 K H b ys ∧ SqK k3 K H c zs ∧ i ≤ xs.length ∧ i ≤ ys.length ∧ i ≤ zs.length ∧ (i = xs.length ∨ i = ys.length ∨ i = zs.length)⟩
/-- the cells apart -/
structure Z3Ap (n a b c : Nat) : Prop where
  a : a < n
  b : b < n
  c : c < n
def iZip3 (K : PySem.W.Frag) (ta : TA) : TI := fun σ H R => ta σ H fun vs H1 => ∃ k1 k2 k3 a b c xs ys zs, vs = [.ref a, .ref b, .ref c] ∧ SqK k1 K H1 a xs ∧ SqK k2 K H1 b ys ∧ SqK k3 K H1 c zs ∧ R (Itz3 K k1 k2 k3 a b c) H1
end RZ
namespace L3
open PySem L2
/-! ### zip of three -/
def zipD3 : List D → List D → List D → List D
  | x :: xs, y :: ys, z :: zs => .tup [x, y, z] :: zipD3 xs ys zs
  | _, _, _ => []
section
variable {K : PySem.W.Frag} {G0 : Hp} {a b c : Addr} {ds es fs : List D}
/-- what tells the list or tuple at a -/
def KAt (k : Bool) (K : PySem.W.Frag) (C : Mem → Prop) (G0 : Hp) (a : Addr) (ds : List D) : Prop := ∀ G m H, Sub G0 G → RelM K m G H → C m → ∃ xs, RZ.SqK k K H a xs ∧ RVs K G ds xs
end
/-- one of three sources: its items, what must stay -/
inductive SrcD (m : Mem) : D → List D → (Mem → Prop) → Prop
  | lst (xs : List D) : SrcD m (.lst xs) xs (fun _ => True)
  | tup (xs : List D) : SrcD m (.tup xs) xs (fun _ => True)
  | ref {a : Addr} {xs : List D} (h : m a = some (.lst xs)) : SrcD m (.ref a) xs (fun m => m a = some (.lst xs))
/-- zip(x, y, z): lists (each one that may change, or not) and tuples, of one length -/
def iZip3D (qa : QA) : QI := fun s m Φ => qa s m fun ds m1 => ∃ x y z xs ys zs C1 C2 C3, ds = [x, y, z] ∧ SrcD m1 x xs C1 ∧ SrcD m1 y ys C2 ∧ SrcD m1 z zs C3 ∧ xs.length = ys.length ∧ xs.length = zs.length ∧ Φ (zipD3 xs ys zs) (fun m => C1 m ∧ C2 m ∧ C3 m) m1
end L3
end
section
set_option maxHeartbeats 4000000
/-! sorted(xs, key=lambda p: p[0]), xs a list of tuples whose first items are ints that rise -/
namespace LamX
open PySem PySem.Spec PyProof.Rows L2
section
variable {X : Cx} {pins : List (Addr × Obj)} {σ : L2.St} {H : Hp} {s : Shared}
end
/-! ### lambda x: x[0], called -/
abbrev arg1 (x : Str) (ap : Pos) : Arguments := { posonlyargs := [], args := [{ arg := x, annotation := none, pos := ap }], vararg := none, kwonlyargs := [], kw_defaults := [], kwarg := none, defaults := [] }
abbrev scope1 (x : Str) : Scope := { kind := .function, names := [(x, .local)], isGenerator := false, isCoroutine := false, more := [] }
abbrev body0 (x : Str) (k : Nat) (p1 p2 p3 : Pos) : Expr := .Subscript (.Name x p1) (.Constant (.int 0) k p2) p3
section
variable {prog : Program} {w : World} {A : Around} {E : Value → Shared → Prop} {s : Shared} {x q : Str} {kc : Nat} {p1 p2 p3 ap : Pos} {f c' T : Addr} {pm ctv : Value} {Q : Value → Shared → Prop}
end
/-! ### the sort -/
section
open Heap
def allBut (h : Heap) (L : Addr) : List (Addr × Obj) := (List.range h.objs.size).filterMap fun b => if b = L then none else (h.get? b).map fun o => (b, o)
end
/-- the table has grown by a code object, or stands -/
def Grew (P : Addr) (q : Str) (H H2 : Hp) : Prop :=
  H2 = H ∨ ∃ (ps : Array Value) (pos : Pos) (c' : Addr), H P = some (.tbl ps) ∧ TriplesOk ps.toList ∧ H c' = none ∧ H2 = upd (upd H P (.tbl (ps ++ #[rawInt pos.line, rawInt pos.col, .ref c']))) c' (CodeO c' q)
section
variable {X : Cx}
/-- sorted(xs, key=lambda x: x[0]) -/
def tSort0 (K : PySem.W.Frag) (P : Addr) (q : Str) (ta : TA) : TE := fun σ H Q => ta σ H fun vs H1 => TabS H1 P q ∧ ∃ (l : Addr) (xs : List V) (ks : List Int), vs = [.ref l] ∧ SqL K H1 l xs ∧ xs.length < 64 ∧ ks.length = xs.length ∧
  (∀ (i : Nat) (v : V) (k : Int), xs[i]? = some v → ks[i]? = some k → ∃ b r, v = .ref b ∧ SqT K H1 b (.int k :: r)) ∧ ks.Pairwise (· < ·) ∧ ∀ H2 p, Grew P q H1 H2 → H2 p = none → Q (.ref p) (upd H2 p (.lst xs))
end
end LamX
namespace L3
open PySem L2
theorem RelM.grew {K : PySem.W.Frag} {m : Mem} {G H H2 : Hp} {P : Addr} {q : Str} (r : RelM K m G H) (hm : m P = some (.tab q)) (g : LamX.Grew P q H H2) : ∃ G2, Sub G G2 ∧ RelM K m G2 H2 := by
  rcases g with rfl | ⟨ps, pos, c', hP, ht, hc, rfl⟩
  · exact ⟨G, Sub.refl G, r⟩
  · obtain ⟨gP, u, hu, ps0, rfl, h2, h3⟩ := r.mem P _ hm
    rw [hP] at hu
    cases hu
    have gP : G P = none := gP
    have gc : G c' = none := by
      cases z : G c' with
      | none => rfl
      | some u => rw [r.sub c' u z] at hc; cases hc
    have s1 : Sub G (upd G c' (LamX.CodeO c' q)) := Sub.new gc
    have nPc : P ≠ c' := ne_of_none hP hc
    refine ⟨_, s1, ⟨fun b w e => ?_, fun a o e => ?_⟩⟩
    · by_cases hb : b = c'
      · subst hb; rw [upd_same] at e ⊢; exact e
      · rw [upd_ne hb] at e
        rw [upd_ne hb, upd_ne (fun z => by rw [z, gP] at e; cases e)]
        exact r.sub b w e
    · obtain ⟨h1, w, hw, ho⟩ := r.mem a o e
      have nac : a ≠ c' := ne_of_none hw hc
      by_cases ha : a = P
      · subst ha
        rw [hm] at e
        cases e
        refine ⟨?_, .tbl (ps ++ #[rawInt pos.line, rawInt pos.col, .ref c']), by rw [upd_ne nac, upd_same], _, rfl, ?_, fun pos' cv hcv => ?_⟩
        · show upd G c' _ a = none
          rw [upd_ne nac]; exact gP
        · rw [show (ps ++ #[rawInt pos.line, rawInt pos.col, .ref c']).toList = ps.toList ++ [rawInt pos.line, rawInt pos.col, .ref c'] by simp]
          exact PySem.TriplesOk_snoc _ _ _ _ h2
        · rw [show (ps ++ #[rawInt pos.line, rawInt pos.col, .ref c']).toList = ps.toList ++ [rawInt pos.line, rawInt pos.col, .ref c'] by simp] at hcv
          rcases LamX.among_app _ h2 hcv with z | z
          · obtain ⟨c0, e1, e2⟩ := h3 pos' cv z
            exact ⟨c0, e1, s1 c0 _ e2⟩
          · exact ⟨c', z, upd_same⟩
      · exact ⟨by rw [upd_ne nac, upd_ne nac, upd_ne ha]; exact h1, w, by rw [upd_ne nac, upd_ne ha]; exact hw, ho.mono s1⟩
/-- sorted(xs, key=lambda x: x[0]): the first items are ints that rise -/
def qSort0 (P : Addr) (q : Str) (qa : QA) : QE := fun s m Φ => qa s m fun ds m1 => m1 P = some (.tab q) ∧ ∃ (xs : List D) (ks : List Int), ds = [.lst xs] ∧ xs.length < 64 ∧ ks.length = xs.length ∧ (∀ (i : Nat) (d : D) (k : Int), xs[i]? = some d → ks[i]? = some k → ∃ r, d = .tup (.int k :: r)) ∧ ks.Pairwise (· < ·) ∧ Φ (.lst xs) m1
end L3
end
section
/-! a law one of whose defs makes lambdas: the table of its code objects at P -/
namespace L3
open PySem PySem.Spec PyProof.Rows L2
def spLawT (K : PySem.W.Frag) (P : Addr) : Sp := fun vs H Q _ => ∃ (a : Addr) (ns : List Int), vs = [.ref a] ∧ H P = some (.tbl #[]) ∧ SqL K H a (ns.map V.int) ∧ ns.length ≤ 63 ∧ ∀ H', Q (.bl true) H'
def lspLawT (P : Addr) (q : Str) : LSp := fun ds m Φ => ∃ ns : List Int, ds = [.lst (ns.map D.int)] ∧ ns.length ≤ 63 ∧ m P = some (.tab q) ∧ (∀ a, a ≠ P → m a = none) ∧ ∀ m', Φ (.bl true) m'
/-- the name of the code object of a lambda made in the def of the qualified name x -/
abbrev lamq (x : Str) : Str := (x ++ ".<locals>.") ++ "<lambda>"
/-- a def's own code object is at hand in its body -/
theorem fno_ofC {P : Program} {w : World} {K : PySem.W.Frag} {mg : Str → Option Value} {base : Heap} {c : Addr} {x qual : Str} {st : Stmt} {f : Addr} {fd : FuncData} {N ps : List Str} {k : Nat} {sp : LSp} {qb : QS} (F : Fun K x qual st f fd) (hc : fd.code = .ref c) (S : FnScope N ps (defScope st)) (len : ∀ ds m Φ, sp ds m Φ → ds.length = ps.length)
    (hd : ∀ (A : Around) (outer : List Env) (s : Shared) (H : Hp) (E : XK), Room k (A.deeper (envOfC qual (defScope st) s.heap.objs.size f (.ref c))) → PSs (cxB P w K mg base N qual st f (.ref c) A outer s H E) (defBody st) (liftS K qb))
    (h : ∀ ds m Φ, sp ds m Φ → qb (bodyW Φ) (begin_ N.length ds) m) : FnOk P w K mg base CX0 (k + 1) f fd ps (liftSp K sp) := by
  obtain ⟨oc, od, kV, doc, pm, an, cdv, ct, osl, rfl, lk, hcd⟩ := F.ex
  obtain rfl : cdv = .ref c := hc
  refine fn_of lk hcd S (fun vs H Q E hs => ?_) fun A outer s H vs Q E hr hs => ⟨liftS K qb, PSs.nox (hd A outer s H E hr), body_liftW h hs⟩
  obtain ⟨G, m, ds, Φ, rm, rd, q, k⟩ := hs
  rw [← rd.length]; exact len ds m Φ q
/-- list(range(n)) -/
def qListR (qe : QE) : QE := fun s m Φ => qe s m fun x m1 => ∃ n : Int, x = .int n ∧ 0 ≤ n ∧ n ≤ 16777216 ∧ Φ (.lst ((List.range n.toNat).map fun i : Nat => D.int (i : Nat))) m1
end L3
end
section
set_option maxHeartbeats 2000000
/-! L6a: exceptions, plain: defs that raise, expressions that may raise -/
namespace L3
open PySem PySem.Spec PyProof.Rows L2
def FnDZ (P : Program) (w : World) (K : PySem.W.Frag) (mg : Str → Option Value) (base : Heap) (k : Nat) (f : Addr) (sp : LSpE) : Prop := FnR P w K mg base (L2.CX P w) k f (liftSpE K sp)
theorem takesZ0 {X : Cx} : L2.Takes X (fun _ _ _ _ => False) := fun _ _ ⟨_, _, _, _, _, _, _, _, _, _, _, _, _, _, _, _, w⟩ => w.elim
section
variable {P : Program} {w : World} {K : PySem.W.Frag} {mg : Str → Option Value} {base : Heap}
theorem okZ_of {x qual : Str} {st : Stmt} {f : Addr} {fd : FuncData} {N ps : List Str} {k : Nat} {sp : LSpE} {qb : DXs → QS} (F : Fun K x qual st f fd) (S : FnScope N ps (defScope st)) (len : ∀ ds m Φ Ψ, sp ds m Φ Ψ → ds.length = ps.length)
    (hd : ∀ (cdv : Value) (A : Around) (outer : List Env) (s : Shared) (H : Hp) (E : XK), Room k (A.deeper (envOfC qual (defScope st) s.heap.objs.size f cdv)) → PSs (cxOf (L2.CX P w) P w K mg base N qual (defScope st) f cdv A outer s H E) (defBody st) (liftSX K (fun cls d _ H => E cls d H) qb))
    (h : ∀ ds m Φ Ψ, sp ds m Φ Ψ → qb (fun cls od _ m => ∃ m', MLe m m' ∧ Ψ cls od m') (bodyW Φ) (begin_ N.length ds) m) : FnOk P w K mg base (L2.CX P w) (k + 1) f fd ps (liftSpE K sp) := by
  obtain ⟨oc, od, kV, doc, pm, an, cdv, ct, osl, rfl, lk, hcd⟩ := F.ex
  refine fn_of lk hcd S (fun vs H Q E hs => ?_) (fun A outer s H vs Q E hr hs => ⟨liftSX K (fun cls d _ H => E cls d H) qb, hd cdv A outer s H E hr, ?_⟩)
  · obtain ⟨G, m, ds, Φ, Ψ, rm, rd, q, k⟩ := hs
    rw [← rd.length]; exact len ds m Φ Ψ q
  · obtain ⟨G, m, ds, Φ, Ψ, rm, rd, q, k, kx⟩ := hs
    refine ⟨G, begin_ N.length ds, m, bodyW Φ, _, rm, relS_start rd, h ds m Φ Ψ q, ?_, ?_, fun _ _ _ _ _ _ _ _ z => z.elim, fun _ _ _ _ _ _ _ _ z => z.elim, ?_⟩
    · exact fun G' s' m' σ' H' e1 r1 _ ⟨m2, le, q1⟩ => k G' .non m2 .non H' e1 (r1.le le) rfl q1
    · exact fun G' d m' v H' e1 r1 rv ⟨m2, le, q1⟩ => k G' d m2 v H' e1 (r1.le le) rv q1
    · exact fun G' cls s' m' od σ' H' e1 r1 _ ⟨m2, le, q1⟩ => kx G' cls m2 od H' e1 (r1.le le) q1
theorem fndZ_of {f : Addr} {fd : FuncData} {ps : List Str} {k : Nat} {sp : LSpE} (F1 : FnOk P w K mg base (L2.CX P w) k f fd ps (liftSpE K sp)) (hb : Binds K fd ps []) : FnDZ P w K mg base k f sp := by
  intro A outer s H us vs Q E hr e0 r hs
  have hl : vs.length = ps.length := F1.len vs H Q E hs
  exact F1.run A outer s H ⟨us, []⟩ us vs Q E hr e0 (by
    have := hb s us (e0.mod.kin.keeps fun b o z => (e0.bs b o z).1) (by rw [List.append_nil, ← r.length]; exact hl)
    rwa [List.append_nil] at this) r hs
end
/-! ### expressions that may raise -/
abbrev QX := DSt → Mem → DK → DXe → Prop
def liftEX (K : PySem.W.Frag) (E : XK) (q : QX) : TE := fun σ H Q => ∃ (G : Hp) (s : DSt) (m : Mem) (Φ : DK) (Ψ : DXe), RelM K m G H ∧ RelS K s G σ ∧ q s m Φ Ψ ∧ KQ K G Φ Q ∧ KXE K G Ψ E
theorem KXE.mono {K : PySem.W.Frag} {G G' : Hp} {Ψ : DXe} {E : XK} (k : KXE K G Ψ E) (e : Sub G G') : KXE K G' Ψ E := fun G2 cls m' od H' e2 => k G2 cls m' od H' (e.trans e2)
def zCall (sp : LSpE) (qa : QA) : QX := fun s m Φ Ψ => qa s m fun ds m1 => sp ds m1 Φ Ψ
def zCallK (sp : LSpE) (n k : Nat) (is : List Nat) (qa qk : QA) : QX := fun s m Φ Ψ => qa s m fun ds m1 => qk s m1 fun es m2 => (ds.length = n ∧ es.length = k) ∧ sp (pick is (ds ++ es)) m2 Φ Ψ
section
variable {X : Cx} {E : XK} {k : Nat} {f : Addr} {x : Str} {p pos : Pos} {e : Expr} {es : List Expr}
theorem dz_call {sp : LSpE} {qa : QA} (F : FnDZ X.prog X.w X.K X.mg X.base k f sp) (hr : Room k X.A) (tk : L2.Takes X fun cls d _ H => E cls d H) (hg : Gl X x) (hm : X.mg x = some (.ref f)) (hk : PySem.W.keepIn X.K (.ref f) = true)
    (ha : PA X (e :: es) (liftA X.K qa)) (hdb : (x == ("__debug__" : Str)) = false := by decide) (he : starEach (e :: es) X.env = (false, eval e X.env) :: starEach es X.env := by rfl) (hpl : (backTo pos (starEach es X.env)).any (·.1) = false := by rfl) :
    PE X (.Call (.Name x p) (e :: es) [] pos) (liftEX X.K E (zCall sp qa)) :=
  pe_imp (pe_callR F hr hg hm hk (L2.passes_call tk fun _ _ _ _ h => h) ha hdb he hpl) fun σ H Q ⟨G, s, m, Φ, Ψ, rm, rs, q, kq, kx⟩ =>
    ⟨G, s, m, _, rm, rs, q, fun G1 ds m1 vs H1 e1 r1 rd q1 => ⟨G1, m1, ds, Φ, Ψ, r1, rd, q1, kq.mono e1, kx.mono e1⟩⟩
end
end L3
end
section
set_option maxHeartbeats 2000000
/-! L6b: a lambda without parameters handed to a def that calls it and takes its exceptions -/
namespace LamX
open PySem PySem.Spec PyProof.Rows L2
section
variable {X : Cx} {pins : List (Addr × Obj)} {σ : L2.St} {H HZ : Hp} {s s1 : Shared}
/-- a lambda is made; it is new -/
theorem lam_mkN {c P : Addr} {params : Arguments} {body : Expr} {scope : Scope} {pos : Pos} {E : Value → Shared → Prop} {Q : Value → Shared → Prop} (I : Inv X pins σ H s) (TB : TabB X.base X.mg c P) (hcode : X.env.code = .ref c)
    (hT : TabS H P (X.env.qual ++ "<lambda>")) (hdef : defaultsOf params X.env = ([], [])) (hfree : ∀ y ∈ scope.names, y.2 = .free → ∃ c, X.env.cells.lookup y.1 = some c)
    (h : ∀ (f c' : Addr) (pm ctv : Value) (H1 : Hp) (s' : Shared), Inv X pins σ H1 s' → Grew P (X.env.qual ++ "<lambda>") H H1 → H1 f = none → f ∉ frs X.stack →
      s'.heap.get? f = some (PySem.W.kla_obj "<lambda>" (X.env.qual ++ "<lambda>") params body scope (cloFrom X.env.cells scope.names []) pm c' ctv) → H1 c' = some (CodeO c' (X.env.qual ++ "<lambda>")) → Q (.ref f) s') :
    wpAny (model X.prog X.w) X.A (eval (.Lambda params body scope pos) X.env) Q E s := by
  obtain ⟨ps, hP, ht, ha⟩ := hT
  have hP' : s.heap.get? P = some { cls := .none, data := .fields ps } := I.hok P _ hP
  have notF : ∀ {b : Addr}, s.heap.objs.size ≤ b → b ∉ frs X.stack := by
    intro b hb hm
    cases List.mem_cons.mp (I.stkSub _ hm) with
    | inl e => exact Nat.lt_irrefl _ (Nat.lt_of_lt_of_le (show b < _ by rw [e]; exact I.lt) hb)
    | inr e => exact I.nofs hb e
  refine PySem.W.kla_eval hdef ?_
  cases hc : codeAmong pos ps.toList with
  | none =>
    refine PySem.W.kla_makeFunction (c := c) (P := P) (ps := ps) (mg := X.mg) (closure_ok hfree) I.ok.glob (I.mod.glob.keeps I.bk) hcode (TB.code.keeps I.bk) hP' ht hc TB.gP (TB.bm.keeps I.bk) ?_
    intro c' ctv h' tk hx hge hlt ⟨c2, oc, vs, t, e2, hoc, hd, hv⟩ htb
    cases e2
    have nC : H c' = none := I.hok.fresh hge
    have hsz : s.heap.objs.size ≤ h'.objs.size := by omega
    have nP : h'.objs.size ≠ P := Nat.ne_of_gt (Nat.lt_of_lt_of_le (Heap.lt_size hP') hsz)
    refine h h'.objs.size c' ((X.mg "__name__").getD .none) ctv _ _
      (inv_table (t' := tk) (more := #[rawInt pos.line, rawInt pos.col, .ref c']) (h' := h'.push (PySem.W.kla_obj "<lambda>" (X.env.qual ++ "<lambda>") params body scope (cloFrom X.env.cells scope.names []) ((X.mg "__name__").getD .none) c' ctv)) I hP
        (fun b o hb e => Heap.get?_push_of_some _ (hx b o hb e)) (Heap.get?_push_of_some _ htb) hge ⟨oc, vs, t, Heap.get?_push_of_some _ hoc, hd, hv⟩)
      (.inr ⟨ps, pos, c', hP, ht, nC, rfl⟩) ?_ (notF hsz) (Heap.get?_push_size _ rfl) upd_same
    rw [upd_ne (Nat.ne_of_gt hlt), upd_ne nP]
    exact I.hok.fresh hsz
  | some cv =>
    obtain ⟨c', e, hco⟩ := ha pos cv hc
    subst e
    refine PySem.W.kla_makeFunctionHit (c := c) (P := P) (ps := ps) (mg := X.mg) (closure_ok hfree) I.ok.glob (I.mod.glob.keeps I.bk) hcode (TB.code.keeps I.bk) hP' ht hc (TB.bm.keeps I.bk) ?_
    intro ctv h' tk hx hsz
    exact h h'.objs.size c' ((X.mg "__name__").getD .none) ctv H _ (I.kept (t' := tk) fun b o e => Heap.get?_push_of_some _ (hx b o e)) (.inl rfl) (I.hok.fresh hsz) (notF hsz) (Heap.get?_push_size _ rfl) hco
/-- a(), in the def that got the lambda; Z: its context -/
theorem pe_thunk {CXg : CXT} {Eg : XK} {Ng : List Str} {qg a : Str} {sg scope : Scope} {g f c' : Addr} {cdg pm ctv : Value} {params : Arguments} {body : Expr} {k i : Nat} {pn : List (Addr × Obj)} {xe : Value → Shared → Prop} {W : WX} {tb : XK → TE} {p1 p2 : Pos}
    (I : Inv X pins σ H s) (L : LamS X.env.scope scope) (hf : s.heap.get? f = some (PySem.W.kla_obj "<lambda>" (X.env.qual ++ "<lambda>") params body scope (cloFrom X.env.cells scope.names []) pm c' ctv)) (hfn : H f = none) (hfr : f ∉ frs X.stack)
    (hbind : bindArgs (PySem.W.kla_fn "<lambda>" (X.env.qual ++ "<lambda>") params body scope (cloFrom X.env.cells scope.names []) pm (.ref c') ctv) ⟨[], []⟩ = pure [])
    (tk : L2.Takes ((cxOf CXg X.prog X.w X.K X.mg X.base Ng qg sg g cdg X.A X.stack s H Eg).tr pn xe) W) (hr : Room (k + 1) (X.A.deeper (envOfC qg sg s.heap.objs.size g cdg)))
    (hbody : ∀ (A : Around) (outer : List Env) (s : Shared) (H : Hp) (E : XK), Room k (A.deeper (lamEnv X scope s.heap.objs.size f c')) → PE (lamCx X A outer s H E scope f c') body (tb E))
    (hN : Ng[i]? = some a) (hv : Vis sg a) (hd : (a == ("__debug__" : Str)) = false) (hcd : (a == ("__classdict__" : Str)) = false) :
    PE ((cxOf CXg X.prog X.w X.K X.mg X.base Ng qg sg g cdg X.A X.stack s H Eg).tr pn xe) (.Call (.Name a p1) [] [] p2)
      (fun σZ HZ Q => σZ[i]? = some (some (.ref f)) ∧ HZ c' = some (CodeO c' (X.env.qual ++ "<lambda>")) ∧ tb (fun cls d H' => W cls d σZ H') σ HZ Q) := by
  refine ⟨?_⟩
  intro pinsZ sZ σZ HZ Q IZ ⟨hs, hc, ht⟩
  have look := (pe_var (pos := p1) (i := i) hN hv hd hcd).run pinsZ sZ σZ HZ (fun v H1 => v = .ref f ∧ H1 = HZ) IZ ⟨.ref f, hs, rfl, rfl⟩
  refine wpAny_Call_Name_kw (thn look ?_)
  rintro u s1 ⟨v, H1, I1, r1, rfl, rfl⟩
  obtain rfl : u = Value.ref f := r1
  have of1 := I1.base.keep f _ hf hfn hfr (fun z => nomatch (show f ∈ ([] : List Addr) from z))
  refine PySem.W.callWith_F0 ⟨_, _, _, _, of1⟩ ?_
  obtain ⟨⟨oc, vs, t, hoc, hdc, hvc⟩, _, _⟩ := I1.hok c' _ hc
  have fin : codeAny (model X.prog X.w) (X.A.deeper (envOfC qg sg s.heap.objs.size g cdg)) (.call (.ref f) ⟨[], []⟩) (CR (L2.CX X.prog X.w) (envOfC qg sg s.heap.objs.size g cdg :: X.stack) X.prog X.w H1 s1 Q fun cls d H' => W cls d σZ H') s1 := by
    refine PySem.W.kla_callFunE hr.depth of1 rfl L.co L.gen rfl ⟨c', oc, vs, t, rfl, hoc, hdc, hvc⟩ ?_
    rw [hbind]
    refine wpAny_pure (wpAny_newFunctionEnv (fun y hy => (L.own y hy).2) (fun y hy => absurd hy (by simp)) (fun h₁ hns hsb => ?_) L.kind)
    refine ⟨I1.nolimit.fresh _ hsb, ?_⟩
    show codeAny _ _ (.expr body (lamEnv X scope s1.heap.objs.size f c')) _ _
    have J := lam_start2 (E := fun cls d H' => W cls d σZ H') (f := f) (c' := c') (tk := s1.toks + ([] : List (Str × Value)).length) I L I1.env0 hr.hd I1.base hns (fun b o e => hsb.extBut b o (Nat.ne_of_lt (Heap.lt_size e)) (Heap.get?_push_of_some _ e))
    refine PySem.W.kla_codeExpr (wpAny_mono ((hbody _ _ s1 H1 _ (hr.deeper _)).run [] _ _ H1 Q J ht) ?_ fun _ _ z => z)
    rintro v s' ⟨w', H', J', rv, q⟩
    exact ⟨w', H', J'.os, J'.bare, J'.base, J'.hok, rv, q⟩
  refine wpAny_call (codeAny_mono fin fun r s' hq => ?_)
  match r, hq with
  | .error er, hq => exact tk er s' (L2.XE.of_call I1 (fun _ _ _ z => z) hq)
  | .ok (.ret u), hq => exact I1.after hq
  | .ok .next, hq => exact hq.elim
  | .ok .brk, hq => exact hq.elim
  | .ok .cont, hq => exact hq.elim
end
/-- the def at g makes TT of what it got -/
def Gives (X : Cx) (Ng : List Str) (x : Str) (sg : Scope) (g : Addr) (cdg : Value) (bg : List Stmt) (a : Str) (q : Str) (TT : (XK → Hp → VK → Prop) → Hp → VK → Prop) : Prop :=
  ∀ (f c' : Addr) (s : Shared) (H : Hp) (Q : VK) (tl : XK → Hp → VK → Prop), (∀ (E E' : XK) (H : Hp) (Q : VK), (∀ cls d H, E cls d H → E' cls d H) → tl E H Q → tl E' H Q) →
    (∀ (W : WX) (pn : List (Addr × Obj)) (xe : Value → Shared → Prop) (p1 p2 : Pos), L2.Takes ((cxOf C8.CX0 X.prog X.w X.K X.mg X.base Ng x sg g cdg X.A X.stack s H C8.E0).tr pn xe) W →
      PE ((cxOf C8.CX0 X.prog X.w X.K X.mg X.base Ng x sg g cdg X.A X.stack s H C8.E0).tr pn xe) (.Call (.Name a p1) [] [] p2) (fun σZ HZ Q => σZ[0]? = some (some (.ref f)) ∧ HZ c' = some (CodeO c' q) ∧ tl (fun cls d H' => W cls d σZ H') HZ Q)) →
    H c' = some (CodeO c' q) → TT tl H Q →
    ∃ t, PSs (cxOf C8.CX0 X.prog X.w X.K X.mg X.base Ng x sg g cdg X.A X.stack s H C8.E0).nox bg t ∧ t { nx := fun _ H' => Q .non H', rt := Q } (L2.start Ng [.ref f]) H
section
variable {X : Cx}
/-- x(lambda: body) -/
theorem pe_give {TT : (XK → Hp → VK → Prop) → Hp → VK → Prop} {x a : Str} {g c P : Addr} {k : Nat} {pg : Arguments} {bg : List Stmt} {sg : Scope} {dV kV doc pm cdv ct oc : Value} {an od : Option Addr} {osl : Array (Option Value)} {Ng : List Str}
    {params : Arguments} {body : Expr} {scope : Scope} {t : XK → TE} {p lpos pos : Pos} (hg : Gl X x) (hm : X.mg x = some (.ref g)) (hk : PySem.W.keepIn X.K (.ref g) = true)
    (lk : X.K.lookup g = some ⟨oc, od, .func (PySem.W.fnOf x x pg bg sg dV kV doc pm an cdv ct), osl⟩) (hcg : PySem.W.codeIn X.K cdv x = true) (hb : L2.Binds X.K (PySem.W.fnOf x x pg bg sg dV kV doc pm an cdv ct) [a] []) (Sg : FnScope Ng [a] sg) (hNg : Ng[0]? = some a) (hva : Vis sg a)
    (hG : Gives X Ng x sg g cdv bg a (X.env.qual ++ "<lambda>") TT) (hmono : ∀ (σ : L2.St) (E E' : XK) (H : Hp) (Q : VK), (∀ cls d H, E cls d H → E' cls d H) → t E σ H Q → t E' σ H Q)
    (TB : TabB X.base X.mg c P) (hcode : X.env.code = .ref c) (hr : Room (k + 2) X.A) (L : LamS X.env.scope scope) (hdef : defaultsOf params X.env = ([], []))
    (hbind : ∀ (q : Str) (cl : List (Str × Addr)) (pm cv ctv : Value), bindArgs (PySem.W.kla_fn "<lambda>" q params body scope cl pm cv ctv) ⟨[], []⟩ = pure [])
    (hbody : ∀ (A : Around) (outer : List Env) (s : Shared) (H : Hp) (E : XK) (f c' : Addr), Room k (A.deeper (lamEnv X scope s.heap.objs.size f c')) → PE (lamCx X A outer s H E scope f c') body (t E))
    (hdb : (x == ("__debug__" : Str)) = false) (hd : (a == ("__debug__" : Str)) = false) (hcd : (a == ("__classdict__" : Str)) = false) :
    PE X (.Call (.Name x p) [.Lambda params body scope lpos] [] pos) (fun σ H Q => TabS H P (X.env.qual ++ "<lambda>") ∧ ∀ H1, Grew P (X.env.qual ++ "<lambda>") H H1 → TT (fun E H' Q' => t E σ H' Q') H1 Q) := by
  refine ⟨?_⟩
  intro pins s σ H Q I ⟨hT, hq⟩
  refine wpAny_Call_Name_kw (ld_glob I hg hm ?_ hdb)
  refine PySem.W.callWith_K (h₀ := X.base) I.ok.mod.kin hk ?_ (by rfl) (by rfl)
  show wpAny _ _ (spliced ((false, eval (.Lambda params body scope lpos) X.env) :: backTo pos (starEach [] X.env))) _ _ s
  refine Calls.spliced_cons (lam_mkN I TB hcode hT hdef (L.has I.ok) ?_)
  intro f c' pm' ctv H1 s' I1 gr hfn hfr hf hco
  refine Calls.spliced_nil ⟨I1.kIn, ?_⟩
  have ran : codeAny (model X.prog X.w) X.A (.call (.ref g) ⟨[.ref f], []⟩) (CR C8.CX0 X.stack X.prog X.w H1 s' Q C8.E0) s' := by
    refine run_ofS (N := Ng) (ps := [a]) (us := [.ref f]) (vs := [.ref f]) lk hcg Sg hr I1.env0 (hb s' [.ref f] I1.kIn rfl) (.cons rfl .nil) rfl ?_
    intro hr'
    obtain ⟨t', ht', hq'⟩ := hG f c' s' H1 Q (fun E H' Q' => t E σ H' Q') (hmono σ) (fun W pn xe p1 p2 tk => pe_thunk (i := 0) I1 L hf hfn hfr (hbind _ _ _ _ _) tk hr' (fun A outer s H E hr2 => hbody A outer s H E f c' hr2) hNg hva hd hcd) hco (hq H1 gr)
    exact ⟨t', ht'.nox, hq'⟩
  refine wpAny_call (codeAny_mono ran fun r s2 h2 => ?_)
  match r, h2 with
  | .error er, h2 => exact (show False from h2).elim
  | .ok (.ret u), h2 => exact I1.after h2
  | .ok .next, h2 => exact h2.elim
  | .ok .brk, h2 => exact h2.elim
  | .ok .cont, h2 => exact h2.elim
end
end LamX
end
section
set_option maxHeartbeats 2000000
/-! L6c: try: return [w, a()] except D as en: .., a the lambda that was handed over; over data -/
namespace L3
open PySem PySem.Spec PyProof.Rows L2 LamX
def TTold (K : PySem.W.Frag) (D : Addr) (w : Str) (qs : Addr → Value → Option Addr → QS) : (XK → Hp → VK → Prop) → Hp → VK → Prop := fun tl H Q =>
  tl (fun cls d H' => PySem.W.exmOne K cls (.ref D) = some true ∧ ∀ e f, H' e = none → liftS K (qs e cls d) { nx := fun _ H'' => Q .non H'', rt := Q } [some (.ref f), some (.ref e)] H') H (fun v H' => ∀ p, H' p = none → Q (.ref p) (upd H' p (.lst [.str w, v])))
def qTold (P : Addr) (q : Str) (Cs : List Addr) (w : Str) (ql : QX) (qs : Addr → Value → Option Addr → QS) : QE := fun s m Φ => m P = some (.tab q) ∧ ql s m (fun d m1 => Φ (.lst [.str w, d]) m1) (fun cls od m1 => (∃ C ∈ Cs, cls = .ref C) ∧ ∀ e, m1 e = none → qs e cls od (bodyW Φ) [none, some (.ref e)] m1)
theorem relS_two {K : PySem.W.Frag} {G : Hp} {f e : Addr} : RelS K [none, some (.ref e)] G [some (.ref f), some (.ref e)] := ⟨rfl, fun i d h => by
  match i, h with
  | 0, h => cases h
  | 1, h => cases h; exact ⟨.ref e, rfl, rfl⟩
  | i + 2, h => simp at h⟩
end L3
end
section
set_option maxHeartbeats 2000000
/-! L5h: iterators that end while an exception is handled -/
namespace HotE
open PySem PySem.Spec PyProof.Rows HotX
section
variable {prog : Program} {w : World} {A : Around} {E : Value → Shared → Prop} {s : Shared}
end
end HotE
end
section
set_option maxHeartbeats 2000000
/-! L5i: comprehensions, unpacking, zip, all while an exception is handled -/
namespace HotE
open PySem PySem.Spec PyProof.Rows L2 L2H HotX
/-- the block of a comprehension, its pins kept -/
abbrev blkH (X : Cx) (s : Shared) (H : Hp) (scope : Scope) (cenv : Env) (fp : List Addr) : Cx := { X.blk s H scope cenv fp with pn := X.pn }
section
variable {X : Cx} {pos : Pos}
end
def iZipTH (K : PySem.W.Frag) (ta : TA) : TI := fun σ H R => ta σ H fun vs H1 => ∃ a b xs ys, vs = [.ref a, .ref b] ∧ SqT K H1 a xs ∧ SqT K H1 b ys ∧ R (RZ.ItzT K a b) H1
section
variable {X : Cx}
end
end HotE
end
section
/-! L5j: defs called while an exception is handled, over data -/
namespace L3
open PySem PySem.Spec PyProof.Rows L2 L2H HotX HotE
section
variable {prog : Program} {w : World} {A : Around} {E : Value → Shared → Prop} {s : Shared}
end
section
variable {X : Cx} {pos : Pos}
/-- zip of two tuples -/
def iZipTD (qa : QA) : QI := fun s m Ξ => qa s m fun ds m1 => ∃ xs ys, ds = [.tup xs, .tup ys] ∧ Ξ (zipD xs ys) (fun _ => True) m1
end
/-! ### defs -/
def FnDH (P : Program) (w : World) (K : PySem.W.Frag) (mg : Str → Option Value) (base : Heap) (k : Nat) (f : Addr) (sp : LSp) : Prop := ∃ fd ps, FnH P w K mg base CX0 k f fd ps (liftSp K sp) ∧ Binds K fd ps []
abbrev cxBH (P : Program) (w : World) (K : PySem.W.Frag) (mg : Str → Option Value) (base : Heap) (N : List Str) (qual : Str) (st : Stmt) (f : Addr) (cdv : Value) (A : Around) (outer : List Env) (s : Shared) (H : Hp) (E : XK) (p : Addr × Obj) : Cx := (cxH CX0 P w K mg base N qual (defScope st) f cdv A outer s H E p).nox
section
variable {P : Program} {w : World} {K : PySem.W.Frag} {mg : Str → Option Value} {base : Heap}
end
section
variable {X : Cx} {k : Nat} {f : Addr} {x : Str} {p pos : Pos} {e : Expr} {es : List Expr}
end
end L3
end
section
/-! L5k: what the written part says of an exception class that is raised and caught -/
namespace L3
open PySem PySem.Spec PyProof.Rows L2 L2H HotX HotE
structure ExK (K : PySem.W.Frag) (mg : Str → Option Value) (x : Str) (C fI : Addr) (f : Str) : Prop where
  gx : mg x = some (.ref C)
  oex : OexC K C
  xf : XfC K C
  xc : ExcC K C
  no : PySem.W.findIn K (.ref C) f = some none
  ini : PySem.W.findIn K (.ref C) "__init__" = some (some (.ref fI))
  ti : PySem.W.typeIn K (.ref fI) = some (.type "function")
end L3
end
section
set_option maxHeartbeats 2000000
/-! L6d: laws several of whose defs make lambdas; isinstance of an exception of one of several classes; calls by name that may raise -/
namespace L3
open PySem PySem.Spec PyProof.Rows L2 LamX
/-! ### several tables -/
def spLawTs (K : PySem.W.Frag) (Ps : List Addr) : Sp := fun vs H Q _ => ∃ (a : Addr) (ns : List Int), vs = [.ref a] ∧ (∀ P ∈ Ps, H P = some (.tbl #[])) ∧ SqL K H a (ns.map V.int) ∧ ns.length ≤ 63 ∧ ∀ H', Q (.bl true) H'
def lspLawTs (T : List (Addr × Str)) : LSp := fun ds m Φ => ∃ ns : List Int, ds = [.lst (ns.map D.int)] ∧ ns.length ≤ 63 ∧ (∀ p ∈ T, m p.1 = some (.tab p.2)) ∧ (∀ a, (∀ p ∈ T, a ≠ p.1) → m a = none) ∧ ∀ m', Φ (.bl true) m'
theorem law_impTs {K : PySem.W.Frag} {T : List (Addr × Str)} (hnd : (T.map (·.1)).Nodup) : ∀ vs H Q E, spLawTs K (T.map (·.1)) vs H Q E → liftSp K (lspLawTs T) vs H Q E := by
  rintro vs H Q E ⟨a, ns, h1, hP, h2, h3, h4⟩
  have look : ∀ (T : List (Addr × Str)), (T.map (·.1)).Nodup → ∀ p ∈ T, T.lookup p.1 = some p.2 := by
    intro T
    induction T with
    | nil => intro _ p hp; simp at hp
    | cons x T ih =>
      intro nd p hp
      have nd := List.nodup_cons.mp (show (x.1 :: T.map (·.1)).Nodup from nd)
      rw [List.lookup_cons]
      rcases List.mem_cons.mp hp with rfl | hp
      · simp
      · have : (p.1 == x.1) = false := by
          apply beq_false_of_ne
          intro z
          exact nd.1 (by rw [← z]; exact List.mem_map.mpr ⟨p, hp, rfl⟩)
        rw [this]
        exact ih nd.2 p hp
  have look2 : ∀ (T : List (Addr × Str)) (b : Addr) (q : Str), T.lookup b = some q → (b, q) ∈ T := by
    intro T
    induction T with
    | nil => intro b q h; simp at h
    | cons x T ih =>
      intro b q h
      rw [List.lookup_cons] at h
      by_cases e : b = x.1
      · subst e
        simp at h
        subst h
        exact List.mem_cons_self
      · rw [beq_false_of_ne e] at h
        exact List.mem_cons_of_mem _ (ih b q h)
  have isP : ∀ b, b ∈ T.map (·.1) → H b = some (.tbl #[]) := hP
  have haP : ∀ {o : HO}, H a = some o → (∀ ps, o ≠ .tbl ps) → a ∉ T.map (·.1) := fun e n z => by rw [isP a z] at e; exact n _ (Option.some.inj e).symm
  let G : Hp := fun b => if b ∈ T.map (·.1) then none else H b
  have hl : SqL K G a (ns.map V.int) := by
    rcases h2 with (h2 | ⟨o, h2⟩) | h2
    · exact .inl (.inl ((if_neg (haP h2 fun ps z => nomatch z)).trans h2))
    · exact .inl (.inr ⟨o, (if_neg (haP h2 fun ps z => nomatch z)).trans h2⟩)
    · exact .inr h2
  refine ⟨G, fun b => (T.lookup b).map AO.tab, [.lst (ns.map D.int)], fun d _ => d = .bl true, ⟨fun b o e => ?_, fun b o e => ?_⟩, ?_, ?_, ?_⟩
  · by_cases hb : b ∈ T.map (·.1)
    · have e : (if b ∈ T.map (·.1) then none else H b) = some o := e
      rw [if_pos hb] at e; cases e
    · have e : (if b ∈ T.map (·.1) then none else H b) = some o := e
      rw [if_neg hb] at e; exact e
  · cases z : T.lookup b with
    | none => rw [z] at e; cases e
    | some q =>
      rw [z] at e
      cases e
      have hm := look2 T b q z
      have hb : b ∈ T.map (·.1) := List.mem_map.mpr ⟨_, hm, rfl⟩
      refine ⟨if_pos hb, _, isP b hb, #[], rfl, trivial, fun pos cv z => ?_⟩
      have z : codeAmong pos [] = some cv := z
      simp [codeAmong] at z
  · subst h1
    exact ⟨_, [], rfl, ⟨a, _, rfl, hl, RVs.of_ints ns⟩, rfl⟩
  · refine ⟨ns, rfl, h3, fun p hp => ?_, fun b hb => ?_, fun _ => rfl⟩
    · show (T.lookup p.1).map AO.tab = _
      rw [look T hnd p hp]; rfl
    · show (T.lookup b).map AO.tab = _
      cases z : T.lookup b with
      | none => rfl
      | some q => exact absurd rfl (hb _ (look2 T b q z))
  · intro G1 d m1 v H1 e1 r1 rd q1
    subst q1
    obtain rfl : v = .bl true := rd
    exact h4 H1
theorem _root_.L2.FnOk.imp_lawTs {P : Program} {w : World} {K : PySem.W.Frag} {mg : Str → Option Value} {base : Heap} {CX : CXT} {k : Nat} {f : Addr} {T : List (Addr × Str)} {fd : FuncData} {ps : List Str} (hnd : (T.map (·.1)).Nodup) (F : FnOk P w K mg base CX k f fd ps (liftSp K (lspLawTs T))) : FnOk P w K mg base CX k f fd ps (spLawTs K (T.map (·.1))) := F.imp (law_impTs hnd)
theorem walk_Ts {l : PySem.W.OpenLaw} {q : Program} {loose : List Str} {XP : (Str → Option Value) → Heap → Prop} {YP : World → Heap → Prop} {d : DefRec} {K : Params → PySem.W.Frag} {x : Str} {kk : Nat} (hn : l.most = some 63) (hdf : d.params.defaults = []) (hr : Room kk callerA)
    (hY : ∀ (w : World) (h : Heap), YP w h → (K w.params).In h)
    (F : ∀ (w : World) (mg : Str → Option Value) (fa : Addr) (h : Heap) (s₀ : Shared) (mb : Str → Option Value), PySem.W.Ground q loose [] XP w s₀ mg mb h → (K w.params).In h → h.Ns mainGlobals mg → mg d.name = some (.ref fa) →
      ∃ (fd : FuncData) (cs : List (Addr × Addr)), (∀ p ∈ cs, h.get? p.2 = some { cls := .none, data := .fields #[] }) ∧ (∀ p ∈ cs, (K w.params).lookup p.2 = none) ∧ (∀ p ∈ cs, PySem.W.CodeHd h p.1 p.2) ∧ (∀ (s : Shared) (u : Value), BindsTo s fd ⟨[u], []⟩ [(x, u)]) ∧
        ∀ base : Heap, (K w.params).In base → base.Ns mainGlobals mg → (∀ p ∈ cs, LamX.TabB base mg p.1 p.2) → FnOk l.prog w (K w.params) mg base CX0 kk fa fd [x] (spLawTs (K w.params) (cs.map (·.2)))) :
    PySem.W.WalkO q loose XP YP l.row.toRowW d [] (fun f vs => PySem.call f vs) := by
  refine Att.attach_callB hn hdf fun w s₀ s₁ mg mb fa o pm cd doc a vs ns G Y ho hd hcd hmg hobj hints hlen hbits hg => ?_
  have KX := hY w _ Y
  obtain ⟨fd, cs, hP, nP, C, hb, hF⟩ := F w mg fa _ s₀ mb G KX G.T.g hmg
  refine LamX.law_callTs (cs := cs) KX G.T.g G.T.b G.T.builtins G.T.nolimit hg hP nP C G.T.bmain hobj hints (Nat.le_trans hlen (by decide)) hr (fun base h1 h2 h3 => hF base h1 h2 h3) hb (fun H hH hS => ?_) fun H e s' z => z
  refine ⟨a, ns, rfl, fun P hPm => ?_, hS, hlen, fun _ => rfl⟩
  obtain ⟨p, hp, rfl⟩ := List.mem_map.mp hPm
  exact hH p hp
/-! ### isinstance of the exception in hand, of one of several classes -/
def qIsEm (a : Addr) (cls : Value) (od : Option Addr) (T : List (Addr × Bool)) (qe : QE) : QE := fun s m Φ => ∃ C b, (C, b) ∈ T ∧ cls = .ref C ∧ qe s m fun x m1 => x = .ref a ∧ ∃ dd fs, od = some dd ∧ m1 dd = some (.xd fs) ∧ Φ (.bl b) m1
/-! ### defs with default values; calls by name -/
section
variable {P : Program} {w : World} {K : PySem.W.Frag} {mg : Str → Option Value} {base : Heap}
end
section
variable {X : Cx} {E : XK} {k : Nat} {f : Addr} {fd : FuncData} {ps ks : List Str} {x : Str} {p pos : Pos} {e : Expr} {es : List Expr} {kws : List Keyword} {n kk : Nat} {is : List Nat} {sp : LSpE} {qa qk : QA}
end
end L3
end
section
/-! L6e: a text times an int; text.split(sep) -/
namespace L3
open PySem PySem.Spec PyProof.Rows L2
section
variable {X : Cx}
def qMulS : D → D → Mem → DK → Prop := fun x y m Φ => match x, y with
  | .str a, .int k => MulOk a k ∧ Φ (.str (PySem.Txt.mul a k)) m
  | _, _ => False
def SplK (x y : D) (m : Mem) (Φ : DK) : Prop := match x, y with
  | .str a, .str b => (b.length == 0) = false ∧ a.length + 2 ≤ sizeLine ∧ ∀ p, m p = none → Φ (.ref p) (mset m p (.lst ((PySem.Txt.split a b).map D.str)))
  | _, _ => False
def qSplit (qo qe : QE) : QE := fun s m Φ => qo s m fun x m1 => (∃ a, x = .str a) ∧ qe s m1 fun y m2 => SplK x y m2 Φ
end
section
variable {s : DSt} {m : Mem} {Φ : DK} {qe qo : QE}
end
end L3
end
section
/-! L6f: calls by name that leave a default value -/
namespace L3
open PySem PySem.Spec PyProof.Rows L2
def pickD {α : Type} (n k : Nat) (is : List Nat) (ex us ws : List α) : List α := if us.length = n ∧ ws.length = k then pick is ((us ++ ws) ++ ex) else []
def KwDB (K : PySem.W.Frag) (fd : FuncData) (ps ks : List Str) (n : Nat) (is : List Nat) (dvs : List V) : Prop := ∃ its : List Value, Vals dvs its ∧ KBinds K fd ps ks (pickD n ks.length is its) (pickD n ks.length is dvs)
def qCallKD (sp : LSp) (k : Nat) (is : List Nat) (dds : List D) (qk : QA) : QE := fun s m Φ => qk s m fun es m2 => es.length = k ∧ sp (pick is (es ++ dds)) m2 Φ
section
variable {X : Cx} {k kk : Nat} {f : Addr} {fd : FuncData} {ps ks : List Str} {x : Str} {p pos : Pos} {kws : List Keyword} {is : List Nat} {sp : LSp} {qk : QA} {dds : List D} {dvs : List V}
end
end L3
end
section
/-! L6g: calls by name, of a def with default values, that leave none of them -/
namespace L3
open PySem PySem.Spec PyProof.Rows L2
end L3
end
section
/-! len(set(xs)) of texts all unlike -/
namespace SN
open PySem PySem.Spec PyProof.Rows
section
variable {prog : Program} {w : World} {A : Around} {R : Result → Shared → Prop} {I : Addr} {fp wr : List Addr} {G : Array GenState → Array GenState → Prop} {n : Nat} {P : Nat → Value → Prop} {St : Nat → Shared → Prop}
end
section
variable {prog : Program} {w : World} {A : Around} {E : Value → Shared → Prop} {s : Shared}
abbrev emptyS (led : Bool) : Obj := { cls := .type "set", dict := none, data := .set #[] 0 (.fresh 0 0 led) }
end
end SN
namespace L2
open PySem PySem.Spec PyProof.Rows
/-- len(set(xs)), xs a list of texts all unlike -/
def tLenSetN (K : PySem.W.Frag) (ta : TE) : TE := fun σ H Q => ta σ H fun x H1 => ∃ l, ∃ xs : List Str, x = .ref l ∧ SqL K H1 l (xs.map V.str) ∧ xs.Nodup ∧ xs.length < 60 ∧ Q (.int xs.length) H1
end L2
namespace L3
open PySem L2
def qLenSetN (qe : QE) : QE := fun s m Φ => qe s m fun x m1 => match x with
  | .lst ds => ∃ ys : List Str, ds = ys.map D.str ∧ ys.Nodup ∧ ys.length < 60 ∧ Φ (.int ys.length) m1
  | _ => False
end L3
end
section
/-! L7s: len(set(xs)) of any texts, a list or a tuple -/
namespace SM
open PySem PySem.Spec PyProof.Rows SN
/-- how many unlike texts stand among the first i -/
def nset (xs : List Str) : Nat → Nat
  | 0 => 0
  | i + 1 => if decide (xs.getD i Str.empty ∈ xs.take i) = true then nset xs i else nset xs i + 1
section
variable {prog : Program} {w : World} {A : Around} {R : Result → Shared → Prop} {I : Addr} {fp wr : List Addr} {G : Array GenState → Array GenState → Prop} {n : Nat} {P : Nat → Value → Prop} {St : Nat → Shared → Prop}
end
section
variable {prog : Program} {w : World} {A : Around} {E : Value → Shared → Prop} {s : Shared}
end
end SM
namespace L2
open PySem PySem.Spec PyProof.Rows
/-- len(set(xs)), xs a list or a tuple of texts -/
def tLenSetM (K : PySem.W.Frag) (ta : TE) : TE := fun σ H Q => ta σ H fun x H1 => ∃ l, ∃ xs : List Str, x = .ref l ∧ (SqL K H1 l (xs.map V.str) ∨ SqT K H1 l (xs.map V.str)) ∧ xs.length < 60 ∧ Q (.int (SM.nset xs xs.length)) H1
end L2
namespace L3
open PySem L2
def qLenSetM (qe : QE) : QE := fun s m Φ => qe s m fun x m1 => ∃ ys : List Str, ItemsAt x m1 (ys.map D.str) ∧ ys.length < 60 ∧ Φ (.int (SM.nset ys ys.length)) m1
end L3
end
section
set_option maxHeartbeats 2000000
/-! L7a: constructors and methods that may raise; keyword-only parameters with defaults -/
namespace L3
open PySem PySem.Spec PyProof.Rows L2
section
variable {X : Cx} {E : XK} {k n kk : Nat} {f C : Addr} {fd : FuncData} {ps ks : List Str} {is : List Nat} {x m : Str} {p pos apos : Pos} {e o : Expr} {es : List Expr} {kws : List Keyword} {sp : LSpE} {qa qk : QA} {qo : QE} {dds : List D} {mz : List V}
/-- the binding of C(.., k = v, ..): keyword-only parameters that lack stand last -/
def KwC (K : PySem.W.Frag) (fd : FuncData) (ps ks : List Str) (n : Nat) (is : List Nat) (mz : List V) : Prop := ∃ mv : List Value, KBn K fd ps n ks (fun us ws => pick is ((us ++ ws) ++ mv)) (fun vs zs => pick is ((vs ++ zs) ++ mz))
def zMakeK (C : Addr) (sp : LSpE) (n kk : Nat) (is : List Nat) (dds : List D) (qa qk : QA) : QX := fun s m Φ Ψ => qa s m fun ds m1 => qk s m1 fun es m2 => (ds.length = n ∧ es.length = kk) ∧ ∀ a, m2 a = none →
  sp (pick is ((.ref a :: ds ++ es) ++ dds)) (mset m2 a (.ins C [])) (fun d m3 => match d with | .non => Φ (.ref a) m3 | _ => False) Ψ
/-- o.m(e, ..), which may raise -/
def zMeth (C : Addr) (m : Str) (sp : LSpE) (qo : QE) (qa : QA) : QX := fun s mm Φ Ψ => qo s mm fun x m1 => match x with
  | .ref a => ∃ fs, m1 a = some (.ins C fs) ∧ fs.lookup m = none ∧ qa s m1 fun ds m2 => sp (x :: ds) m2 Φ Ψ
  | _ => False
/-- o.m(k = v, ..), which may raise -/
def zMethK (C : Addr) (m : Str) (sp : LSpE) (kk : Nat) (is : List Nat) (qo : QE) (qk : QA) : QX := fun s mm Φ Ψ => qo s mm fun x m1 => match x with
  | .ref a => ∃ fs, m1 a = some (.ins C fs) ∧ fs.lookup m = none ∧ qk s m1 fun es m2 => es.length = kk ∧ sp (pick is (x :: es)) m2 Φ Ψ
  | _ => False
/-- o.m(k = v, ..) -/
def qMethK (C : Addr) (m : Str) (sp : LSp) (kk : Nat) (is : List Nat) (qo : QE) (qk : QA) : QE := fun s mm Φ => qo s mm fun x m1 => match x with
  | .ref a => ∃ fs, m1 a = some (.ins C fs) ∧ fs.lookup m = none ∧ qk s m1 fun es m2 => es.length = kk ∧ sp (pick is (x :: es)) m2 Φ
  | _ => False
/-- a if c else b, which may raise -/
def zIfE (qc : QT) (a b : QX) : QX := fun s m Φ Ψ => qIfE qc (fun s m Φ => a s m Φ Ψ) (fun s m Φ => b s m Φ Ψ) s m Φ
/-- an expression that may raise, where it does not -/
def zNo (q : QX) : QE := fun s m Φ => q s m Φ fun _ _ _ => False
/-- return e, which may raise -/
def sRetX (q : QX) : DXs → QS := fun Ψ E s m => q s m E.rt fun cls od m1 => Ψ cls od s m1
/-- e as a statement, which may raise -/
def sExprX (q : QX) : DXs → QS := fun Ψ E s m => q s m (fun _ m1 => E.nx s m1) fun cls od m1 => Ψ cls od s m1
end
section
variable {P : Program} {w : World} {K : PySem.W.Frag} {mg : Str → Option Value} {base : Heap}
end
section
variable {s : DSt} {m : Mem} {Φ : DK} {Ψ : DXe} {DX : DXs} {E : DE} {q : QX} {qa qk : QA} {sp : LSpE}
end
end L3
end
section
set_option maxHeartbeats 2000000
/-! L7b: repr of own objects, own == against anything, isinstance of anything and an own class, joins, t[::-1] -/
namespace HT
open PySem PySem.SeqAt PyProof.Rows
section
variable {prog : Program} {w : World} {A : Around} {E : Value → Shared → Prop} {s : Shared}
theorem adjust_rev (n : Nat) : Builtin.Slice.sliceAdjust none none (-1) (n : Int) = ((n : Int) - 1, -1) := rfl
end
end HT
namespace L3
open PySem PySem.Spec PyProof.Rows L2
section
variable {X : Cx}
/-! ### repr(x), x of an own class -/
def bReprO (C : Addr) (sp : LSp) : LSp := fun ds m Φ => match ds with
  | [.ref a] => (∃ fs, m a = some (.ins C fs)) ∧ sp [.ref a] m fun d m1 => match d with | .str z => Φ (.str z) m1 | _ => False
  | _ => False
/-! ### x == y by an own __eq__, y an object of the class, a tuple or a text -/
def vEqA (C : Addr) (sp : LSp) : D → D → Mem → DK → Prop := fun x y m Φ => match x with
  | .ref a => (∃ fs, m a = some (.ins C fs)) ∧ ((∃ b fs, y = .ref b ∧ m b = some (.ins C fs)) ∨ (∃ ds, y = .tup ds) ∨ ∃ z, y = .str z) ∧ sp [.ref a, y] m fun d m1 => match d with | .bl c => Φ (.bl c) m1 | _ => False
  | _ => False
/-! ### isinstance(x, C), x an object of the class, a tuple or a text -/
def qIsCA (C : Addr) (qe : QE) : QE := fun s m Φ => qe s m fun x m1 => ((∃ a fs, x = .ref a ∧ m1 a = some (.ins C fs)) ∧ Φ (.bl true) m1) ∨ (((∃ ds, x = .tup ds) ∨ ∃ z, x = .str z) ∧ Φ (.bl false) m1)
/-! ### a.join(xs), xs a list or a tuple that never changes -/
def qJoinA (qo qe : QE) : QE := fun s m Φ => qo s m fun x m1 => (∃ a, x = .str a) ∧ qe s m1 fun y m2 => match x with
  | .str a => ∃ ys : List Str, (y = .lst (ys.map D.str) ∨ y = .tup (ys.map D.str)) ∧ (ys.map (·.length)).sum + ys.length * a.length ≤ 16777216 ∧ Φ (.str (Txt.join a ys)) m2
  | _ => False
/-! ### t[::-1] -/
def qRevT (qe : QE) : QE := fun s m Φ => qe s m fun x m1 => match x with
  | .tup ds => Φ (.tup ds.reverse) m1
  | _ => False
end
end L3
end
section
set_option maxHeartbeats 2000000
/-! L7c: enumerate over a list or a tuple; slices of a list or a tuple; a value frozen if it is a list that may change -/
namespace EnX
open PySem PySem.W PyProof.Rows
end EnX
namespace L2
open PySem PySem.Spec PyProof.Rows
/-- the tuple at a, each item in a new pair -/
def IteT (K : PySem.W.Frag) (a : Addr) : It :=
  ⟨fun i H => ∃ (xs : List V) (x : V), SqT K H a xs ∧ xs[i]? = some x, fun i H v H' => ∃ T x, v = .ref T ∧ H T = none ∧ H' = upd H T (.tup [.int (i : Nat), x]) ∧ ∀ xs, SqT K H a xs → xs[i]? = some x, fun i H => ∃ xs : List V, SqT K H a xs ∧ xs.length ≤ i⟩
section
variable {X : Cx}
end
end L2
namespace L3
open PySem PySem.Spec PyProof.Rows L2
section
variable {X : Cx} {e : Expr} {qe : QE} {qa : QA}
/-- enumerate(x), x a list or a tuple that never changes -/
def iEnumA (qa : QA) : QI := fun s m Φ => iEnumD qa s m Φ ∨ qa s m fun ds m1 => match ds with
  | [.tup xs] => Φ (enumD xs 0) (fun _ => True) m1
  | _ => False
/-- x[lo:hi], x a list or a tuple -/
def qSlA (qe : QE) (ql qh : QO) : QE := fun s m Φ => qSlL qe ql qh s m Φ ∨ qSlT qe ql qh s m Φ
/-- frozen, if it is a list that may change -/
def qFzA (qe : QE) : QE := fun s m Φ => qe s m fun d m1 => (∃ a ds, d = .ref a ∧ m1 a = some (.lst ds) ∧ Φ (.lst ds) (mdel m1 a)) ∨ Φ d m1
end
end L3
namespace L3
open PySem PySem.Spec PyProof.Rows L2
section
variable {X : Cx}
/-- w in xs, w a text, xs a list of texts that may change -/
def vInR (neg : Bool) : D → D → Mem → DK → Prop := fun x y m Φ => match x, y with
  | .str w, .ref a => ∃ ys : List Str, m a = some (.lst (ys.map D.str)) ∧ Φ (.bl (if neg then !decide (w ∈ ys) else decide (w ∈ ys))) m
  | _, _ => False
/-- x[lo:hi], x a list that never changes, the new one may -/
def qSlLM (qe : QE) (ql qh : QO) : QE := fun s m Φ => qe s m fun x m1 => ql s m1 fun l m2 => qh s m2 fun u m3 => match x with
  | .lst ds => ∀ p, m3 p = none → Φ (.ref p) (mset m3 p (.lst (cutD ds l u)))
  | _ => False
end
end L3
end
section
/-! QA: numbers, amounts, small amounts among any values, by the program and by the laws whose bag starts with seed 13965 and whose draws use 48271 -/
namespace QA
open PySem PySem.Spec PyProof.Rows L2 L3 L4 LF LV PL PS C02 VA VT
open Rat (divInt)
open C13 (BagP)
local macro_rules | `(tactic| walk_at "st") => `(tactic| repeat (first
  | (with_reducible refine k_var (by with_unfolding_all rfl) ?_)
  | (with_reducible refine k_seq ?_)
  | (with_reducible refine k_cons ?_)
  | (with_reducible refine k_nil ?_)
  | (with_reducible refine k_c ?_)
  | (with_reducible refine k_op ?_)
  | (with_reducible refine k_asg ?_)
  | (with_reducible refine k_call ?_)
  | (with_reducible refine k_cb ?_)
  | (with_reducible refine k_i0 ?_)
  | (with_reducible refine k_addI ?_)
  | (with_reducible refine k_B ?_)
  | (with_reducible refine k_bk ?_)
  | (with_reducible refine k_if ?_)
  | (with_reducible refine k_ret ?_)
  | (with_reducible refine k_expr ?_)
  | (with_reducible refine k_next ?_)
  | (with_reducible refine k_not ?_)
  | (with_reducible refine k_and ?_)
  | (with_reducible refine k_or ?_)
  | (with_reducible refine k_ift ?_)
  | (with_reducible refine k_iff ?_)
  | (with_reducible refine k_ifnt ?_)
  | (with_reducible refine k_ifnf ?_)
  | (with_reducible refine k_fz ?_)
  | (with_reducible refine k_lc ?_)
  | (with_reducible refine k_dc ?_)
  | (with_reducible refine k_for ?_)
  | (with_reducible refine k_rng ?_)
  | (with_reducible refine k_iL ?_)
  | (with_reducible refine k_iLl ?_)
  | (with_reducible refine k_iT ?_)
  | (with_reducible refine k_iTt ?_)
  | (with_reducible refine k_zip ?_)
  | (with_reducible refine k_asgp ?_)
  | (with_reducible refine k_atn ?_)
  | (with_reducible refine k_par ?_)
  | (with_reducible refine k_parI ?_)
  | (with_reducible refine k_par3 ?_)
  | (with_reducible refine k_par3I ?_)
  | (with_reducible refine k_sub ?_)
  | (with_reducible refine k_andV ?_)
  | (with_reducible refine k_orV ?_)
  | (with_reducible refine k_notV ?_)
  | (with_reducible refine k_ifE ?_)
  | (with_reducible refine k_chain ?_)
  | (with_reducible refine k_am0 ?_)
  | (with_reducible refine k_am1 ?_)
  | (with_reducible refine k_int ?_)
  | (with_reducible refine k_eqI ?_)
  | (with_reducible refine k_neI ?_)
  | (with_reducible refine k_eqB ?_)
  | (with_reducible refine k_neB ?_)
  | (with_reducible refine k_iaddI ?_)
  | (with_reducible refine k_lenT ?_)
  | (with_reducible refine k_lenL ?_)
  | (with_reducible refine k_tru ?_)
  | (with_reducible refine k_cont ?_)
  | (with_reducible refine k_brk ?_)
  | (with_reducible refine k_retN ?_)
  | (with_reducible refine k_callK ?_)
  | (with_reducible refine k_callS1 ?_)
  | (with_reducible refine k_star ?_)
  | (with_reducible refine k_itL ?_)
  | (with_reducible refine k_itT ?_)
  | (with_reducible refine k_isi ?_)
  | (with_reducible refine k_isiT ?_)
  | (with_reducible refine k_bm ?_)
  | (with_reducible refine k_tup ?_)
  | (with_reducible refine k_lstF ?_)
  | (with_reducible refine k_lstM ?_)
  | (with_reducible refine k_aug (by with_unfolding_all rfl) ?_)
  | (with_reducible refine k_iSv (by with_unfolding_all rfl) ?_)
  | (with_reducible refine k_ixt (by with_unfolding_all rfl) ?_)
  | (with_reducible refine k_at (by with_unfolding_all rfl) ?_)
  | (with_reducible refine k_fzn ‹_› ?_)
  | (refine And.intro (by exact sz (by simp <;> omega)) ?_)
  | fail))
abbrev sp_compare : LSp := PA.sp_compare
abbrev sp_law_pair : LSp := C05.sp_law_pair
def sp_law_of : LSp := fun ds m Φ => C13.sp_law_of ds m Φ ∨ (∃ (b : Addr) (z : Str), ds = [.ref b, .str z] ∧ m b = some (.any BagP) ∧ 0 < z.length ∧ z.length < 1000000 ∧ ∀ c ∈ z.cps.toList, Φ (.str ⟨#[c]⟩) m) ∨
  ∃ (b : Addr) (xs : List D), ds = [.ref b, .tup xs] ∧ m b = some (.any BagP) ∧ xs ≠ [] ∧ xs.length < 1000000 ∧ ∀ x ∈ xs, Φ x m
abbrev sp_law_more : LSp := C05.sp_law_more
def one (r : D → Bool) : LSp := fun ds m Φ => ∃ d, ds = [d] ∧ Pn 4 d ∧ Φ (.bl (r d)) m
def sp_is_number : LSp := fun ds m Φ => ∃ d, ds = [d] ∧ (Pn 4 d ∨ ∃ i, d = .int i) ∧ Φ (.bl (isNum d)) m
noncomputable def sp_is_amount : LSp := fun ds m Φ => ∃ d, ds = [d] ∧ (Pn 4 d ∨ ∃ t b, d = .tup [.int t, .int b]) ∧ Φ (.bl (isAm d)) m
noncomputable def sp_law_is_amount : LSp := one isAm
noncomputable def isSm (d : D) : Bool := @decide (∃ q : Rat, 0 ≤ q ∧ d = am q ∧ q ≤ 1000 ∧ q.den ≤ 12) (Classical.propDecidable _)
noncomputable def sp_is_small : LSp := one isSm
noncomputable def sp_law_is_small : LSp := one isSm
structure Tz (q : Rat) : Prop where
  nn : 0 ≤ q
  t : q.num.natAbs.log2 < 1300
  d : q.den.log2 < 1300
def sp_amount_text : LSp := fun ds m Φ => ∃ q, ds = [am q] ∧ Tz q ∧ Φ (.str (shw q)) m
def sp_law_show : LSp := sp_amount_text
/-- plain values of any kind with short texts -/
def Pz : Nat → D → Prop
  | _, .non => True
  | _, .bl _ => True
  | _, .int i => i.natAbs.log2 < 400
  | _, .str z => PyData.strOk z = true ∧ z.length ≤ 1000
  | n + 1, .tup ds => ds.length < 1000 ∧ ∀ d ∈ ds, Pz n d
  | n + 1, .lst ds => ds.length < 1000 ∧ ∀ d ∈ ds, Pz n d
  | _, _ => False
def pzB : Nat → D → Bool
  | _, .non => true
  | _, .bl _ => true
  | _, .int i => decide (i.natAbs ≤ 100000)
  | _, .str z => PyData.strOk z && decide (z.length ≤ 1000)
  | n + 1, .tup ds => decide (ds.length < 1000) && ds.all (pzB n)
  | n + 1, .lst ds => decide (ds.length < 1000) && ds.all (pzB n)
  | _, _ => false
theorem pz_int {n : Nat} {i : Int} : Pz n (.int i) ↔ i.natAbs.log2 < 400 := by cases n <;> exact Iff.rfl
theorem pz_str {n : Nat} {z : Str} : Pz n (.str z) ↔ (PyData.strOk z = true ∧ z.length ≤ 1000) := by cases n <;> exact Iff.rfl
theorem pzB_ok : ∀ (n : Nat) (d : D), pzB n d = true → Pz n d
  | n, .non, _ => by cases n <;> trivial
  | n, .bl _, _ => by cases n <;> trivial
  | n, .int i, h => by
    have h : decide (i.natAbs ≤ 100000) = true := by cases n <;> exact h
    exact pz_int.mpr (Nat.lt_of_le_of_lt (log2_le (of_decide_eq_true h)) (by decide))
  | n, .str z, h => by
    have h : (PyData.strOk z && decide (z.length ≤ 1000)) = true := by cases n <;> exact h
    rw [Bool.and_eq_true] at h
    exact pz_str.mpr ⟨h.1, of_decide_eq_true h.2⟩
  | n + 1, .tup ds, h => by
    obtain ⟨h1, h2⟩ := Bool.and_eq_true_iff.mp h
    exact ⟨of_decide_eq_true h1, fun d hd => pzB_ok n d (List.all_eq_true.mp h2 d hd)⟩
  | n + 1, .lst ds, h => by
    obtain ⟨h1, h2⟩ := Bool.and_eq_true_iff.mp h
    exact ⟨of_decide_eq_true h1, fun d hd => pzB_ok n d (List.all_eq_true.mp h2 d hd)⟩
  | 0, .tup _, h => by cases h
  | 0, .lst _, h => by cases h
  | n, .ref _, h => by cases n <;> cases h
def sp_law_odd : LSp := fun ds m Φ => ∃ b : Addr, ds = [.ref b] ∧ m b = some (.any BagP) ∧ ∀ d, Pz 4 d → Φ d m
/-- is_number: 0 value -/
def qb_is_number : QS :=
  (sRet (qAndV (qIsi "int" (qVar 0)) (qNotV (qIsi "bool" (qVar 0)))))
/-- is_amount: 0 value, 1 top, 2 bottom -/
def qb_is_amount : QS :=
  (sSeq (sIf (qOr (qNot (qB (qIsi "tuple" (qVar 0)))) (qB (qOp vNe (qCB bLen (qCons (qVar 0) qNil)) (qC (.int 2))))) (sRet (qC (.bl false))) sNext)
    (sSeq (sAsg (.tp [(.nm 1), (.nm 2)]) (qVar 0))
    (sSeq (sIf (qOr (qNot (qB (qCall (sp_is_number) (qCons (qVar 1) qNil)))) (qNot (qB (qCall (sp_is_number) (qCons (qVar 2) qNil))))) (sRet (qC (.bl false))) sNext)
    (sRet (qAndV (qOp (qI0 fun i j => .bl (decide (j ≤ i))) (qVar 1) (qC (.int 0))) (qAndV (qOp (qI0 fun i j => .bl (decide (j ≤ i))) (qVar 2) (qC (.int 1))) (qOp vEq (qCB bGcd (qCons (qVar 1) (qCons (qVar 2) qNil))) (qC (.int 1)))))))))
/-- _law_is_amount: 0 _law_x, 1 _law_part -/
def qb_law_is_amount : QS :=
  (sSeq (sIf (qOr (qNot (qB (qIsi "tuple" (qVar 0)))) (qB (qOp vNe (qCB bLen (qCons (qVar 0) qNil)) (qC (.int 2))))) (sRet (qC (.bl false))) sNext)
    (sSeq (sIf (qB (qCB bAny (qCons (qFreeze (qLc (iTup (qVar 0)) (.nm 1) qYes (qOrV (qIsi "bool" (qVar 1)) (qNotV (qIsi "int" (qVar 1)))) [1])) qNil))) (sRet (qC (.bl false))) sNext)
    (sRet (qAndV (qOp (qI0 fun i j => .bl (decide (j ≤ i))) (qOp vIx (qVar 0) (qC (.int 0))) (qC (.int 0))) (qAndV (qOp (qI0 fun i j => .bl (decide (j ≤ i))) (qOp vIx (qVar 0) (qC (.int 1))) (qC (.int 1))) (qOp vEq (qCall (sp_law_pair) (qCons (qOp vIx (qVar 0) (qC (.int 0))) (qCons (qOp vIx (qVar 0) (qC (.int 1))) qNil))) (qVar 0)))))))
/-- _law_odd: 0 _law_bag_here, 1 _law_some -/
def qb_law_odd : QS :=
  (sSeq (sAsg (.nm 1) (qLstF (qCons (qC .non) (qCons (qC (.bl true)) (qCons (qC (.bl false)) (qCons (qC (.int 0)) (qCons (qC (.int 1)) (qCons (qNeg (qC (.int 1))) (qCons (qC (.int 7)) (qCons (qC (.str "")) (qCons (qC (.str "a")) (qCons (qC (.str "4")) (qCons (qC (.str "1/2")) (qCons (qTup qNil) (qCons (qTup (qCons (qC (.int 1)) qNil)) (qCons (qTup (qCons (qC (.int 1)) (qCons (qC (.int 1)) qNil))) (qCons (qTup (qCons (qC (.int 3)) (qCons (qC (.int 2)) qNil))) (qCons (qLstF (qCons (qC (.int 1)) (qCons (qC (.int 1)) qNil))) (qCons (qTup (qCons (qC (.int 2)) (qCons (qC (.int 4)) qNil))) (qCons (qTup (qCons (qC (.int 0)) (qCons (qC (.int 2)) qNil))) qNil))))))))))))))))))))
    (sSeq (sAsg (.nm 1) (qOp qAdd (qVar 1) (qLstF (qCons (qTup (qCons (qC (.int 1)) (qCons (qC (.int 0)) qNil))) (qCons (qTup (qCons (qNeg (qC (.int 1))) (qCons (qC (.int 1)) qNil))) (qCons (qTup (qCons (qC (.bl true)) (qCons (qC (.int 1)) qNil))) (qCons (qTup (qCons (qC (.int 1)) (qCons (qC (.bl true)) qNil))) (qCons (qTup (qCons (qC (.str "1")) (qCons (qC (.int 1)) qNil))) (qCons (qTup (qCons (qTup (qCons (qC (.int 1)) (qCons (qC (.int 1)) qNil))) (qCons (qTup (qCons (qC (.int 2)) (qCons (qC (.int 1)) qNil))) qNil))) (qCons (qTup (qCons (qTup (qCons (qC (.int 2)) (qCons (qC (.int 1)) qNil))) (qCons (qTup (qCons (qC (.int 1)) (qCons (qC (.int 1)) qNil))) qNil))) (qCons (qTup (qCons (qC .non) (qCons (qC .non) qNil))) qNil)))))))))))
    (sSeq (sAsg (.nm 1) (qOp qAdd (qVar 1) (qLstF (qCons (qTup (qCons (qC (.int 1)) (qCons (qC (.int 1)) (qCons (qC (.int 1)) qNil)))) (qCons (qLstF qNil) (qCons (qLstF (qCons (qTup qNil) qNil)) (qCons (qLstF (qCons (qTup (qCons (qC (.int 1)) (qCons (qC (.int 1)) qNil))) (qCons (qTup (qCons (qC (.int 2)) (qCons (qC (.int 1)) qNil))) qNil))) (qCons (qTup (qCons (qTup (qCons (qC (.int 1)) (qCons (qC (.int 1)) qNil))) (qCons (qLstF (qCons (qC (.int 2)) (qCons (qC (.int 1)) qNil))) qNil))) (qCons (qTup (qCons (qTup (qCons (qC (.int 1)) (qCons (qC (.int 1)) qNil))) qNil)) (qCons (qTup (qCons (qTup (qCons (qTup (qCons (qC (.int 1)) (qCons (qC (.int 2)) qNil))) (qCons (qC (.int 3)) qNil))) (qCons (qLstF (qCons (qC (.int 4)) (qCons (qTup (qCons (qC .non) qNil)) qNil))) qNil))) (qCons (qNeg (qC (.int 1000))) qNil)))))))))))
    (sSeq (sAsg (.nm 1) (qOp qAdd (qVar 1) (qLstF (qCons (qTup (qCons (qC (.int 1)) (qCons (qNeg (qC (.int 1))) qNil))) (qCons (qTup (qCons (qC (.int 0)) (qCons (qC (.int 0)) qNil))) (qCons (qTup (qCons (qTup (qCons (qC (.int 0)) (qCons (qC (.int 1)) qNil))) (qCons (qTup (qCons (qC (.int 4)) (qCons (qC (.int 2)) qNil))) qNil))) (qCons (qTup (qCons (qTup (qCons (qC (.int 1)) (qCons (qC (.int 1)) qNil))) (qCons (qTup (qCons (qC (.int 1)) (qCons (qC (.int 1)) qNil))) qNil))) (qCons (qC (.str "own")) (qCons (qC (.str "level")) (qCons (qTup (qCons (qC (.str "a")) qNil)) (qCons (qLstF (qCons (qC (.str "a")) qNil)) (qCons (qTup (qCons (qC (.int 1000)) (qCons (qC (.int 1)) qNil))) qNil))))))))))))
    (sRet (qCall (sp_law_of) (qCons (qVar 0) (qCons (qVar 1) qNil))))))))
/-- amount_text: 0 value, 1 top, 2 bottom -/
def qb_amount_text : QS :=
  (sSeq (sAsg (.tp [(.nm 1), (.nm 2)]) (qVar 0))
    (sRet (qIfE (qB (qOp vEq (qVar 2) (qC (.int 1)))) (qFmt (qVar 1)) (qJoin [(qFmt (qVar 1)), (qC (.str "/")), (qFmt (qVar 2))]))))
/-- _law_show: 0 _law_p -/
def qb_law_show : QS :=
  (sRet (qIfE (qB (qOp vEq (qOp vIx (qVar 0) (qC (.int 1))) (qC (.int 1)))) (qCB bStr (qCons (qOp vIx (qVar 0) (qC (.int 0))) qNil)) (qJoin [(qFmt (qOp vIx (qVar 0) (qC (.int 0)))), (qC (.str "/")), (qFmt (qOp vIx (qVar 0) (qC (.int 1))))])))
/-- is_small: 0 value -/
def qb_is_small : QS :=
  (sRet (qAndV (qCall (sp_is_amount) (qCons (qVar 0) qNil)) (qAndV (qOp (qI0 fun i j => .bl (decide (i ≤ j))) (qOp vIx (qVar 0) (qC (.int 1))) (qC (.int 12))) (qOp (qI0 fun i j => .bl (decide (i ≤ j))) (qCall (sp_compare) (qCons (qVar 0) (qCons (qC (.tup [(.int 1000), (.int 1)])) qNil))) (qC (.int 0))))))
/-- _law_is_small: 0 _law_x -/
def qb_law_is_small : QS :=
  (sRet (qAndV (qCall (sp_law_is_amount) (qCons (qVar 0) qNil)) (qAndV (qOp (qI0 fun i j => .bl (decide (i ≤ j))) (qOp vIx (qVar 0) (qC (.int 0))) (qOp (qIC CM fun i j => .int (i * j)) (qC (.int 1000)) (qOp vIx (qVar 0) (qC (.int 1))))) (qOp (qI0 fun i j => .bl (decide (i ≤ j))) (qOp vIx (qVar 0) (qC (.int 1))) (qC (.int 12))))))
theorem len_law_of : ∀ ds m Φ, sp_law_of ds m Φ → ds.length = 2 := by
  rintro _ _ _ (h | ⟨_, _, rfl, _⟩ | ⟨_, _, rfl, _⟩)
  · exact C13.len_law_of _ _ _ h
  · rfl
  · rfl
theorem rd_law_of : ∀ ds m Φ, sp_law_of ds m Φ → CF.qb_law_of (bodyW Φ) (begin_ 2 ds) m := by
  rintro _ m Φ (h | h | ⟨b, xs, rfl, hb, h0, hl, k⟩)
  · exact CF.rd_law_of _ _ _ (.inl h)
  · exact CF.rd_law_of _ _ _ (.inr h)
  · have hpos : 0 < xs.length := List.length_pos_iff.mpr h0
    refine ⟨b, _, rfl, hb, by omega, by omega, fun d d0 d1 => ?_⟩
    obtain ⟨x, hx, e⟩ := atI_in xs d0 d1
    exact ⟨x, e, wk_at (k x hx)⟩
theorem len_law_odd : ∀ ds m Φ, sp_law_odd ds m Φ → ds.length = 1 := by rintro _ _ _ ⟨_, rfl, _⟩; rfl
theorem rd_law_odd : ∀ ds m Φ, sp_law_odd ds m Φ → qb_law_odd (bodyW Φ) (begin_ 2 ds) m := by
  rintro _ m Φ ⟨b, rfl, hb, k⟩
  unfold qb_law_odd
  walk_at "st"
  refine .inl ⟨b, _, hb, by simp, by simp, .inl rfl, fun x hx => wk_at (k x (pzB_ok 4 x (List.all_eq_true.mp (by decide +kernel) x hx)))⟩
end QA
end
section
/-! QB: names, numbers between, capacities, sizes, manners among any values -/
namespace QB
open PySem PySem.Spec PyProof.Rows L2 L3 L4 LF LV PL PS C02 VA VT QA
open Rat (divInt)
open C13 (BagP)
local macro_rules | `(tactic| walk_at "st") => `(tactic| repeat (first
  | (with_reducible refine k_var (by with_unfolding_all rfl) ?_)
  | (with_reducible refine k_seq ?_)
  | (with_reducible refine k_cons ?_)
  | (with_reducible refine k_nil ?_)
  | (with_reducible refine k_c ?_)
  | (with_reducible refine k_op ?_)
  | (with_reducible refine k_asg ?_)
  | (with_reducible refine k_call ?_)
  | (with_reducible refine k_cb ?_)
  | (with_reducible refine k_i0 ?_)
  | (with_reducible refine k_addI ?_)
  | (with_reducible refine k_B ?_)
  | (with_reducible refine k_bk ?_)
  | (with_reducible refine k_if ?_)
  | (with_reducible refine k_ret ?_)
  | (with_reducible refine k_expr ?_)
  | (with_reducible refine k_next ?_)
  | (with_reducible refine k_not ?_)
  | (with_reducible refine k_and ?_)
  | (with_reducible refine k_or ?_)
  | (with_reducible refine k_ift ?_)
  | (with_reducible refine k_iff ?_)
  | (with_reducible refine k_ifnt ?_)
  | (with_reducible refine k_ifnf ?_)
  | (with_reducible refine k_fz ?_)
  | (with_reducible refine k_lc ?_)
  | (with_reducible refine k_dc ?_)
  | (with_reducible refine k_for ?_)
  | (with_reducible refine k_rng ?_)
  | (with_reducible refine k_iL ?_)
  | (with_reducible refine k_iLl ?_)
  | (with_reducible refine k_iT ?_)
  | (with_reducible refine k_iTt ?_)
  | (with_reducible refine k_zip ?_)
  | (with_reducible refine k_asgp ?_)
  | (with_reducible refine k_atn ?_)
  | (with_reducible refine k_par ?_)
  | (with_reducible refine k_parI ?_)
  | (with_reducible refine k_par3 ?_)
  | (with_reducible refine k_par3I ?_)
  | (with_reducible refine k_sub ?_)
  | (with_reducible refine k_andV ?_)
  | (with_reducible refine k_orV ?_)
  | (with_reducible refine k_notV ?_)
  | (with_reducible refine k_ifE ?_)
  | (with_reducible refine k_chain ?_)
  | (with_reducible refine k_am0 ?_)
  | (with_reducible refine k_am1 ?_)
  | (with_reducible refine k_int ?_)
  | (with_reducible refine k_eqI ?_)
  | (with_reducible refine k_neI ?_)
  | (with_reducible refine k_eqB ?_)
  | (with_reducible refine k_neB ?_)
  | (with_reducible refine k_iaddI ?_)
  | (with_reducible refine k_lenT ?_)
  | (with_reducible refine k_lenL ?_)
  | (with_reducible refine k_tru ?_)
  | (with_reducible refine k_cont ?_)
  | (with_reducible refine k_brk ?_)
  | (with_reducible refine k_retN ?_)
  | (with_reducible refine k_callK ?_)
  | (with_reducible refine k_callS1 ?_)
  | (with_reducible refine k_star ?_)
  | (with_reducible refine k_itL ?_)
  | (with_reducible refine k_itT ?_)
  | (with_reducible refine k_isi ?_)
  | (with_reducible refine k_isiT ?_)
  | (with_reducible refine k_bm ?_)
  | (with_reducible refine k_tup ?_)
  | (with_reducible refine k_lstF ?_)
  | (with_reducible refine k_lstM ?_)
  | (with_reducible refine k_aug (by with_unfolding_all rfl) ?_)
  | (with_reducible refine k_iSv (by with_unfolding_all rfl) ?_)
  | (with_reducible refine k_ixt (by with_unfolding_all rfl) ?_)
  | (with_reducible refine k_at (by with_unfolding_all rfl) ?_)
  | (with_reducible refine k_fzn ‹_› ?_)
  | (refine And.intro (by exact sz (by simp <;> omega)) ?_)
  | fail))
abbrev sp_law_more : LSp := C05.sp_law_more
abbrev sp_is_number : LSp := QA.sp_is_number
noncomputable abbrev sp_is_amount : LSp := QA.sp_is_amount
noncomputable abbrev sp_is_small : LSp := QA.sp_is_small
noncomputable abbrev sp_law_is_amount : LSp := QA.sp_law_is_amount
abbrev sp_compare : LSp := PA.sp_compare
def onez (r : D → Bool) : LSp := fun ds m Φ => ∃ d, ds = [d] ∧ Pz 4 d ∧ Φ (.bl (r d)) m
def isBt (a b : Int) : D → Bool
  | .int i => decide (a ≤ i) && decide (i ≤ b)
  | _ => false
def sp_is_between : LSp := fun ds m Φ => ∃ (d : D) (a b : Int), ds = [d, .int a, .int b] ∧ Pz 4 d ∧ Φ (.bl (isBt a b d)) m
def sp_law_is_num : LSp := sp_is_between
def isLt (c : Nat) : Bool := decide (c ∈ ("abcdefghijklmnopqrstuvwxyz" : Str).cps.toList)
def isNm : D → Bool
  | .str z => decide (1 ≤ z.length) && (decide (z.length ≤ 6) && z.cps.toList.all isLt)
  | _ => false
def sp_is_name : LSp := onez isNm
def sp_law_is_name : LSp := onez isNm
noncomputable def isCap (d : D) : Bool := @decide (∃ q : Rat, 0 < q ∧ d = am q ∧ q ≤ 1000 ∧ q.den ≤ 12) (Classical.propDecidable _)
noncomputable def sp_is_capacity : LSp := onez isCap
noncomputable def isWs (d : D) : Bool := @decide (∃ q : Rat, 0 ≤ q ∧ d = am q ∧ q ≤ 1000000) (Classical.propDecidable _)
noncomputable def sp_is_water_size : LSp := onez isWs
noncomputable def sp_law_is_buffer : LSp := onez isWs
noncomputable def isWm (d : D) : Bool := @decide (d = .tup [] ∨ ∃ p q : Rat, 0 ≤ p ∧ 0 ≤ q ∧ d = .tup [am p, am q]) (Classical.propDecidable _)
noncomputable def sp_is_wide_manner : LSp := onez isWm
noncomputable def sp_is_manner : LSp := onez isMn
noncomputable def isPr (d : D) : Bool := @decide (∃ p q : Rat, 0 ≤ p ∧ p ≤ q ∧ d = .tup [am p, am q]) (Classical.propDecidable _)
noncomputable def sp_law_is_pair : LSp := onez isPr
noncomputable def mayW (g G : Rat) (d : D) : Bool := @decide (d = .tup [] ∨ ∃ p q : Rat, 0 ≤ p ∧ p ≤ q ∧ d = .tup [am p, am q] ∧ p ≤ g ∧ q ≤ G) (Classical.propDecidable _)
noncomputable def sp_may_wish : LSp := fun ds m Φ => ∃ (d : D) (g G : Rat), ds = [d, am g, am G] ∧ Pz 4 d ∧ Az 400 g ∧ Az 400 G ∧ Φ (.bl (mayW g G d)) m
noncomputable def sp_law_is_manner_of : LSp := sp_may_wish
noncomputable def isSz (z : Str) (d : D) : Bool := if z = "window" then isWs d else if z = "probe" then isBt 1 12 d else isNonD d
noncomputable def sp_is_size : LSp := fun ds m Φ => ∃ (z : Str) (d : D), ds = [.str z, d] ∧ PyData.strOk z = true ∧ Pz 4 d ∧ Φ (.bl (isSz z d)) m
noncomputable def sp_law_size_good : LSp := sp_is_size
/-- is_between: 0 value, 1 low, 2 high -/
def qb_is_between : QS :=
  (sRet (qAndV (qCall (sp_is_number) (qCons (qVar 0) qNil)) (qChain (qI0 fun i j => .bl (decide (i ≤ j))) (qI0 fun i j => .bl (decide (i ≤ j))) (qVar 1) (qVar 0) (qVar 2))))
/-- _law_is_num: 0 _law_x, 1 _law_a, 2 _law_b -/
def qb_law_is_num : QS :=
  (sRet (qAndV (qIsi "int" (qVar 0)) (qAndV (qNotV (qIsi "bool" (qVar 0))) (qAndV (qOp (qI0 fun i j => .bl (decide (i ≤ j))) (qVar 1) (qVar 0)) (qOp (qI0 fun i j => .bl (decide (i ≤ j))) (qVar 0) (qVar 2))))))
/-- is_name: 0 value, 1 letter -/
def qb_is_name : QS :=
  (sSeq (sIf (qOr (qNot (qB (qIsi "str" (qVar 0)))) (qNot (qB (qChain (qI0 fun i j => .bl (decide (i ≤ j))) (qI0 fun i j => .bl (decide (i ≤ j))) (qC (.int 1)) (qCB bLen (qCons (qVar 0) qNil)) (qC (.int 6)))))) (sRet (qC (.bl false))) sNext)
    (sRet (qCB bAll (qCons (qFreeze (qLc (iSigns (qVar 0)) (.nm 1) qYes (qOp vInS (qVar 1) (qC (.str "abcdefghijklmnopqrstuvwxyz"))) [1])) qNil))))
/-- _law_is_name: 0 _law_x, 1 _law_c -/
def qb_law_is_name : QS :=
  (sRet (qAndV (qIsi "str" (qVar 0)) (qAndV (qOp (qI0 fun i j => .bl (decide (i ≤ j))) (qC (.int 1)) (qCB bLen (qCons (qVar 0) qNil))) (qAndV (qOp (qI0 fun i j => .bl (decide (i ≤ j))) (qCB bLen (qCons (qVar 0) qNil)) (qC (.int 6))) (qCB bAll (qCons (qFreeze (qLc (iSigns (qVar 0)) (.nm 1) qYes (qOp vInS (qVar 1) (qC (.str "abcdefghijklmnopqrstuvwxyz"))) [1])) qNil))))))
/-- is_capacity: 0 value -/
def qb_is_capacity : QS :=
  (sRet (qAndV (qCall (sp_is_small) (qCons (qVar 0) qNil)) (qOp vNe (qVar 0) (qC (.tup [(.int 0), (.int 1)])))))
/-- is_water_size: 0 value -/
def qb_is_water_size : QS :=
  (sRet (qAndV (qCall (sp_is_amount) (qCons (qVar 0) qNil)) (qOp (qI0 fun i j => .bl (decide (i ≤ j))) (qCall (sp_compare) (qCons (qVar 0) (qCons (qC (.tup [(.int 1000000), (.int 1)])) qNil))) (qC (.int 0)))))
/-- _law_is_buffer: 0 _law_x -/
def qb_law_is_buffer : QS :=
  (sRet (qAndV (qCall (sp_law_is_amount) (qCons (qVar 0) qNil)) (qOp (qI0 fun i j => .bl (decide (i ≤ j))) (qOp vIx (qVar 0) (qC (.int 0))) (qOp (qIC CM fun i j => .int (i * j)) (qC (.int 1000000)) (qOp vIx (qVar 0) (qC (.int 1)))))))
/-- is_wide_manner: 0 value -/
def qb_is_wide_manner : QS :=
  (sSeq (sIf (qNot (qB (qIsi "tuple" (qVar 0)))) (sRet (qC (.bl false))) sNext)
    (sSeq (sIf (qB (qOp vEq (qVar 0) (qTup qNil))) (sRet (qC (.bl true))) sNext)
    (sRet (qAndV (qOp vEq (qCB bLen (qCons (qVar 0) qNil)) (qC (.int 2))) (qAndV (qCall (sp_is_amount) (qCons (qOp vIx (qVar 0) (qC (.int 0))) qNil)) (qCall (sp_is_amount) (qCons (qOp vIx (qVar 0) (qC (.int 1))) qNil)))))))
/-- is_manner: 0 value -/
def qb_is_manner : QS :=
  (sSeq (sIf (qNot (qB (qCall (sp_is_wide_manner) (qCons (qVar 0) qNil)))) (sRet (qC (.bl false))) sNext)
    (sRet (qOrV (qOp vEq (qVar 0) (qTup qNil)) (qOp (qI0 fun i j => .bl (decide (i ≤ j))) (qCall (sp_compare) (qCons (qOp vIx (qVar 0) (qC (.int 0))) (qCons (qOp vIx (qVar 0) (qC (.int 1))) qNil))) (qC (.int 0))))))
/-- may_wish: 0 manner, 1 least, 2 cap -/
def qb_may_wish : QS :=
  (sSeq (sIf (qNot (qB (qCall (sp_is_manner) (qCons (qVar 0) qNil)))) (sRet (qC (.bl false))) sNext)
    (sRet (qOrV (qOp vEq (qVar 0) (qTup qNil)) (qAndV (qOp (qI0 fun i j => .bl (decide (i ≤ j))) (qCall (sp_compare) (qCons (qOp vIx (qVar 0) (qC (.int 0))) (qCons (qVar 1) qNil))) (qC (.int 0))) (qOp (qI0 fun i j => .bl (decide (i ≤ j))) (qCall (sp_compare) (qCons (qOp vIx (qVar 0) (qC (.int 1))) (qCons (qVar 2) qNil))) (qC (.int 0)))))))
/-- _law_is_pair: 0 _law_x -/
def qb_law_is_pair : QS :=
  (sSeq (sIf (qOr (qNot (qB (qIsi "tuple" (qVar 0)))) (qOr (qB (qOp vNe (qCB bLen (qCons (qVar 0) qNil)) (qC (.int 2)))) (qOr (qNot (qB (qCall (sp_law_is_amount) (qCons (qOp vIx (qVar 0) (qC (.int 0))) qNil)))) (qNot (qB (qCall (sp_law_is_amount) (qCons (qOp vIx (qVar 0) (qC (.int 1))) qNil))))))) (sRet (qC (.bl false))) sNext)
    (sRet (qNotV (qCall (sp_law_more) (qCons (qOp vIx (qVar 0) (qC (.int 0))) (qCons (qOp vIx (qVar 0) (qC (.int 1))) qNil))))))
/-- _law_is_manner_of: 0 _law_x, 1 _law_few, 2 _law_lid -/
def qb_law_is_manner_of : QS :=
  (sSeq (sIf (qAnd (qB (qIsi "tuple" (qVar 0))) (qB (qOp vEq (qCB bLen (qCons (qVar 0) qNil)) (qC (.int 0))))) (sRet (qC (.bl true))) sNext)
    (sRet (qAndV (qCall (sp_law_is_pair) (qCons (qVar 0) qNil)) (qAndV (qNotV (qCall (sp_law_more) (qCons (qOp vIx (qVar 0) (qC (.int 0))) (qCons (qVar 1) qNil)))) (qNotV (qCall (sp_law_more) (qCons (qOp vIx (qVar 0) (qC (.int 1))) (qCons (qVar 2) qNil))))))))
/-- is_size: 0 kind, 1 size -/
def qb_is_size : QS :=
  (sSeq (sIf (qB (qOp vEq (qVar 0) (qC (.str "window")))) (sRet (qCall (sp_is_water_size) (qCons (qVar 1) qNil))) sNext)
    (sSeq (sIf (qB (qOp vEq (qVar 0) (qC (.str "probe")))) (sRet (qCall (sp_is_between) (qCons (qVar 1) (qCons (qC (.int 1)) (qCons (qC (.int 12)) qNil))))) sNext)
    (sRet (qOp qIsN (qVar 1) (qC .non)))))
/-- _law_size_good: 0 _law_sort, 1 _law_extent -/
def qb_law_size_good : QS :=
  (sSeq (sIf (qB (qOp vEq (qVar 0) (qC (.str "window")))) (sRet (qCall (sp_law_is_buffer) (qCons (qVar 1) qNil))) sNext)
    (sSeq (sIf (qB (qOp vEq (qVar 0) (qC (.str "probe")))) (sRet (qCall (sp_law_is_num) (qCons (qVar 1) (qCons (qC (.int 1)) (qCons (qC (.int 12)) qNil))))) sNext)
    (sRet (qOp qIsN (qVar 1) (qC .non)))))
/-! ### names -/
def isStr : D → Bool
  | .str _ => true
  | _ => false
/-! ### amounts -/
theorem am0 : D.tup [.int 0, .int 1] = am 0 := rfl
/-! ### manners -/
/-! ### sizes by kinds -/
end QB
end
section
/-! QC: routes, buffers; the constructors of links and flows; the laws' own looks for faults -/
namespace QC
open PySem PySem.Spec PyProof.Rows L2 L3 L4 LF LV PL PS C02 VA VT QA QB
open Rat (divInt)
open C13 (BagP)
local macro_rules | `(tactic| walk_at "st") => `(tactic| repeat (first
  | (with_reducible refine k_var (by with_unfolding_all rfl) ?_)
  | (with_reducible refine k_seq ?_)
  | (with_reducible refine k_cons ?_)
  | (with_reducible refine k_nil ?_)
  | (with_reducible refine k_c ?_)
  | (with_reducible refine k_op ?_)
  | (with_reducible refine k_asg ?_)
  | (with_reducible refine k_call ?_)
  | (with_reducible refine k_cb ?_)
  | (with_reducible refine k_i0 ?_)
  | (with_reducible refine k_addI ?_)
  | (with_reducible refine k_B ?_)
  | (with_reducible refine k_bk ?_)
  | (with_reducible refine k_if ?_)
  | (with_reducible refine k_ret ?_)
  | (with_reducible refine k_expr ?_)
  | (with_reducible refine k_next ?_)
  | (with_reducible refine k_not ?_)
  | (with_reducible refine k_and ?_)
  | (with_reducible refine k_or ?_)
  | (with_reducible refine k_ift ?_)
  | (with_reducible refine k_iff ?_)
  | (with_reducible refine k_ifnt ?_)
  | (with_reducible refine k_ifnf ?_)
  | (with_reducible refine k_fz ?_)
  | (with_reducible refine k_lc ?_)
  | (with_reducible refine k_dc ?_)
  | (with_reducible refine k_for ?_)
  | (with_reducible refine k_rng ?_)
  | (with_reducible refine k_iL ?_)
  | (with_reducible refine k_iLl ?_)
  | (with_reducible refine k_iT ?_)
  | (with_reducible refine k_iTt ?_)
  | (with_reducible refine k_zip ?_)
  | (with_reducible refine k_asgp ?_)
  | (with_reducible refine k_atn ?_)
  | (with_reducible refine k_par ?_)
  | (with_reducible refine k_parI ?_)
  | (with_reducible refine k_par3 ?_)
  | (with_reducible refine k_par3I ?_)
  | (with_reducible refine k_sub ?_)
  | (with_reducible refine k_andV ?_)
  | (with_reducible refine k_orV ?_)
  | (with_reducible refine k_notV ?_)
  | (with_reducible refine k_ifE ?_)
  | (with_reducible refine k_chain ?_)
  | (with_reducible refine k_am0 ?_)
  | (with_reducible refine k_am1 ?_)
  | (with_reducible refine k_int ?_)
  | (with_reducible refine k_eqI ?_)
  | (with_reducible refine k_neI ?_)
  | (with_reducible refine k_eqB ?_)
  | (with_reducible refine k_neB ?_)
  | (with_reducible refine k_iaddI ?_)
  | (with_reducible refine k_lenT ?_)
  | (with_reducible refine k_lenL ?_)
  | (with_reducible refine k_tru ?_)
  | (with_reducible refine k_cont ?_)
  | (with_reducible refine k_brk ?_)
  | (with_reducible refine k_retN ?_)
  | (with_reducible refine k_callK ?_)
  | (with_reducible refine k_callS1 ?_)
  | (with_reducible refine k_star ?_)
  | (with_reducible refine k_itL ?_)
  | (with_reducible refine k_itT ?_)
  | (with_reducible refine k_isi ?_)
  | (with_reducible refine k_isiT ?_)
  | (with_reducible refine k_bm ?_)
  | (with_reducible refine k_tup ?_)
  | (with_reducible refine k_lstF ?_)
  | (with_reducible refine k_lstM ?_)
  | (with_reducible refine k_aug (by with_unfolding_all rfl) ?_)
  | (with_reducible refine k_iSv (by with_unfolding_all rfl) ?_)
  | (with_reducible refine k_ixt (by with_unfolding_all rfl) ?_)
  | (with_reducible refine k_at (by with_unfolding_all rfl) ?_)
  | (with_reducible refine k_fzn ‹_› ?_)
  | (refine And.intro (by exact sz (by simp <;> omega)) ?_)
  | fail))
abbrev sp_is_name : LSp := QB.sp_is_name
abbrev sp_law_is_name : LSp := QB.sp_law_is_name
noncomputable abbrev sp_is_water_size : LSp := QB.sp_is_water_size
/-- a value as it stands: the lists that may change are seen as they are -/
def Vw (m : Mem) (d d' : D) : Prop := Pz 4 d' ∧ (d = d' ∨ ∃ a xs, d = .ref a ∧ m a = some (.lst xs) ∧ d' = .lst xs)
def isRow : D → Bool
  | .tup _ => true
  | .lst _ => true
  | _ => false
def items : D → List D
  | .tup xs => xs
  | .lst xs => xs
  | _ => []
def txts (xs : List D) : List Str := xs.filterMap fun x => match x with
  | .str z => some z
  | _ => none
def rtD (d : D) : Bool := isRow d && (decide (1 ≤ (items d).length) && (decide ((items d).length ≤ 5) && ((items d).all isNm && decide (txts (items d)).Nodup)))
noncomputable def bfD (d : D) : Bool := isRow d && (items d).all isWs
def sp_is_row : LSp := fun ds m Φ => ∃ d d', ds = [d] ∧ Vw m d d' ∧ Φ (.bl (isRow d')) m
def sp_is_route : LSp := fun ds m Φ => ∃ d d', ds = [d] ∧ Vw m d d' ∧ Φ (.bl (rtD d')) m
noncomputable def sp_are_buffers : LSp := fun ds m Φ => ∃ d d', ds = [d] ∧ Vw m d d' ∧ Φ (.bl (bfD d')) m
def sp_law_route_good : LSp := onez rtD
/-- is_row: 0 value -/
def qb_is_row : QS :=
  (sRet (qIsiT ["list", "tuple"] (qVar 0)))
/-- is_route: 0 value, 1 link -/
def qb_is_route : QS :=
  (sSeq (sIf (qOr (qNot (qB (qCall (sp_is_row) (qCons (qVar 0) qNil)))) (qNot (qB (qChain (qI0 fun i j => .bl (decide (i ≤ j))) (qI0 fun i j => .bl (decide (i ≤ j))) (qC (.int 1)) (qCB bLen (qCons (qVar 0) qNil)) (qC (.int 5)))))) (sRet (qC (.bl false))) sNext)
    (sRet (qAndV (qCB bAll (qCons (qFreeze (qLc (iSeq (qVar 0)) (.nm 1) qYes (qCall (sp_is_name) (qCons (qVar 1) qNil)) [1])) qNil)) (qOp vEq (qLenSetM (qVar 0)) (qCB bLen (qCons (qVar 0) qNil))))))
/-- are_buffers: 0 value, 1 size -/
def qb_are_buffers : QS :=
  (sRet (qAndV (qCall (sp_is_row) (qCons (qVar 0) qNil)) (qCB bAll (qCons (qFreeze (qLc (iSeq (qVar 0)) (.nm 1) qYes (qCall (sp_is_water_size) (qCons (qVar 1) qNil)) [1])) qNil))))
/-- _law_route_good: 0 _law_path, 1 _law_word_here, 2 _law_k -/
def qb_law_route_good : QS :=
  (sSeq (sIf (qOr (qNot (qB (qIsiT ["list", "tuple"] (qVar 0)))) (qOr (qB (qOp (qI0 fun i j => .bl (decide (i < j))) (qCB bLen (qCons (qVar 0) qNil)) (qC (.int 1)))) (qB (qOp (qI0 fun i j => .bl (decide (j < i))) (qCB bLen (qCons (qVar 0) qNil)) (qC (.int 5)))))) (sRet (qC (.bl false))) sNext)
    (sRet (qAndV (qCB bAll (qCons (qFreeze (qLc (iSeq (qVar 0)) (.nm 1) qYes (qCall (sp_law_is_name) (qCons (qVar 1) qNil)) [1])) qNil)) (qCB bAll (qCons (qFreeze (qLc (iEnumA (qCons (qVar 0) qNil)) (.tp [(.nm 2), (.nm 1)]) qYes (qOp (vInX true) (qVar 1) (qSlA (qVar 0) qNoPart (qPart (qVar 2)))) [2, 1])) qNil)))))
def gB (zs : List Str) (x : D) : Bool := match x with
  | .tup [.int k, .str w] => !decide (w ∈ zs.take k.toNat)
  | _ => false
end QC
end
section
/-! QD: the constructors of links and flows, and the laws' own looks for faults -/
namespace QD
open PySem PySem.Spec PyProof.Rows L2 L3 L4 LF LV PL PS C02 VA VT QA QB QC
open Rat (divInt)
open C13 (BagP)
open PF (k_setF k_setI k_fld k_fldI)
local macro_rules | `(tactic| walk_at "st") => `(tactic| repeat (first
  | (with_reducible refine k_var (by with_unfolding_all rfl) ?_)
  | (with_reducible refine k_seq ?_)
  | (with_reducible refine k_cons ?_)
  | (with_reducible refine k_nil ?_)
  | (with_reducible refine k_c ?_)
  | (with_reducible refine k_op ?_)
  | (with_reducible refine k_asg ?_)
  | (with_reducible refine k_call ?_)
  | (with_reducible refine k_cb ?_)
  | (with_reducible refine k_i0 ?_)
  | (with_reducible refine k_addI ?_)
  | (with_reducible refine k_B ?_)
  | (with_reducible refine k_bk ?_)
  | (with_reducible refine k_if ?_)
  | (with_reducible refine k_ret ?_)
  | (with_reducible refine k_expr ?_)
  | (with_reducible refine k_next ?_)
  | (with_reducible refine k_not ?_)
  | (with_reducible refine k_and ?_)
  | (with_reducible refine k_or ?_)
  | (with_reducible refine k_ift ?_)
  | (with_reducible refine k_iff ?_)
  | (with_reducible refine k_ifnt ?_)
  | (with_reducible refine k_ifnf ?_)
  | (with_reducible refine k_fz ?_)
  | (with_reducible refine k_lc ?_)
  | (with_reducible refine k_dc ?_)
  | (with_reducible refine k_for ?_)
  | (with_reducible refine k_rng ?_)
  | (with_reducible refine k_iL ?_)
  | (with_reducible refine k_iLl ?_)
  | (with_reducible refine k_iT ?_)
  | (with_reducible refine k_iTt ?_)
  | (with_reducible refine k_zip ?_)
  | (with_reducible refine k_asgp ?_)
  | (with_reducible refine k_atn ?_)
  | (with_reducible refine k_par ?_)
  | (with_reducible refine k_parI ?_)
  | (with_reducible refine k_par3 ?_)
  | (with_reducible refine k_par3I ?_)
  | (with_reducible refine k_sub ?_)
  | (with_reducible refine k_andV ?_)
  | (with_reducible refine k_orV ?_)
  | (with_reducible refine k_notV ?_)
  | (with_reducible refine k_ifE ?_)
  | (with_reducible refine k_chain ?_)
  | (with_reducible refine k_am0 ?_)
  | (with_reducible refine k_am1 ?_)
  | (with_reducible refine k_int ?_)
  | (with_reducible refine k_eqI ?_)
  | (with_reducible refine k_neI ?_)
  | (with_reducible refine k_eqB ?_)
  | (with_reducible refine k_neB ?_)
  | (with_reducible refine k_iaddI ?_)
  | (with_reducible refine k_lenT ?_)
  | (with_reducible refine k_lenL ?_)
  | (with_reducible refine k_tru ?_)
  | (with_reducible refine k_cont ?_)
  | (with_reducible refine k_brk ?_)
  | (with_reducible refine k_retN ?_)
  | (with_reducible refine k_callK ?_)
  | (with_reducible refine k_callS1 ?_)
  | (with_reducible refine k_star ?_)
  | (with_reducible refine k_itL ?_)
  | (with_reducible refine k_itT ?_)
  | (with_reducible refine k_isi ?_)
  | (with_reducible refine k_isiT ?_)
  | (with_reducible refine k_bm ?_)
  | (with_reducible refine k_tup ?_)
  | (with_reducible refine k_lstF ?_)
  | (with_reducible refine k_lstM ?_)
  | (with_reducible refine k_aug (by with_unfolding_all rfl) ?_)
  | (with_reducible refine k_iSv (by with_unfolding_all rfl) ?_)
  | (with_reducible refine k_ixt (by with_unfolding_all rfl) ?_)
  | (with_reducible refine k_at (by with_unfolding_all rfl) ?_)
  | (with_reducible refine k_fzn ‹_› ?_)
  | (refine And.intro (by exact sz (by simp <;> omega)) ?_)
  | fail))
abbrev sp_is_name : LSp := QB.sp_is_name
abbrev sp_law_is_name : LSp := QB.sp_law_is_name
noncomputable abbrev sp_is_capacity : LSp := QB.sp_is_capacity
noncomputable abbrev sp_is_small : LSp := QA.sp_is_small
noncomputable abbrev sp_law_is_small : LSp := QA.sp_law_is_small
noncomputable abbrev sp_law_is_buffer : LSp := QB.sp_law_is_buffer
noncomputable abbrev sp_law_is_manner_of : LSp := QB.sp_law_is_manner_of
noncomputable abbrev sp_may_wish : LSp := QB.sp_may_wish
noncomputable abbrev sp_is_size : LSp := QB.sp_is_size
noncomputable abbrev sp_law_size_good : LSp := QB.sp_law_size_good
abbrev sp_is_route : LSp := QC.sp_is_route
noncomputable abbrev sp_are_buffers : LSp := QC.sp_are_buffers
abbrev sp_law_route_good : LSp := QC.sp_law_route_good
abbrev sp_is_between : LSp := QB.sp_is_between
abbrev sp_law_is_num : LSp := QB.sp_law_is_num
abbrev sp_compare : LSp := PA.sp_compare
abbrev sp_law_more : LSp := C05.sp_law_more
/-! ### faults -/
noncomputable def qv : D → Rat
  | .tup [.int t, .int b] => divInt t b
  | _ => 0
def isIn (l : List Str) : D → Bool
  | .str z => decide (z ∈ l)
  | _ => false
noncomputable def lowD (cap low : D) : D := if isNonD low then cap else low
noncomputable def linkFault (nm cap low wy dc od : D) : Str :=
  if isNm nm = false then "name" else if isCap cap = false then "capacity" else
  if isCap (lowD cap low) = false then "low" else if qv cap < qv (lowD cap low) then "low" else
  if isBt 1 20 wy = false then "way" else if isIn ["own", "spare", "ranks"] dc = false then "discipline" else
  if isBool od = false then "strange" else ""
noncomputable def mannD' (g G mm : D) : D := if isNonD mm then .tup [g, G] else mm
noncomputable def wishFault (g G door wy mm od : D) : Str :=
  if isSm g = false then "least" else if isSm G = false then "cap" else if qv G < qv g then "cap" else
  if isSm (lowD G door) = false then "door" else if qv (lowD G door) < qv G then "door" else
  if isBt 1 20 wy = false then "way" else if mayW (qv g) (qv G) (mannD' g G mm) = false then "manner" else
  if isBool od = false then "strange" else ""
noncomputable def flowFault (nm rt bf kd sz wt g G door wy mm od : D) : Str :=
  if isNm nm = false then "name" else if rtD rt = false then "route" else
  if bfD bf = false then "buffers" else if (items bf).length ≠ (items rt).length then "buffers" else
  if isIn ["level", "eager", "window", "probe"] kd = false then "kind" else
  if (match kd with | .str z => isSz z sz | _ => false) = false then "size" else
  if isBt 1 12 wt = false then "weight" else wishFault g G door wy mm od
def linkFs (nm cap low wy dc od : D) : List (Str × D) := [("name", nm), ("capacity", cap), ("low", low), ("way", wy), ("discipline", dc), ("strange", od)]
def wishFs (fs : List (Str × D)) (g G door wy mm od : D) : List (Str × D) := putFD "strange" od (putFD "manner" mm (putFD "way" wy (putFD "door" door (putFD "cap" G (putFD "least" g fs)))))
def flowFs (nm : D) (xs ys : List D) (kd sz wt g G door wy mm od : D) : List (Str × D) :=
  [("name", nm), ("route", .tup xs), ("last", .int (xs.length : Nat)), ("buffers", .tup ys), ("kind", kd), ("size", sz), ("weight", wt), ("least", g), ("cap", G), ("door", door), ("way", wy), ("manner", mm), ("strange", od)]
/-- what an __init__ ends in: without a fault, or with its exception -/
def InitK (C E a : Addr) (fs : List (Str × D)) (m : Mem) (Φ : DK) (Ψ : DXe) (f : Str) : Prop :=
  (f = "" → Φ .non (mset m a (.ins C fs))) ∧ (f ≠ "" → ∀ e, m e = none → Ψ (.ref E) (some e) (mset (mdel m a) e (.xd [("what", .str f)])))
noncomputable def spx_Link_init (C E : Addr) : LSpE := fun ds m Φ Ψ => ∃ (a : Addr) (nm cap low wy dc od : D), ds = [.ref a, nm, cap, low, wy, dc, od] ∧ m a = some (.ins C []) ∧ (∀ d ∈ [nm, cap, low, wy, dc, od], Pz 4 d) ∧
  InitK C E a (linkFs nm cap (lowD cap low) wy dc od) m Φ Ψ (linkFault nm cap low wy dc od)
noncomputable def spx_Flow_p_set_wishes (C E : Addr) : LSpE := fun ds m Φ Ψ => ∃ (a : Addr) (fs : List (Str × D)) (g G door wy mm od : D), ds = [.ref a, g, G, door, wy, mm, od] ∧ m a = some (.ins C fs) ∧ fs.length < 900 ∧ (∀ d ∈ [g, G, door, wy, mm, od], Pz 4 d) ∧
  InitK C E a (wishFs fs g G (lowD G door) wy (mannD' g G mm) od) m Φ Ψ (wishFault g G door wy mm od)
noncomputable def spx_Flow_init (C E : Addr) : LSpE := fun ds m Φ Ψ => ∃ (a : Addr) (nm rt rt' bf bf' kd sz wt g G door wy mm od : D), ds = [.ref a, nm, rt, bf, kd, sz, wt, g, G, door, wy, mm, od] ∧ m a = some (.ins C []) ∧
  (∀ d ∈ [nm, kd, sz, wt, g, G, door, wy, mm, od], Pz 4 d) ∧ Vw m rt rt' ∧ Vw m bf bf' ∧
  InitK C E a (flowFs nm (items rt') (items bf') kd sz wt g G (lowD G door) wy (mannD' g G mm) od) m Φ Ψ (flowFault nm rt' bf' kd sz wt g G door wy mm od)
noncomputable def sp_law_link_fault : LSp := fun ds m Φ => ∃ (nm cap low wy dc od : D), ds = [.tup [nm, cap, low, wy, dc, od]] ∧ (∀ d ∈ [nm, cap, low, wy, dc, od], Pz 4 d) ∧ Φ (.str (linkFault nm cap low wy dc od)) m
noncomputable def sp_law_flow_fault : LSp := fun ds m Φ => ∃ (nm rt bf kd sz wt g G door wy mm od : D), ds = [.tup [nm, rt, bf, kd, sz, wt, g, G, door, wy, mm, od]] ∧ (∀ d ∈ [nm, rt, bf, kd, sz, wt, g, G, door, wy, mm, od], Pz 4 d) ∧ Φ (.str (flowFault nm rt bf kd sz wt g G door wy mm od)) m
/-- Link.__init__, where it may raise: 0 self, 1 name, 2 capacity, 3 low, 4 way, 5 discipline, 6 strange -/
def qbx_Link_init (C E : Addr) : DXs → QS := fun Ψ =>
  (sSeq (sIf (qNot (qB (qCall (sp_is_name) (qCons (qVar 1) qNil)))) (sRaise1 E "what" (qC (.str "name")) Ψ) sNext)
    (sSeq (sIf (qNot (qB (qCall (sp_is_capacity) (qCons (qVar 2) qNil)))) (sRaise1 E "what" (qC (.str "capacity")) Ψ) sNext)
    (sSeq (sIf (qB (qOp qIsN (qVar 3) (qC .non))) (sAsg (.nm 3) (qVar 2)) sNext)
    (sSeq (sIf (qOr (qNot (qB (qCall (sp_is_capacity) (qCons (qVar 3) qNil)))) (qB (qOp (qI0 fun i j => .bl (decide (j < i))) (qCall (sp_compare) (qCons (qVar 3) (qCons (qVar 2) qNil))) (qC (.int 0))))) (sRaise1 E "what" (qC (.str "low")) Ψ) sNext)
    (sSeq (sIf (qNot (qB (qCall (sp_is_between) (qCons (qVar 4) (qCons (qC (.int 1)) (qCons (qC (.int 20)) qNil)))))) (sRaise1 E "what" (qC (.str "way")) Ψ) sNext)
    (sSeq (sIf (qOr (qNot (qB (qIsi "str" (qVar 5)))) (qB (qOp (vInX true) (qVar 5) (qC (.tup [(.str "own"), (.str "spare"), (.str "ranks")]))))) (sRaise1 E "what" (qC (.str "discipline")) Ψ) sNext)
    (sSeq (sIf (qNot (qB (qIsi "bool" (qVar 6)))) (sRaise1 E "what" (qC (.str "strange")) Ψ) sNext)
    (sSeq (sSetF C "name" (qVar 0) (qVar 1))
    (sSeq (sSetF C "capacity" (qVar 0) (qVar 2))
    (sSeq (sSetF C "low" (qVar 0) (qVar 3))
    (sSeq (sSetF C "way" (qVar 0) (qVar 4))
    (sSeq (sSetF C "discipline" (qVar 0) (qVar 5))
    (sSetF C "strange" (qVar 0) (qVar 6))))))))))))))
/-- Flow._set_wishes, where it may raise: 0 self, 1 least, 2 cap, 3 door, 4 way, 5 manner, 6 strange -/
def qbx_Flow_p_set_wishes (C E : Addr) : DXs → QS := fun Ψ =>
  (sSeq (sIf (qNot (qB (qCall (sp_is_small) (qCons (qVar 1) qNil)))) (sRaise1 E "what" (qC (.str "least")) Ψ) sNext)
    (sSeq (sIf (qOr (qNot (qB (qCall (sp_is_small) (qCons (qVar 2) qNil)))) (qB (qOp (qI0 fun i j => .bl (decide (i < j))) (qCall (sp_compare) (qCons (qVar 2) (qCons (qVar 1) qNil))) (qC (.int 0))))) (sRaise1 E "what" (qC (.str "cap")) Ψ) sNext)
    (sSeq (sIf (qB (qOp qIsN (qVar 3) (qC .non))) (sAsg (.nm 3) (qVar 2)) sNext)
    (sSeq (sIf (qOr (qNot (qB (qCall (sp_is_small) (qCons (qVar 3) qNil)))) (qB (qOp (qI0 fun i j => .bl (decide (i < j))) (qCall (sp_compare) (qCons (qVar 3) (qCons (qVar 2) qNil))) (qC (.int 0))))) (sRaise1 E "what" (qC (.str "door")) Ψ) sNext)
    (sSeq (sIf (qNot (qB (qCall (sp_is_between) (qCons (qVar 4) (qCons (qC (.int 1)) (qCons (qC (.int 20)) qNil)))))) (sRaise1 E "what" (qC (.str "way")) Ψ) sNext)
    (sSeq (sIf (qB (qOp qIsN (qVar 5) (qC .non))) (sAsg (.nm 5) (qTup (qCons (qVar 1) (qCons (qVar 2) qNil)))) sNext)
    (sSeq (sIf (qNot (qB (qCall (sp_may_wish) (qCons (qVar 5) (qCons (qVar 1) (qCons (qVar 2) qNil)))))) (sRaise1 E "what" (qC (.str "manner")) Ψ) sNext)
    (sSeq (sIf (qNot (qB (qIsi "bool" (qVar 6)))) (sRaise1 E "what" (qC (.str "strange")) Ψ) sNext)
    (sSeq (sSetF C "least" (qVar 0) (qVar 1))
    (sSeq (sSetF C "cap" (qVar 0) (qVar 2))
    (sSeq (sSetF C "door" (qVar 0) (qVar 3))
    (sSeq (sSetF C "way" (qVar 0) (qVar 4))
    (sSeq (sSetF C "manner" (qVar 0) (qVar 5))
    (sSetF C "strange" (qVar 0) (qVar 6)))))))))))))))
/-- Flow.__init__, where it may raise: 0 self, 1 name, 2 route, 3 buffers, 4 kind, 5 size, 6 weight, 7 least, 8 cap, 9 door, 10 way, 11 manner, 12 strange -/
def qbx_Flow_init (C E : Addr) : DXs → QS := fun Ψ =>
  (sSeq (sIf (qNot (qB (qCall (sp_is_name) (qCons (qVar 1) qNil)))) (sRaise1 E "what" (qC (.str "name")) Ψ) sNext)
    (sSeq (sIf (qNot (qB (qCall (sp_is_route) (qCons (qVar 2) qNil)))) (sRaise1 E "what" (qC (.str "route")) Ψ) sNext)
    (sSeq (sIf (qOr (qNot (qB (qCall (sp_are_buffers) (qCons (qVar 3) qNil)))) (qB (qOp vNe (qCB bLen (qCons (qVar 3) qNil)) (qCB bLen (qCons (qVar 2) qNil))))) (sRaise1 E "what" (qC (.str "buffers")) Ψ) sNext)
    (sSeq (sIf (qOr (qNot (qB (qIsi "str" (qVar 4)))) (qB (qOp (vInX true) (qVar 4) (qC (.tup [(.str "level"), (.str "eager"), (.str "window"), (.str "probe")]))))) (sRaise1 E "what" (qC (.str "kind")) Ψ) sNext)
    (sSeq (sIf (qNot (qB (qCall (sp_is_size) (qCons (qVar 4) (qCons (qVar 5) qNil))))) (sRaise1 E "what" (qC (.str "size")) Ψ) sNext)
    (sSeq (sIf (qNot (qB (qCall (sp_is_between) (qCons (qVar 6) (qCons (qC (.int 1)) (qCons (qC (.int 12)) qNil)))))) (sRaise1 E "what" (qC (.str "weight")) Ψ) sNext)
    (sSeq (sSetF C "name" (qVar 0) (qVar 1))
    (sSeq (sSetF C "route" (qVar 0) (qCB bTuple (qCons (qVar 2) qNil)))
    (sSeq (sSetF C "last" (qVar 0) (qCB bLen (qCons (qFld C "route" (qVar 0)) qNil)))
    (sSeq (sSetF C "buffers" (qVar 0) (qCB bTuple (qCons (qVar 3) qNil)))
    (sSeq (sSetF C "kind" (qVar 0) (qVar 4))
    (sSeq (sSetF C "size" (qVar 0) (qVar 5))
    (sSeq (sSetF C "weight" (qVar 0) (qVar 6))
    (sExprX (zMeth C "_set_wishes" (spx_Flow_p_set_wishes C E) (qVar 0) (qCons (qVar 7) (qCons (qVar 8) (qCons (qVar 9) (qCons (qVar 10) (qCons (qVar 11) (qCons (qVar 12) qNil))))))) Ψ))))))))))))))
/-- _law_link_fault: 0 _law_row -/
def qb_law_link_fault : QS :=
  (sSeq (sIf (qNot (qB (qCall (sp_law_is_name) (qCons (qOp vIx (qVar 0) (qC (.int 0))) qNil)))) (sRet (qC (.str "name"))) sNext)
    (sSeq (sIf (qOr (qNot (qB (qCall (sp_law_is_small) (qCons (qOp vIx (qVar 0) (qC (.int 1))) qNil)))) (qB (qOp vEq (qOp vIx (qOp vIx (qVar 0) (qC (.int 1))) (qC (.int 0))) (qC (.int 0))))) (sRet (qC (.str "capacity"))) sNext)
    (sSeq (sIf (qAnd (qB (qOp qNotN (qOp vIx (qVar 0) (qC (.int 2))) (qC .non))) (qOr (qNot (qB (qCall (sp_law_is_small) (qCons (qOp vIx (qVar 0) (qC (.int 2))) qNil)))) (qOr (qB (qOp vEq (qOp vIx (qOp vIx (qVar 0) (qC (.int 2))) (qC (.int 0))) (qC (.int 0)))) (qB (qCall (sp_law_more) (qCons (qOp vIx (qVar 0) (qC (.int 2))) (qCons (qOp vIx (qVar 0) (qC (.int 1))) qNil))))))) (sRet (qC (.str "low"))) sNext)
    (sSeq (sIf (qNot (qB (qCall (sp_law_is_num) (qCons (qOp vIx (qVar 0) (qC (.int 3))) (qCons (qC (.int 1)) (qCons (qC (.int 20)) qNil)))))) (sRet (qC (.str "way"))) sNext)
    (sSeq (sIf (qOr (qNot (qB (qIsi "str" (qOp vIx (qVar 0) (qC (.int 4)))))) (qB (qOp (vInX true) (qOp vIx (qVar 0) (qC (.int 4))) (qLstF (qCons (qC (.str "own")) (qCons (qC (.str "spare")) (qCons (qC (.str "ranks")) qNil))))))) (sRet (qC (.str "discipline"))) sNext)
    (sRet (qIfE (qB (qIsi "bool" (qOp vIx (qVar 0) (qC (.int 5))))) (qC (.str "")) (qC (.str "strange")))))))))
/-- _law_flow_fault: 0 _law_row, 1 _law_x -/
def qb_law_flow_fault : QS :=
  (sSeq (sIf (qNot (qB (qCall (sp_law_is_name) (qCons (qOp vIx (qVar 0) (qC (.int 0))) qNil)))) (sRet (qC (.str "name"))) sNext)
    (sSeq (sIf (qNot (qB (qCall (sp_law_route_good) (qCons (qOp vIx (qVar 0) (qC (.int 1))) qNil)))) (sRet (qC (.str "route"))) sNext)
    (sSeq (sIf (qOr (qNot (qB (qIsiT ["list", "tuple"] (qOp vIx (qVar 0) (qC (.int 2)))))) (qOr (qB (qOp vNe (qCB bLen (qCons (qOp vIx (qVar 0) (qC (.int 2))) qNil)) (qCB bLen (qCons (qOp vIx (qVar 0) (qC (.int 1))) qNil)))) (qNot (qB (qCB bAll (qCons (qFreeze (qLc (iSeq (qOp vIx (qVar 0) (qC (.int 2)))) (.nm 1) qYes (qCall (sp_law_is_buffer) (qCons (qVar 1) qNil)) [1])) qNil)))))) (sRet (qC (.str "buffers"))) sNext)
    (sSeq (sIf (qOr (qNot (qB (qIsi "str" (qOp vIx (qVar 0) (qC (.int 3)))))) (qB (qOp (vInX true) (qOp vIx (qVar 0) (qC (.int 3))) (qLstF (qCons (qC (.str "level")) (qCons (qC (.str "eager")) (qCons (qC (.str "window")) (qCons (qC (.str "probe")) qNil)))))))) (sRet (qC (.str "kind"))) sNext)
    (sSeq (sIf (qNot (qB (qCall (sp_law_size_good) (qCons (qOp vIx (qVar 0) (qC (.int 3))) (qCons (qOp vIx (qVar 0) (qC (.int 4))) qNil))))) (sRet (qC (.str "size"))) sNext)
    (sSeq (sIf (qNot (qB (qCall (sp_law_is_num) (qCons (qOp vIx (qVar 0) (qC (.int 5))) (qCons (qC (.int 1)) (qCons (qC (.int 12)) qNil)))))) (sRet (qC (.str "weight"))) sNext)
    (sSeq (sIf (qNot (qB (qCall (sp_law_is_small) (qCons (qOp vIx (qVar 0) (qC (.int 6))) qNil)))) (sRet (qC (.str "least"))) sNext)
    (sSeq (sIf (qOr (qNot (qB (qCall (sp_law_is_small) (qCons (qOp vIx (qVar 0) (qC (.int 7))) qNil)))) (qB (qCall (sp_law_more) (qCons (qOp vIx (qVar 0) (qC (.int 6))) (qCons (qOp vIx (qVar 0) (qC (.int 7))) qNil))))) (sRet (qC (.str "cap"))) sNext)
    (sSeq (sIf (qAnd (qB (qOp qNotN (qOp vIx (qVar 0) (qC (.int 8))) (qC .non))) (qOr (qNot (qB (qCall (sp_law_is_small) (qCons (qOp vIx (qVar 0) (qC (.int 8))) qNil)))) (qB (qCall (sp_law_more) (qCons (qOp vIx (qVar 0) (qC (.int 7))) (qCons (qOp vIx (qVar 0) (qC (.int 8))) qNil)))))) (sRet (qC (.str "door"))) sNext)
    (sSeq (sIf (qNot (qB (qCall (sp_law_is_num) (qCons (qOp vIx (qVar 0) (qC (.int 9))) (qCons (qC (.int 1)) (qCons (qC (.int 20)) qNil)))))) (sRet (qC (.str "way"))) sNext)
    (sSeq (sIf (qAnd (qB (qOp qNotN (qOp vIx (qVar 0) (qC (.int 10))) (qC .non))) (qNot (qB (qCall (sp_law_is_manner_of) (qCons (qOp vIx (qVar 0) (qC (.int 10))) (qCons (qOp vIx (qVar 0) (qC (.int 6))) (qCons (qOp vIx (qVar 0) (qC (.int 7))) qNil))))))) (sRet (qC (.str "manner"))) sNext)
    (sRet (qIfE (qB (qIsi "bool" (qOp vIx (qVar 0) (qC (.int 11))))) (qC (.str "")) (qC (.str "strange")))))))))))))))
end QD
end
section
/-! QE: right links and flows -/
namespace QE
open PySem PySem.Spec PyProof.Rows L2 L3 L4 LF LV PL PS C02 VA VT QA QB QC QD
open Rat (divInt)
open C13 (BagP)
open PF (FV k_setF k_setI k_fld k_fldI)
local macro_rules | `(tactic| walk_at "st") => `(tactic| repeat (first
  | (with_reducible refine k_var (by with_unfolding_all rfl) ?_)
  | (with_reducible refine k_seq ?_)
  | (with_reducible refine k_cons ?_)
  | (with_reducible refine k_nil ?_)
  | (with_reducible refine k_c ?_)
  | (with_reducible refine k_op ?_)
  | (with_reducible refine k_asg ?_)
  | (with_reducible refine k_call ?_)
  | (with_reducible refine k_cb ?_)
  | (with_reducible refine k_i0 ?_)
  | (with_reducible refine k_addI ?_)
  | (with_reducible refine k_B ?_)
  | (with_reducible refine k_bk ?_)
  | (with_reducible refine k_if ?_)
  | (with_reducible refine k_ret ?_)
  | (with_reducible refine k_expr ?_)
  | (with_reducible refine k_next ?_)
  | (with_reducible refine k_not ?_)
  | (with_reducible refine k_and ?_)
  | (with_reducible refine k_or ?_)
  | (with_reducible refine k_ift ?_)
  | (with_reducible refine k_iff ?_)
  | (with_reducible refine k_ifnt ?_)
  | (with_reducible refine k_ifnf ?_)
  | (with_reducible refine k_fz ?_)
  | (with_reducible refine k_lc ?_)
  | (with_reducible refine k_dc ?_)
  | (with_reducible refine k_for ?_)
  | (with_reducible refine k_rng ?_)
  | (with_reducible refine k_iL ?_)
  | (with_reducible refine k_iLl ?_)
  | (with_reducible refine k_iT ?_)
  | (with_reducible refine k_iTt ?_)
  | (with_reducible refine k_zip ?_)
  | (with_reducible refine k_asgp ?_)
  | (with_reducible refine k_atn ?_)
  | (with_reducible refine k_par ?_)
  | (with_reducible refine k_parI ?_)
  | (with_reducible refine k_par3 ?_)
  | (with_reducible refine k_par3I ?_)
  | (with_reducible refine k_sub ?_)
  | (with_reducible refine k_andV ?_)
  | (with_reducible refine k_orV ?_)
  | (with_reducible refine k_notV ?_)
  | (with_reducible refine k_ifE ?_)
  | (with_reducible refine k_chain ?_)
  | (with_reducible refine k_am0 ?_)
  | (with_reducible refine k_am1 ?_)
  | (with_reducible refine k_int ?_)
  | (with_reducible refine k_eqI ?_)
  | (with_reducible refine k_neI ?_)
  | (with_reducible refine k_eqB ?_)
  | (with_reducible refine k_neB ?_)
  | (with_reducible refine k_iaddI ?_)
  | (with_reducible refine k_lenT ?_)
  | (with_reducible refine k_lenL ?_)
  | (with_reducible refine k_tru ?_)
  | (with_reducible refine k_cont ?_)
  | (with_reducible refine k_brk ?_)
  | (with_reducible refine k_retN ?_)
  | (with_reducible refine k_callK ?_)
  | (with_reducible refine k_callS1 ?_)
  | (with_reducible refine k_star ?_)
  | (with_reducible refine k_itL ?_)
  | (with_reducible refine k_itT ?_)
  | (with_reducible refine k_isi ?_)
  | (with_reducible refine k_isiT ?_)
  | (with_reducible refine k_bm ?_)
  | (with_reducible refine k_tup ?_)
  | (with_reducible refine k_lstF ?_)
  | (with_reducible refine k_lstM ?_)
  | (with_reducible refine k_aug (by with_unfolding_all rfl) ?_)
  | (with_reducible refine k_iSv (by with_unfolding_all rfl) ?_)
  | (with_reducible refine k_ixt (by with_unfolding_all rfl) ?_)
  | (with_reducible refine k_at (by with_unfolding_all rfl) ?_)
  | (with_reducible refine k_fzn ‹_› ?_)
  | (refine And.intro (by exact sz (by simp <;> omega)) ?_)
  | fail))
theorem lt_mem {c : Nat} (h : isLt c = true) : 97 ≤ c ∧ c ≤ 122 := by
  have e : ("abcdefghijklmnopqrstuvwxyz" : Str).cps.toList = (List.range 26).map (97 + ·) := by decide +kernel
  have h : c ∈ ("abcdefghijklmnopqrstuvwxyz" : Str).cps.toList := of_decide_eq_true h
  rw [e] at h
  obtain ⟨k, hk, rfl⟩ := List.mem_map.mp h
  have := List.mem_range.mp hk
  omega
theorem nm_iff {z : Str} : isNm (.str z) = true ↔ (1 ≤ z.length ∧ z.length ≤ 6 ∧ z.cps.toList.all isLt = true) := by
  show (decide (1 ≤ z.length) && (decide (z.length ≤ 6) && z.cps.toList.all isLt)) = true ↔ _
  rw [Bool.and_eq_true, Bool.and_eq_true, decide_eq_true_iff, decide_eq_true_iff]
theorem nm_ok {z : Str} (h : isNm (.str z) = true) : PyData.strOk z = true := by
  have h3 := (nm_iff.mp h).2.2
  show z.cps.all (· < 0x110000) = true
  rw [← Array.all_toList]
  exact List.all_eq_true.mpr fun c hc => decide_eq_true (by have := lt_mem (List.all_eq_true.mp h3 c hc); omega)
structure LV where
  z : Str
  c : Rat
  l : Rat
  i : Int
  k : Str
  b : Bool
abbrev disc : List Str := ["own", "spare", "ranks"]
abbrev kinds : List Str := ["level", "eager", "window", "probe"]
def LV.row (v : LV) : List D := [.str v.z, am v.c, am v.l, .int v.i, .str v.k, .bl v.b]
def LV.fs (v : LV) : List (Str × D) := linkFs (.str v.z) (am v.c) (am v.l) (.int v.i) (.str v.k) (.bl v.b)
structure LV.Ok (v : LV) : Prop where
  nm : isNm (.str v.z) = true
  c0 : 0 < v.c
  c1 : v.c ≤ 1000
  c2 : v.c.den ≤ 12
  l0 : 0 < v.l
  lc : v.l ≤ v.c
  l2 : v.l.den ≤ 12
  i1 : 1 ≤ v.i
  i2 : v.i ≤ 20
  k : v.k ∈ disc
/-! ### flows -/
def FV.row (v : FV) : List D := [.str v.name, .tup (v.names.map D.str), .tup (v.bufs.map am), .str v.kind, v.size, .int v.w, am v.g, am v.G, am v.door, .int v.way, mannD v.mm, .bl v.odd]
structure FOk (v : FV) : Prop where
  nm : isNm (.str v.name) = true
  n1 : 1 ≤ v.names.length
  n5 : v.names.length ≤ 5
  ns : ∀ z ∈ v.names, isNm (.str z) = true
  nd : v.names.Nodup
  bl : v.bufs.length = v.names.length
  bs : ∀ q ∈ v.bufs, 0 ≤ q ∧ q ≤ 1000000 ∧ Az 400 q
  kd : v.kind ∈ kinds
  sz : isSz v.kind v.size = true
  szp : Pz 4 v.size
  w1 : 1 ≤ v.w
  w2 : v.w ≤ 12
  sg : PF.Sm v.g
  sG : PF.Sm v.G
  gG : v.g ≤ v.G
  sd : PF.Sm v.door
  Gd : v.G ≤ v.door
  y1 : 1 ≤ v.way
  y2 : v.way ≤ 20
  mo : ∀ p, v.mm = some p → 0 ≤ p.1 ∧ p.1 ≤ p.2 ∧ p.1 ≤ v.g ∧ p.2 ≤ v.G ∧ Az 400 p.1 ∧ Az 400 p.2
end QE
end
section
/-! QF: what links and flows tell of themselves; links and flows made of others -/
namespace QF
open PySem PySem.Spec PyProof.Rows L2 L3 L4 LF LV PL PS C02 VA VT QA QB QC QD QE
open Rat (divInt)
open C13 (BagP)
open PF (FV k_setF k_setI k_fld k_fldI k_meth k_methI)
local macro_rules | `(tactic| walk_at "st") => `(tactic| repeat (first
  | (with_reducible refine k_var (by with_unfolding_all rfl) ?_)
  | (with_reducible refine k_seq ?_)
  | (with_reducible refine k_cons ?_)
  | (with_reducible refine k_nil ?_)
  | (with_reducible refine k_c ?_)
  | (with_reducible refine k_op ?_)
  | (with_reducible refine k_asg ?_)
  | (with_reducible refine k_call ?_)
  | (with_reducible refine k_cb ?_)
  | (with_reducible refine k_i0 ?_)
  | (with_reducible refine k_addI ?_)
  | (with_reducible refine k_B ?_)
  | (with_reducible refine k_bk ?_)
  | (with_reducible refine k_if ?_)
  | (with_reducible refine k_ret ?_)
  | (with_reducible refine k_expr ?_)
  | (with_reducible refine k_next ?_)
  | (with_reducible refine k_not ?_)
  | (with_reducible refine k_and ?_)
  | (with_reducible refine k_or ?_)
  | (with_reducible refine k_ift ?_)
  | (with_reducible refine k_iff ?_)
  | (with_reducible refine k_ifnt ?_)
  | (with_reducible refine k_ifnf ?_)
  | (with_reducible refine k_fz ?_)
  | (with_reducible refine k_lc ?_)
  | (with_reducible refine k_dc ?_)
  | (with_reducible refine k_for ?_)
  | (with_reducible refine k_rng ?_)
  | (with_reducible refine k_iL ?_)
  | (with_reducible refine k_iLl ?_)
  | (with_reducible refine k_iT ?_)
  | (with_reducible refine k_iTt ?_)
  | (with_reducible refine k_zip ?_)
  | (with_reducible refine k_asgp ?_)
  | (with_reducible refine k_atn ?_)
  | (with_reducible refine k_par ?_)
  | (with_reducible refine k_parI ?_)
  | (with_reducible refine k_par3 ?_)
  | (with_reducible refine k_par3I ?_)
  | (with_reducible refine k_sub ?_)
  | (with_reducible refine k_andV ?_)
  | (with_reducible refine k_orV ?_)
  | (with_reducible refine k_notV ?_)
  | (with_reducible refine k_ifE ?_)
  | (with_reducible refine k_chain ?_)
  | (with_reducible refine k_am0 ?_)
  | (with_reducible refine k_am1 ?_)
  | (with_reducible refine k_int ?_)
  | (with_reducible refine k_eqI ?_)
  | (with_reducible refine k_neI ?_)
  | (with_reducible refine k_eqB ?_)
  | (with_reducible refine k_neB ?_)
  | (with_reducible refine k_iaddI ?_)
  | (with_reducible refine k_lenT ?_)
  | (with_reducible refine k_lenL ?_)
  | (with_reducible refine k_tru ?_)
  | (with_reducible refine k_cont ?_)
  | (with_reducible refine k_brk ?_)
  | (with_reducible refine k_retN ?_)
  | (with_reducible refine k_callK ?_)
  | (with_reducible refine k_callS1 ?_)
  | (with_reducible refine k_star ?_)
  | (with_reducible refine k_itL ?_)
  | (with_reducible refine k_itT ?_)
  | (with_reducible refine k_isi ?_)
  | (with_reducible refine k_isiT ?_)
  | (with_reducible refine k_bm ?_)
  | (with_reducible refine k_tup ?_)
  | (with_reducible refine k_lstF ?_)
  | (with_reducible refine k_lstM ?_)
  | (with_reducible refine k_aug (by with_unfolding_all rfl) ?_)
  | (with_reducible refine k_iSv (by with_unfolding_all rfl) ?_)
  | (with_reducible refine k_ixt (by with_unfolding_all rfl) ?_)
  | (with_reducible refine k_at (by with_unfolding_all rfl) ?_)
  | (with_reducible refine k_fzn ‹_› ?_)
  | (refine And.intro (by exact sz (by simp <;> omega)) ?_)
  | fail))
abbrev sp_amount_text : LSp := QA.sp_amount_text
noncomputable abbrev sp_may_wish : LSp := QB.sp_may_wish
noncomputable abbrev spx_Link_init (C E : Addr) : LSpE := QD.spx_Link_init C E
noncomputable abbrev spx_Flow_init (C E : Addr) : LSpE := QD.spx_Flow_init C E
def ffs (v : FV) : List (Str × D) := flowFs (.str v.name) (v.names.map D.str) (v.bufs.map am) (.str v.kind) v.size (.int v.w) (am v.g) (am v.G) (am v.door) (.int v.way) (mannD v.mm) (.bl v.odd)
/-! ### equal data -/
def eqD (x y : D) : Bool := match toPy x, toPy y with
  | some p, some q => PyData.eqv p q
  | _, _ => false
theorem eqD_nil : eqD (.tup []) (.tup []) = true := rfl
/-! ### specs -/
def sp_Link_p_fields (C : Addr) : LSp := fun ds m Φ => ∃ (a : Addr) (v : LV), ds = [.ref a] ∧ m a = some (.ins C v.fs) ∧ Φ (.tup v.row) m
def sp_law_link_row_of (C : Addr) : LSp := sp_Link_p_fields C
def sp_Link_eq (C : Addr) : LSp := fun ds m Φ => ∃ (a : Addr) (v : LV) (y : D), ds = [.ref a, y] ∧ m a = some (.ins C v.fs) ∧ v.Ok ∧ ((∃ (b : Addr) (w : LV), y = .ref b ∧ m b = some (.ins C w.fs) ∧ w.Ok ∧ Φ (.bl (eqD (.tup v.row) (.tup w.row))) m) ∨ (((∃ ds, y = .tup ds) ∨ ∃ z, y = .str z) ∧ Φ (.bl false) m))
noncomputable def sp_Link_is_shaky (C : Addr) : LSp := fun ds m Φ => ∃ (a : Addr) (v : LV), ds = [.ref a] ∧ m a = some (.ins C v.fs) ∧ Φ (.bl (!decide (v.l = v.c))) m
def linkTx (v : LV) : Str := Str.empty ++ "Link(" ++ v.z ++ ", " ++ (if v.l = v.c then shw v.c else shw v.l ++ " to " ++ shw v.c) ++ ")"
def sp_Link_repr (C : Addr) : LSp := fun ds m Φ => ∃ (a : Addr) (v : LV), ds = [.ref a] ∧ m a = some (.ins C v.fs) ∧ v.Ok ∧ Φ (.str (linkTx v)) m
def sp_Link_as_strange (C : Addr) : LSp := fun ds m Φ => ∃ (a : Addr) (v : LV), ds = [.ref a] ∧ m a = some (.ins C v.fs) ∧ v.Ok ∧ ∀ b, m b = none → Φ (.ref b) (mset m b (.ins C (LV.fs { v with b := true })))
def fields (v : FV) : List D := [.tup [.str v.name, .tup (v.names.map D.str), .tup (v.bufs.map am), .str v.kind, v.size, .int v.w], am v.g, am v.G, am v.door, .int v.way, mannD v.mm, .bl v.odd]
def sp_Flow_p_fields (C : Addr) : LSp := fun ds m Φ => ∃ (a : Addr) (v : FV), ds = [.ref a] ∧ m a = some (.ins C (ffs v)) ∧ Φ (.tup (fields v)) m
def sp_law_flow_row_of (C : Addr) : LSp := fun ds m Φ => ∃ (a : Addr) (v : FV), ds = [.ref a] ∧ m a = some (.ins C (ffs v)) ∧ Φ (.tup (FV.row v)) m
def sp_Flow_eq (C : Addr) : LSp := fun ds m Φ => ∃ (a : Addr) (v : FV) (y : D), ds = [.ref a, y] ∧ m a = some (.ins C (ffs v)) ∧ FOk v ∧ ((∃ (b : Addr) (w : FV), y = .ref b ∧ m b = some (.ins C (ffs w)) ∧ FOk w ∧ Φ (.bl (eqD (.tup (FV.row v)) (.tup (FV.row w)))) m) ∨ (((∃ ds, y = .tup ds) ∨ ∃ z, y = .str z) ∧ Φ (.bl false) m))
def sp_Flow_is_gone (C : Addr) : LSp := fun ds m Φ => ∃ (a : Addr) (v : FV), ds = [.ref a] ∧ m a = some (.ins C (ffs v)) ∧ FOk v ∧ Φ (.bl v.mm.isNone) m
def flowTx (v : FV) : Str := Str.empty ++ "Flow(" ++ v.name ++ ", " ++ Txt.join " " v.names ++ ")"
def sp_Flow_repr (C : Addr) : LSp := fun ds m Φ => ∃ (a : Addr) (v : FV), ds = [.ref a] ∧ m a = some (.ins C (ffs v)) ∧ FOk v ∧ Φ (.str (flowTx v)) m
def sp_Flow_channel_of (C : Addr) : LSp := fun ds m Φ => ∃ (a : Addr) (v : FV) (k z : Str), ds = [.ref a, .str k, .str z] ∧ m a = some (.ins C (ffs v)) ∧ PyData.strOk k = true ∧
  Φ (.tup (if k = "bit" then [.str k, .str z, .str v.name, .str v.name] else [.str k, .str v.name, .str z, .str v.name])) m
/-- what a call that makes a flow ends in -/
def MadeK (C E : Addr) (r : FV → Prop) (m : Mem) (Φ : DK) (Ψ : DXe) (f : Str) : Prop :=
  (f = "" → ∀ v, r v → ∀ b, m b = none → Φ (.ref b) (mset m b (.ins C (ffs v)))) ∧ (f ≠ "" → ∀ e, m e = none → Ψ (.ref E) (some e) (mset m e (.xd [("what", .str f)])))
/-- the flow of a row without a fault -/
def RowOf (nm rt bf kd sz wt g G door wy mm od : D) (v : FV) : Prop := FOk v ∧ nm = .str v.name ∧ items rt = v.names.map D.str ∧ items bf = v.bufs.map am ∧ kd = .str v.kind ∧ sz = v.size ∧ wt = .int v.w ∧ g = am v.g ∧ G = am v.G ∧ lowD G door = am v.door ∧ wy = .int v.way ∧ mannD' g G mm = mannD v.mm ∧ od = .bl v.odd
noncomputable def spx_law_link (C E : Addr) : LSpE := fun ds m Φ Ψ => ∃ (nm cap low wy dc od : D), ds = [.tup [nm, cap, low, wy, dc, od]] ∧ (∀ d ∈ [nm, cap, low, wy, dc, od], Pz 4 d) ∧
  (∀ v : LV, v.Ok → nm = .str v.z → cap = am v.c → lowD cap low = am v.l → wy = .int v.i → dc = .str v.k → od = .bl v.b → ∀ b, m b = none → Φ (.ref b) (mset m b (.ins C v.fs))) ∧
  (linkFault nm cap low wy dc od ≠ "" → ∀ e, m e = none → Ψ (.ref E) (some e) (mset m e (.xd [("what", .str (linkFault nm cap low wy dc od))])))
noncomputable def spx_law_flow (C E : Addr) : LSpE := fun ds m Φ Ψ => ∃ (nm rt bf kd sz wt g G door wy mm od : D), ds = [.tup [nm, rt, bf, kd, sz, wt, g, G, door, wy, mm, od]] ∧ (∀ d ∈ [nm, rt, bf, kd, sz, wt, g, G, door, wy, mm, od], Pz 4 d) ∧
  MadeK C E (RowOf nm rt bf kd sz wt g G door wy mm od) m Φ Ψ (flowFault nm rt bf kd sz wt g G door wy mm od)
noncomputable def spx_Flow_p_made_anew (C E : Addr) : LSpE := fun ds m Φ Ψ => ∃ (a : Addr) (v : FV) (bf sz mm od : D), ds = [.ref a, bf, sz, mm, od] ∧ m a = some (.ins C (ffs v)) ∧ FOk v ∧ (∀ d ∈ [bf, sz, mm, od], Pz 4 d) ∧
  MadeK C E (RowOf (.str v.name) (.tup (v.names.map D.str)) bf (.str v.kind) sz (.int v.w) (am v.g) (am v.G) (am v.door) (.int v.way) mm od) m Φ Ψ (flowFault (.str v.name) (.tup (v.names.map D.str)) bf (.str v.kind) sz (.int v.w) (am v.g) (am v.G) (am v.door) (.int v.way) mm od)
noncomputable def spx_Flow_with_manner (C E M : Addr) : LSpE := fun ds m Φ Ψ => ∃ (a : Addr) (v : FV) (mm : D), ds = [.ref a, mm] ∧ m a = some (.ins C (ffs v)) ∧ FOk v ∧ Pz 4 mm ∧
  (∀ w, mayW v.g v.G mm = true → mm = mannD w → (∀ p, w = some p → 0 ≤ p.1 ∧ p.1 ≤ p.2 ∧ p.1 ≤ v.g ∧ p.2 ≤ v.G ∧ Az 400 p.1 ∧ Az 400 p.2) → ∀ b, m b = none → Φ (.ref b) (mset m b (.ins C (ffs { v with mm := w })))) ∧
  (mayW v.g v.G mm = false → ∀ e, m e = none → Ψ (.ref M) (some e) (mset m e (.xd [("flow", .str v.name)])))
noncomputable def spx_Flow_with_buffers (C E : Addr) : LSpE := fun ds m Φ Ψ => ∃ (a : Addr) (v : FV) (bf sz : D), ds = [.ref a, bf, sz] ∧ m a = some (.ins C (ffs v)) ∧ FOk v ∧ Pz 4 bf ∧ Pz 4 sz ∧
  MadeK C E (RowOf (.str v.name) (.tup (v.names.map D.str)) bf (.str v.kind) (lowD v.size sz) (.int v.w) (am v.g) (am v.G) (am v.door) (.int v.way) (mannD v.mm) (.bl v.odd)) m Φ Ψ (flowFault (.str v.name) (.tup (v.names.map D.str)) bf (.str v.kind) (lowD v.size sz) (.int v.w) (am v.g) (am v.G) (am v.door) (.int v.way) (mannD v.mm) (.bl v.odd))
def sp_Flow_as_strange (C : Addr) : LSp := fun ds m Φ => ∃ (a : Addr) (v : FV), ds = [.ref a] ∧ m a = some (.ins C (ffs v)) ∧ FOk v ∧ ∀ b, m b = none → Φ (.ref b) (mset m b (.ins C (ffs { v with odd := true })))
/-- Link._fields: 0 self -/
def qb_Link_p_fields (C : Addr) : QS :=
  (sRet (qTup (qCons (qFld C "name" (qVar 0)) (qCons (qFld C "capacity" (qVar 0)) (qCons (qFld C "low" (qVar 0)) (qCons (qFld C "way" (qVar 0)) (qCons (qFld C "discipline" (qVar 0)) (qCons (qFld C "strange" (qVar 0)) qNil))))))))
/-- Link.__eq__: 0 self, 1 other -/
def qb_Link_eq (C : Addr) : QS :=
  (sRet (qAndV (qIsCA C (qVar 1)) (qOp vEq (qMeth C "_fields" (sp_Link_p_fields C) (qVar 0) qNil) (qMeth C "_fields" (sp_Link_p_fields C) (qVar 1) qNil))))
/-- Link.is_shaky: 0 self -/
def qb_Link_is_shaky (C : Addr) : QS :=
  (sRet (qOp vNe (qFld C "low" (qVar 0)) (qFld C "capacity" (qVar 0))))
/-- Link.__repr__: 0 self, 1 most -/
def qb_Link_repr (C : Addr) : QS :=
  (sSeq (sAsg (.nm 1) (qCall (sp_amount_text) (qCons (qFld C "capacity" (qVar 0)) qNil)))
    (sSeq (sIf (qB (qMeth C "is_shaky" (sp_Link_is_shaky C) (qVar 0) qNil)) (sRet (qJoin [(qC (.str "Link(")), (qFmt (qFld C "name" (qVar 0))), (qC (.str ", ")), (qFmt (qCall (sp_amount_text) (qCons (qFld C "low" (qVar 0)) qNil))), (qC (.str " to ")), (qFmt (qVar 1)), (qC (.str ")"))])) sNext)
    (sRet (qJoin [(qC (.str "Link(")), (qFmt (qFld C "name" (qVar 0))), (qC (.str ", ")), (qFmt (qVar 1)), (qC (.str ")"))]))))
/-- Link.as_strange: 0 self -/
def qb_Link_as_strange (C E : Addr) : QS :=
  (sRet (zNo (zMakeK C (spx_Link_init C E) 2 4 [0, 1, 2, 3, 4, 5, 6] [] (qCons (qFld C "name" (qVar 0)) (qCons (qFld C "capacity" (qVar 0)) qNil)) (qCons (qFld C "low" (qVar 0)) (qCons (qFld C "way" (qVar 0)) (qCons (qFld C "discipline" (qVar 0)) (qCons (qC (.bl true)) qNil)))))))
/-- Flow.is_gone: 0 self -/
def qb_Flow_is_gone (C : Addr) : QS :=
  (sRet (qOp vEq (qFld C "manner" (qVar 0)) (qTup qNil)))
/-- Flow.__repr__: 0 self, 1 links -/
def qb_Flow_repr (C : Addr) : QS :=
  (sSeq (sAsg (.nm 1) (qJoinA (qC (.str " ")) (qFld C "route" (qVar 0))))
    (sRet (qJoin [(qC (.str "Flow(")), (qFmt (qFld C "name" (qVar 0))), (qC (.str ", ")), (qFmt (qVar 1)), (qC (.str ")"))])))
/-- Flow._fields: 0 self, 1 source -/
def qb_Flow_p_fields (C : Addr) : QS :=
  (sSeq (sAsg (.nm 1) (qTup (qCons (qFld C "name" (qVar 0)) (qCons (qFld C "route" (qVar 0)) (qCons (qFld C "buffers" (qVar 0)) (qCons (qFld C "kind" (qVar 0)) (qCons (qFld C "size" (qVar 0)) (qCons (qFld C "weight" (qVar 0)) qNil))))))))
    (sRet (qTup (qCons (qVar 1) (qCons (qFld C "least" (qVar 0)) (qCons (qFld C "cap" (qVar 0)) (qCons (qFld C "door" (qVar 0)) (qCons (qFld C "way" (qVar 0)) (qCons (qFld C "manner" (qVar 0)) (qCons (qFld C "strange" (qVar 0)) qNil))))))))))
/-- Flow.__eq__: 0 self, 1 other -/
def qb_Flow_eq (C : Addr) : QS :=
  (sRet (qAndV (qIsCA C (qVar 1)) (qOp vEq (qMeth C "_fields" (sp_Flow_p_fields C) (qVar 0) qNil) (qMeth C "_fields" (sp_Flow_p_fields C) (qVar 1) qNil))))
/-- Flow.channel_of: 0 self, 1 kind, 2 link -/
def qb_Flow_channel_of (C : Addr) : QS :=
  (sSeq (sIf (qB (qOp vEq (qVar 1) (qC (.str "bit")))) (sRet (qTup (qCons (qVar 1) (qCons (qVar 2) (qCons (qFld C "name" (qVar 0)) (qCons (qFld C "name" (qVar 0)) qNil)))))) sNext)
    (sRet (qTup (qCons (qVar 1) (qCons (qFld C "name" (qVar 0)) (qCons (qVar 2) (qCons (qFld C "name" (qVar 0)) qNil)))))))
/-- Flow._made_anew, where it may raise: 0 self, 1 buffers, 2 size, 3 manner, 4 strange -/
def qbx_Flow_p_made_anew (C E : Addr) : DXs → QS := fun Ψ =>
  (sRetX (zMakeK C (spx_Flow_init C E) 3 9 [0, 1, 2, 3, 4, 5, 6, 7, 8, 9, 10, 11, 12] [] (qCons (qFld C "name" (qVar 0)) (qCons (qFld C "route" (qVar 0)) (qCons (qVar 1) qNil))) (qCons (qFld C "kind" (qVar 0)) (qCons (qVar 2) (qCons (qFld C "weight" (qVar 0)) (qCons (qFld C "least" (qVar 0)) (qCons (qFld C "cap" (qVar 0)) (qCons (qFld C "door" (qVar 0)) (qCons (qFld C "way" (qVar 0)) (qCons (qVar 3) (qCons (qVar 4) qNil)))))))))) Ψ)
/-- Flow.with_manner, where it may raise: 0 self, 1 manner -/
def qbx_Flow_with_manner (C E M : Addr) : DXs → QS := fun Ψ =>
  (sSeq (sIf (qNot (qB (qCall (sp_may_wish) (qCons (qVar 1) (qCons (qFld C "least" (qVar 0)) (qCons (qFld C "cap" (qVar 0)) qNil)))))) (sRaise1 M "flow" (qFld C "name" (qVar 0)) Ψ) sNext)
    (sRetX (zMeth C "_made_anew" (spx_Flow_p_made_anew C E) (qVar 0) (qCons (qFld C "buffers" (qVar 0)) (qCons (qFld C "size" (qVar 0)) (qCons (qVar 1) (qCons (qFld C "strange" (qVar 0)) qNil))))) Ψ))
/-- Flow.with_buffers, where it may raise: 0 self, 1 buffers, 2 size -/
def qbx_Flow_with_buffers (C E : Addr) : DXs → QS := fun Ψ =>
  (sSeq (sIf (qB (qOp qIsN (qVar 2) (qC .non))) (sAsg (.nm 2) (qFld C "size" (qVar 0))) sNext)
    (sRetX (zMeth C "_made_anew" (spx_Flow_p_made_anew C E) (qVar 0) (qCons (qVar 1) (qCons (qVar 2) (qCons (qFld C "manner" (qVar 0)) (qCons (qFld C "strange" (qVar 0)) qNil))))) Ψ))
/-- _law_link, where it may raise: 0 _law_row -/
def qbx_law_link (C E : Addr) : DXs → QS := fun Ψ =>
  (sRetX (zMakeK C (spx_Link_init C E) 2 4 [0, 1, 2, 3, 4, 5, 6] [] (qCons (qOp vIx (qVar 0) (qC (.int 0))) (qCons (qOp vIx (qVar 0) (qC (.int 1))) qNil)) (qCons (qOp vIx (qVar 0) (qC (.int 2))) (qCons (qOp vIx (qVar 0) (qC (.int 3))) (qCons (qOp vIx (qVar 0) (qC (.int 4))) (qCons (qOp vIx (qVar 0) (qC (.int 5))) qNil))))) Ψ)
/-- _law_flow, where it may raise: 0 _law_row -/
def qbx_law_flow (C E : Addr) : DXs → QS := fun Ψ =>
  (sRetX (zMakeK C (spx_Flow_init C E) 3 9 [0, 1, 2, 3, 4, 5, 6, 7, 8, 9, 10, 11, 12] [] (qCons (qOp vIx (qVar 0) (qC (.int 0))) (qCons (qOp vIx (qVar 0) (qC (.int 1))) (qCons (qOp vIx (qVar 0) (qC (.int 2))) qNil))) (qCons (qOp vIx (qVar 0) (qC (.int 3))) (qCons (qOp vIx (qVar 0) (qC (.int 4))) (qCons (qOp vIx (qVar 0) (qC (.int 5))) (qCons (qOp vIx (qVar 0) (qC (.int 6))) (qCons (qOp vIx (qVar 0) (qC (.int 7))) (qCons (qOp vIx (qVar 0) (qC (.int 8))) (qCons (qOp vIx (qVar 0) (qC (.int 9))) (qCons (qOp vIx (qVar 0) (qC (.int 10))) (qCons (qOp vIx (qVar 0) (qC (.int 11))) qNil)))))))))) Ψ)
/-- _law_link_row_of: 0 _law_one -/
def qb_law_link_row_of (C : Addr) : QS :=
  (sRet (qTup (qCons (qFld C "name" (qVar 0)) (qCons (qFld C "capacity" (qVar 0)) (qCons (qFld C "low" (qVar 0)) (qCons (qFld C "way" (qVar 0)) (qCons (qFld C "discipline" (qVar 0)) (qCons (qFld C "strange" (qVar 0)) qNil))))))))
/-- _law_flow_row_of: 0 _law_one -/
def qb_law_flow_row_of (C : Addr) : QS :=
  (sRet (qTup (qCons (qFld C "name" (qVar 0)) (qCons (qFld C "route" (qVar 0)) (qCons (qFld C "buffers" (qVar 0)) (qCons (qFld C "kind" (qVar 0)) (qCons (qFld C "size" (qVar 0)) (qCons (qFld C "weight" (qVar 0)) (qCons (qFld C "least" (qVar 0)) (qCons (qFld C "cap" (qVar 0)) (qCons (qFld C "door" (qVar 0)) (qCons (qFld C "way" (qVar 0)) (qCons (qFld C "manner" (qVar 0)) (qCons (qFld C "strange" (qVar 0)) qNil))))))))))))))
/-- Flow.as_strange: 0 self -/
def qb_Flow_as_strange (C E : Addr) : QS :=
  (sRet (zNo (zMeth C "_made_anew" (spx_Flow_p_made_anew C E) (qVar 0) (qCons (qFld C "buffers" (qVar 0)) (qCons (qFld C "size" (qVar 0)) (qCons (qFld C "manner" (qVar 0)) (qCons (qC (.bl true)) qNil)))))))
/-! ### made anew -/
theorem pick7 {a b c d e f g : D} : pick [0, 1, 2, 3, 4, 5, 6] [a, b, c, d, e, f, g] = [a, b, c, d, e, f, g] := rfl
/-! ### rows made -/
end QF
end
section
/-! QG: what the laws whose bag starts with seed 13965 and whose draws use 48271 draw: names, rows of links and flows -/
namespace QG
open PySem PySem.Spec PyProof.Rows L2 L3 L4 LF LV PL PS C02 VA VT QA QB QC QD QE QF
open Rat (divInt)
open C13 (BagP)
open PF (FV)
open CF (k_slS k_slSI k_ixS k_catS abc abc_len abc_in abc_at join_sgn)
local macro_rules | `(tactic| walk_at "st") => `(tactic| repeat (first
  | (with_reducible refine k_var (by with_unfolding_all rfl) ?_)
  | (with_reducible refine k_seq ?_)
  | (with_reducible refine k_cons ?_)
  | (with_reducible refine k_nil ?_)
  | (with_reducible refine k_c ?_)
  | (with_reducible refine k_op ?_)
  | (with_reducible refine k_asg ?_)
  | (with_reducible refine k_call ?_)
  | (with_reducible refine k_cb ?_)
  | (with_reducible refine k_i0 ?_)
  | (with_reducible refine k_addI ?_)
  | (with_reducible refine k_B ?_)
  | (with_reducible refine k_bk ?_)
  | (with_reducible refine k_if ?_)
  | (with_reducible refine k_ret ?_)
  | (with_reducible refine k_expr ?_)
  | (with_reducible refine k_next ?_)
  | (with_reducible refine k_not ?_)
  | (with_reducible refine k_and ?_)
  | (with_reducible refine k_or ?_)
  | (with_reducible refine k_ift ?_)
  | (with_reducible refine k_iff ?_)
  | (with_reducible refine k_ifnt ?_)
  | (with_reducible refine k_ifnf ?_)
  | (with_reducible refine k_fz ?_)
  | (with_reducible refine k_lc ?_)
  | (with_reducible refine k_dc ?_)
  | (with_reducible refine k_for ?_)
  | (with_reducible refine k_rng ?_)
  | (with_reducible refine k_iL ?_)
  | (with_reducible refine k_iLl ?_)
  | (with_reducible refine k_iT ?_)
  | (with_reducible refine k_iTt ?_)
  | (with_reducible refine k_zip ?_)
  | (with_reducible refine k_asgp ?_)
  | (with_reducible refine k_atn ?_)
  | (with_reducible refine k_par ?_)
  | (with_reducible refine k_parI ?_)
  | (with_reducible refine k_par3 ?_)
  | (with_reducible refine k_par3I ?_)
  | (with_reducible refine k_sub ?_)
  | (with_reducible refine k_andV ?_)
  | (with_reducible refine k_orV ?_)
  | (with_reducible refine k_notV ?_)
  | (with_reducible refine k_ifE ?_)
  | (with_reducible refine k_chain ?_)
  | (with_reducible refine k_am0 ?_)
  | (with_reducible refine k_am1 ?_)
  | (with_reducible refine k_int ?_)
  | (with_reducible refine k_eqI ?_)
  | (with_reducible refine k_neI ?_)
  | (with_reducible refine k_eqB ?_)
  | (with_reducible refine k_neB ?_)
  | (with_reducible refine k_iaddI ?_)
  | (with_reducible refine k_lenT ?_)
  | (with_reducible refine k_lenL ?_)
  | (with_reducible refine k_tru ?_)
  | (with_reducible refine k_cont ?_)
  | (with_reducible refine k_brk ?_)
  | (with_reducible refine k_retN ?_)
  | (with_reducible refine k_callK ?_)
  | (with_reducible refine k_callS1 ?_)
  | (with_reducible refine k_star ?_)
  | (with_reducible refine k_itL ?_)
  | (with_reducible refine k_itT ?_)
  | (with_reducible refine k_isi ?_)
  | (with_reducible refine k_isiT ?_)
  | (with_reducible refine k_bm ?_)
  | (with_reducible refine k_tup ?_)
  | (with_reducible refine k_lstF ?_)
  | (with_reducible refine k_lstM ?_)
  | (with_reducible refine k_aug (by with_unfolding_all rfl) ?_)
  | (with_reducible refine k_iSv (by with_unfolding_all rfl) ?_)
  | (with_reducible refine k_ixt (by with_unfolding_all rfl) ?_)
  | (with_reducible refine k_at (by with_unfolding_all rfl) ?_)
  | (with_reducible refine k_fzn ‹_› ?_)
  | (refine And.intro (by exact sz (by simp <;> omega)) ?_)
  | fail))
abbrev sp_law_draw : LSp := C05.sp_law_draw
abbrev sp_law_of : LSp := QA.sp_law_of
abbrev sp_law_pair : LSp := C05.sp_law_pair
abbrev sp_law_wide : LSp := C05.sp_law_wide
abbrev sp_law_add : LSp := C05.sp_law_add
abbrev sp_law_sub : LSp := C05.sp_law_sub
abbrev sp_law_mul : LSp := C05.sp_law_mul
abbrev sp_law_min : LSp := C05.sp_law_min
abbrev sp_law_bit : LSp := C05.sp_law_bit
def sp_law_word : LSp := fun ds m Φ => ∃ b : Addr, ds = [.ref b] ∧ m b = some (.any BagP) ∧ ∀ z, isNm (.str z) = true → Φ (.str z) m
def sp_law_fresh : LSp := fun ds m Φ => ∃ (b t : Addr) (ys : List Str), ds = [.ref b, .ref t] ∧ m b = some (.any BagP) ∧ m t = some (.lst (ys.map D.str)) ∧ ys.length < 26 ∧ ∀ z, isNm (.str z) = true → z ∉ ys → Φ (.str z) m
def sp_law_names : LSp := fun ds m Φ => ∃ (b : Addr) (n : Nat), ds = [.ref b, .int n] ∧ m b = some (.any BagP) ∧ n < 26 ∧ ∀ ys : List Str, ys.length = n → (∀ z ∈ ys, isNm (.str z) = true) → ys.Nodup → ∀ a, m a = none → Φ (.ref a) (mset m a (.lst (ys.map D.str)))
def sp_law_link_row : LSp := fun ds m Φ => ∃ (b : Addr) (z : Str), ds = [.ref b, .str z, .bl false] ∧ m b = some (.any BagP) ∧ isNm (.str z) = true ∧ ∀ v : LV, v.Ok → Φ (.tup v.row) m
def sp_law_buffer : LSp := fun ds m Φ => ∃ b : Addr, ds = [.ref b] ∧ m b = some (.any BagP) ∧ ∀ q, 0 ≤ q → q ≤ 1000000 → Az 160 q → Φ (am q) m
def sp_law_manner : LSp := fun ds m Φ => ∃ (b : Addr) (g G : Rat), ds = [.ref b, am g, am G] ∧ m b = some (.any BagP) ∧ PF.Sm g ∧ PF.Sm G ∧ g ≤ G ∧ ∀ mm : Option (Rat × Rat), (∀ p, mm = some p → 0 ≤ p.1 ∧ p.1 ≤ p.2 ∧ p.1 ≤ g ∧ p.2 ≤ G ∧ Az 400 p.1 ∧ Az 400 p.2) → Φ (mannD mm) m
def sp_law_flow_row : LSp := fun ds m Φ => ∃ (b : Addr) (z : Str) (ns : List Str) (q : Rat), ds = [.ref b, .str z, .lst (ns.map D.str), am q, .bl false] ∧ m b = some (.any BagP) ∧ isNm (.str z) = true ∧ 1 ≤ ns.length ∧ ns.length ≤ 5 ∧ (∀ y ∈ ns, isNm (.str y) = true) ∧ ns.Nodup ∧ Okb 12 12 q ∧
  ∀ v : FV, FOk v → Φ (.tup (FV.row v)) m
/-- _law_bit: 0 _law_bag_here -/
def qb_law_bit : QS :=
  (sRet (qCall (sp_law_pair) (qCons (qCall (sp_law_draw) (qCons (qVar 0) (qCons (qC (.int 13)) qNil))) (qCons (qCall (sp_law_of) (qCons (qVar 0) (qCons (qLstF (qCons (qC (.int 1)) (qCons (qC (.int 1)) (qCons (qC (.int 2)) (qCons (qC (.int 3)) (qCons (qC (.int 1)) (qCons (qC (.int 4)) (qCons (qC (.int 12)) qNil)))))))) qNil))) qNil))))
/-- _law_word: 0 _law_bag_here, 1 _law_many, 2 _law_k -/
def qb_law_word : QS :=
  (sSeq (sIf (qB (qOp vEq (qCall (sp_law_draw) (qCons (qVar 0) (qCons (qC (.int 3)) qNil))) (qC (.int 0)))) (sRet (qCall (sp_law_of) (qCons (qVar 0) (qCons (qLstF (qCons (qC (.str "a")) (qCons (qC (.str "b")) (qCons (qC (.str "own")) (qCons (qC (.str "end")) (qCons (qC (.str "gone")) (qCons (qC (.str "wish")) (qCons (qC (.str "over")) (qCons (qC (.str "link")) (qCons (qC (.str "flow")) (qCons (qC (.str "house")) (qCons (qC (.str "true")) (qCons (qC (.str "level")) (qCons (qC (.str "zzzzzz")) (qCons (qC (.str "self")) (qCons (qC (.str "none")) (qCons (qC (.str "top")) qNil))))))))))))))))) qNil)))) sNext)
    (sSeq (sAsg (.nm 1) (qOp qAdd (qC (.int 1)) (qCall (sp_law_draw) (qCons (qVar 0) (qCons (qC (.int 6)) qNil)))))
    (sRet (qJoinL (qC (.str "")) (qFreeze (qLc (iRange1 (qCons (qVar 1) qNil)) (.nm 2) qYes (qCall (sp_law_of) (qCons (qVar 0) (qCons (qC (.str "abcdefghijklmnopqrstuvwxyz")) qNil))) [2]))))))
/-- _law_fresh: 0 _law_bag_here, 1 _law_taken, 2 _law_word_here, 3 _law_spot, 4 _law_k, 5 _law_more_here -/
def qb_law_fresh : QS :=
  (sSeq (sAsg (.nm 2) (qCall (sp_law_word) (qCons (qVar 0) qNil)))
    (sSeq (sIf (qB (qOp (vInR true) (qVar 2) (qVar 1))) (sRet (qVar 2)) sNext)
    (sSeq (sAsg (.nm 3) (qCall (sp_law_draw) (qCons (qVar 0) (qCons (qC (.int 26)) qNil))))
    (sSeq (sFor (iRange1 (qCons (qC (.int 26)) qNil)) (.nm 4) (sSeq (sAsg (.nm 5) (qOp qAdd (qSlS (qVar 2) qNoPart (qPart (qC (.int 5)))) (qOp vIx (qC (.str "abcdefghijklmnopqrstuvwxyz")) (qOp (qIC (fun _ j => 0 < j) fun i j => .int (i % j)) (qCB bInt (qCons (qOp qAdd (qVar 3) (qVar 4)) qNil)) (qC (.int 26))))))
    (sIf (qB (qOp (vInR true) (qVar 5) (qVar 1))) (sRet (qVar 5)) sNext)))
    (sRet (qVar 2))))))
/-- _law_names: 0 _law_bag_here, 1 _law_many, 2 _law_words, 3 _law_k -/
def qb_law_names : QS :=
  (sSeq (sAsg (.nm 2) (qLstM qNil))
    (sSeq (sFor (iRange1 (qCons (qVar 1) qNil)) (.nm 3) (sExpr (qBM "list" (mtL gAppend) (qVar 2) (qCons (qCall (sp_law_fresh) (qCons (qVar 0) (qCons (qVar 2) qNil))) qNil))))
    (sRet (qVar 2))))
/-- _law_link_row: 0 _law_bag_here, 1 _law_word_here, 2 _law_plain, 3 _law_lot, 4 _law_supply, 5 _law_fewer -/
def qb_law_link_row : QS :=
  (sSeq (sAsg (.nm 3) (qCall (sp_law_of) (qCons (qVar 0) (qCons (qLstF (qCons (qC (.int 1)) (qCons (qC (.int 1)) (qCons (qC (.int 2)) (qCons (qC (.int 3)) (qCons (qC (.int 12)) qNil)))))) qNil))))
    (sSeq (sAsg (.nm 4) (qCall (sp_law_of) (qCons (qVar 0) (qCons (qLstF (qCons (qCall (sp_law_pair) (qCons (qOp qAdd (qC (.int 1)) (qCall (sp_law_draw) (qCons (qVar 0) (qCons (qOp (qIC CM fun i j => .int (i * j)) (qC (.int 12)) (qVar 3)) qNil)))) (qCons (qVar 3) qNil))) (qCons (qCall (sp_law_pair) (qCons (qOp qAdd (qC (.int 1)) (qCall (sp_law_draw) (qCons (qVar 0) (qCons (qOp (qIC CM fun i j => .int (i * j)) (qC (.int 12)) (qVar 3)) qNil)))) (qCons (qVar 3) qNil))) (qCons (qCall (sp_law_pair) (qCons (qOp qAdd (qC (.int 1)) (qCall (sp_law_draw) (qCons (qVar 0) (qCons (qOp (qIC CM fun i j => .int (i * j)) (qC (.int 12)) (qVar 3)) qNil)))) (qCons (qVar 3) qNil))) (qCons (qTup (qCons (qC (.int 1000)) (qCons (qC (.int 1)) qNil))) (qCons (qTup (qCons (qC (.int 1)) (qCons (qC (.int 12)) qNil))) qNil)))))) qNil))))
    (sSeq (sAsg (.nm 5) (qVar 4))
    (sSeq (sIf (qAnd (qNot (qTru (qVar 2))) (qB (qOp vEq (qCall (sp_law_draw) (qCons (qVar 0) (qCons (qC (.int 3)) qNil))) (qC (.int 0))))) (sAsg (.nm 5) (qCall (sp_law_pair) (qCons (qOp qAdd (qC (.int 1)) (qCall (sp_law_draw) (qCons (qVar 0) (qCons (qOp vIx (qVar 4) (qC (.int 0))) qNil)))) (qCons (qOp vIx (qVar 4) (qC (.int 1))) qNil)))) sNext)
    (sRet (qTup (qCons (qVar 1) (qCons (qVar 4) (qCons (qVar 5) (qCons (qCall (sp_law_of) (qCons (qVar 0) (qCons (qLstF (qCons (qC (.int 1)) (qCons (qC (.int 2)) (qCons (qC (.int 3)) (qCons (qOp qAdd (qC (.int 1)) (qCall (sp_law_draw) (qCons (qVar 0) (qCons (qC (.int 20)) qNil)))) qNil))))) qNil))) (qCons (qCall (sp_law_of) (qCons (qVar 0) (qCons (qLstF (qCons (qC (.str "own")) (qCons (qC (.str "spare")) (qCons (qC (.str "ranks")) qNil)))) qNil))) (qCons (qAndV (qNotV (qVar 2)) (qOp vEq (qCall (sp_law_draw) (qCons (qVar 0) (qCons (qC (.int 4)) qNil))) (qC (.int 0)))) qNil))))))))))))
/-- _law_buffer: 0 _law_bag_here, 1 _law_shape, 2 _law_lot -/
def qb_law_buffer : QS :=
  (sSeq (sAsg (.nm 1) (qCall (sp_law_draw) (qCons (qVar 0) (qCons (qC (.int 6)) qNil))))
    (sSeq (sIf (qB (qOp vEq (qVar 1) (qC (.int 0)))) (sRet (qCall (sp_law_of) (qCons (qVar 0) (qCons (qLstF (qCons (qTup (qCons (qC (.int 0)) (qCons (qC (.int 1)) qNil))) (qCons (qTup (qCons (qC (.int 1000000)) (qCons (qC (.int 1)) qNil))) (qCons (qTup (qCons (qC (.int 999999)) (qCons (qC (.int 2)) qNil))) qNil)))) qNil)))) sNext)
    (sSeq (sIf (qB (qOp vEq (qVar 1) (qC (.int 1)))) (sSeq (sAsg (.nm 2) (qOp qAdd (qC (.int 1)) (qOp (qIC CM fun i j => .int (i * j)) (qCall (sp_law_wide) (qCons (qVar 0) (qCons (qC (.int 16)) qNil))) (qCall (sp_law_wide) (qCons (qVar 0) (qCons (qC (.int 16)) qNil))))))
    (sRet (qCall (sp_law_pair) (qCons (qOp (qIC (fun _ j => 0 < j) fun i j => .int (i % j)) (qCB bInt (qCons (qOp qAdd (qOp (qIC CM fun i j => .int (i * j)) (qCall (sp_law_wide) (qCons (qVar 0) (qCons (qC (.int 19)) qNil))) (qOp qPow (qC (.int 10)) (qC (.int 19)))) (qCall (sp_law_wide) (qCons (qVar 0) (qCons (qC (.int 19)) qNil)))) qNil)) (qOp qAdd (qOp (qIC CM fun i j => .int (i * j)) (qC (.int 1000000)) (qVar 2)) (qC (.int 1)))) (qCons (qVar 2) qNil))))) sNext)
    (sRet (qCall (sp_law_pair) (qCons (qCall (sp_law_draw) (qCons (qVar 0) (qCons (qC (.int 60)) qNil))) (qCons (qCall (sp_law_of) (qCons (qVar 0) (qCons (qLstF (qCons (qC (.int 1)) (qCons (qC (.int 1)) (qCons (qC (.int 2)) (qCons (qC (.int 3)) (qCons (qC (.int 7)) qNil)))))) qNil))) qNil)))))))
/-- _law_manner: 0 _law_bag_here, 1 _law_few, 2 _law_lid, 3 _law_shape, 4 _law_lot, 5 _law_a -/
def qb_law_manner : QS :=
  (sSeq (sAsg (.nm 3) (qCall (sp_law_draw) (qCons (qVar 0) (qCons (qC (.int 7)) qNil))))
    (sSeq (sIf (qB (qOp vEq (qVar 3) (qC (.int 0)))) (sRet (qTup qNil)) sNext)
    (sSeq (sAsg (.nm 4) (qOp qAdd (qC (.int 1)) (qCall (sp_law_draw) (qCons (qVar 0) (qCons (qC (.int 7)) qNil)))))
    (sSeq (sAsg (.nm 5) (qCall (sp_law_of) (qCons (qVar 0) (qCons (qLstF (qCons (qTup (qCons (qC (.int 0)) (qCons (qC (.int 1)) qNil))) (qCons (qVar 1) (qCons (qVar 1) (qCons (qCall (sp_law_pair) (qCons (qOp (qIC CM fun i j => .int (i * j)) (qOp vIx (qVar 1) (qC (.int 0))) (qCall (sp_law_draw) (qCons (qVar 0) (qCons (qOp qAdd (qVar 4) (qC (.int 1))) qNil)))) (qCons (qOp (qIC CM fun i j => .int (i * j)) (qOp vIx (qVar 1) (qC (.int 1))) (qVar 4)) qNil))) qNil))))) qNil))))
    (sSeq (sIf (qB (qOp vEq (qVar 3) (qC (.int 1)))) (sRet (qTup (qCons (qVar 5) (qCons (qVar 5) qNil)))) sNext)
    (sSeq (sIf (qB (qOp (qI0 fun i j => .bl (decide (i < j))) (qVar 3) (qC (.int 5)))) (sRet (qTup (qCons (qVar 5) (qCons (qVar 2) qNil)))) sNext)
    (sSeq (sIf (qB (qOp vEq (qVar 3) (qC (.int 5)))) (sRet (qTup (qCons (qVar 5) (qCons (qCall (sp_law_min) (qCons (qVar 2) (qCons (qCall (sp_law_add) (qCons (qVar 5) (qCons (qCall (sp_law_bit) (qCons (qVar 0) qNil)) qNil))) qNil))) qNil)))) sNext)
    (sRet (qTup (qCons (qVar 5) (qCons (qCall (sp_law_add) (qCons (qVar 5) (qCons (qCall (sp_law_mul) (qCons (qCall (sp_law_sub) (qCons (qVar 2) (qCons (qVar 5) qNil))) (qCons (qCall (sp_law_pair) (qCons (qCall (sp_law_draw) (qCons (qVar 0) (qCons (qOp qAdd (qVar 4) (qC (.int 1))) qNil))) (qCons (qVar 4) qNil))) qNil))) qNil))) qNil)))))))))))
/-- _law_flow_row: 0 _law_bag_here, 1 _law_word_here, 2 _law_path, 3 _law_room, 4 _law_plain, 5 _law_lot, 6 _law_bulk, 7 _law_few, 8 _law_lid, 9 _law_gate, 10 _law_holds, 11 _law_sort, 12 _law_extent, 13 _law_one, 14 _law_wish, 15 _law_k -/
def qb_law_flow_row : QS :=
  (sSeq (sAsg (.nm 5) (qCall (sp_law_of) (qCons (qVar 0) (qCons (qLstF (qCons (qC (.int 1)) (qCons (qC (.int 1)) (qCons (qC (.int 2)) (qCons (qC (.int 3)) qNil))))) qNil))))
    (sSeq (sAsg (.nm 6) (qOp (qIC CDivW fun i j => .int (i / j)) (qOp (qIC CM fun i j => .int (i * j)) (qOp vIx (qVar 3) (qC (.int 0))) (qVar 5)) (qOp vIx (qVar 3) (qC (.int 1)))))
    (sSeq (sAsg (.nm 7) (qCall (sp_law_pair) (qCons (qCall (sp_law_of) (qCons (qVar 0) (qCons (qLstF (qCons (qC (.int 0)) (qCons (qVar 6) (qCons (qCall (sp_law_draw) (qCons (qVar 0) (qCons (qOp qAdd (qVar 6) (qC (.int 1))) qNil))) (qCons (qCall (sp_law_draw) (qCons (qVar 0) (qCons (qOp qAdd (qVar 6) (qC (.int 1))) qNil))) qNil))))) qNil))) (qCons (qVar 5) qNil))))
    (sSeq (sAsg (.nm 8) (qCall (sp_law_of) (qCons (qVar 0) (qCons (qLstF (qCons (qVar 7) (qCons (qTup (qCons (qC (.int 1000)) (qCons (qC (.int 1)) qNil))) (qCons (qTup (qCons (qC (.int 1000)) (qCons (qC (.int 1)) qNil))) (qCons (qCall (sp_law_min) (qCons (qTup (qCons (qC (.int 1000)) (qCons (qC (.int 1)) qNil))) (qCons (qCall (sp_law_add) (qCons (qVar 7) (qCons (qCall (sp_law_pair) (qCons (qCall (sp_law_draw) (qCons (qVar 0) (qCons (qC (.int 20)) qNil))) (qCons (qVar 5) qNil))) qNil))) qNil))) qNil))))) qNil))))
    (sSeq (sAsg (.nm 9) (qCall (sp_law_of) (qCons (qVar 0) (qCons (qLstF (qCons (qVar 8) (qCons (qTup (qCons (qC (.int 1000)) (qCons (qC (.int 1)) qNil))) (qCons (qCall (sp_law_min) (qCons (qTup (qCons (qC (.int 1000)) (qCons (qC (.int 1)) qNil))) (qCons (qCall (sp_law_add) (qCons (qVar 8) (qCons (qCall (sp_law_pair) (qCons (qCall (sp_law_draw) (qCons (qVar 0) (qCons (qC (.int 20)) qNil))) (qCons (qVar 5) qNil))) qNil))) qNil))) qNil)))) qNil))))
    (sSeq (sAsg (.nm 10) (qCB bTuple (qCons (qFreeze (qLc (iLst (qVar 2)) (.nm 15) qYes (qCall (sp_law_buffer) (qCons (qVar 0) qNil)) [15])) qNil)))
    (sSeq (sAsg (.nm 11) (qCall (sp_law_of) (qCons (qVar 0) (qCons (qLstF (qCons (qC (.str "level")) (qCons (qC (.str "eager")) (qCons (qC (.str "window")) (qCons (qC (.str "probe")) qNil))))) qNil))))
    (sSeq (sAsg (.nm 12) (qC .non))
    (sSeq (sIf (qB (qOp vEq (qVar 11) (qC (.str "window")))) (sSeq (sAsg (.nm 5) (qOp qAdd (qC (.int 1)) (qCall (sp_law_draw) (qCons (qVar 0) (qCons (qC (.int 7)) qNil)))))
    (sSeq (sAsg (.nm 12) (qOp vIx (qVar 10) (qC (.int 0))))
    (sSeq (sFor (iTup (qVar 10)) (.nm 13) (sAsg (.nm 12) (qCall (sp_law_min) (qCons (qVar 12) (qCons (qVar 13) qNil)))))
    (sAsg (.nm 12) (qCall (sp_law_mul) (qCons (qVar 12) (qCons (qCall (sp_law_pair) (qCons (qCall (sp_law_draw) (qCons (qVar 0) (qCons (qOp qAdd (qVar 5) (qC (.int 1))) qNil))) (qCons (qVar 5) qNil))) qNil))))))) (sIf (qB (qOp vEq (qVar 11) (qC (.str "probe")))) (sAsg (.nm 12) (qOp qAdd (qC (.int 1)) (qCall (sp_law_draw) (qCons (qVar 0) (qCons (qC (.int 12)) qNil))))) sNext))
    (sSeq (sAsg (.nm 14) (qCall (sp_law_manner) (qCons (qVar 0) (qCons (qVar 7) (qCons (qVar 8) qNil)))))
    (sRet (qTup (qCons (qVar 1) (qCons (qCB bTuple (qCons (qVar 2) qNil)) (qCons (qVar 10) (qCons (qVar 11) (qCons (qVar 12) (qCons (qCall (sp_law_of) (qCons (qVar 0) (qCons (qLstF (qCons (qC (.int 1)) (qCons (qC (.int 1)) (qCons (qC (.int 2)) (qCons (qC (.int 3)) (qCons (qOp qAdd (qC (.int 1)) (qCall (sp_law_draw) (qCons (qVar 0) (qCons (qC (.int 12)) qNil)))) qNil)))))) qNil))) (qCons (qVar 7) (qCons (qVar 8) (qCons (qVar 9) (qCons (qCall (sp_law_of) (qCons (qVar 0) (qCons (qLstF (qCons (qC (.int 1)) (qCons (qC (.int 2)) (qCons (qC (.int 3)) (qCons (qOp qAdd (qC (.int 1)) (qCall (sp_law_draw) (qCons (qVar 0) (qCons (qC (.int 20)) qNil)))) qNil))))) qNil))) (qCons (qVar 14) (qCons (qAndV (qNotV (qVar 4)) (qOp vEq (qCall (sp_law_draw) (qCons (qVar 0) (qCons (qC (.int 4)) qNil))) (qC (.int 0)))) qNil))))))))))))))))))))))))
/-- _law_near: 0 _law_bag_here, 1 _law_x -/
def qb_law_near : QS :=
  (sRet (qCall (sp_law_of) (qCons (qVar 0) (qCons (qLstF (qCons (qVar 1) (qCons (qCall (sp_law_add) (qCons (qVar 1) (qCons (qTup (qCons (qC (.int 1)) (qCons (qC (.int 12)) qNil))) qNil))) (qCons (qCall (sp_law_add) (qCons (qVar 1) (qCons (qTup (qCons (qC (.int 1)) (qCons (qC (.int 1)) qNil))) qNil))) (qCons (qCall (sp_law_pair) (qCons (qOp vIx (qVar 1) (qC (.int 0))) (qCons (qOp qAdd (qOp vIx (qVar 1) (qC (.int 1))) (qC (.int 1))) qNil))) (qCons (qTup (qCons (qC (.int 0)) (qCons (qC (.int 1)) qNil))) (qCons (qTup (qCons (qC (.int 1000)) (qCons (qC (.int 1)) qNil))) (qCons (qTup (qCons (qC (.int 1001)) (qCons (qC (.int 1)) qNil))) qNil)))))))) qNil))))
/-- _law_word_near: 0 _law_bag_here, 1 _law_word_here, 2 _law_spot, 3 _law_sign -/
def qb_law_word_near : QS :=
  (sSeq (sAsg (.nm 2) (qCall (sp_law_draw) (qCons (qVar 0) (qCons (qOp qAdd (qCB bLen (qCons (qVar 1) qNil)) (qC (.int 1))) qNil))))
    (sSeq (sAsg (.nm 3) (qCall (sp_law_of) (qCons (qVar 0) (qCons (qLstF (qCons (qC (.str "A")) (qCons (qC (.str "1")) (qCons (qC (.str " ")) (qCons (qC (.str "\n")) (qCons (qC (.str "_")) (qCons (qC (.str "z")) (qCons (qC (.str "ab")) (qCons (qC (.str "-")) (qCons (qC (.str "")) qNil)))))))))) qNil))))
    (sRet (qCall (sp_law_of) (qCons (qVar 0) (qCons (qLstF (qCons (qOp qAdd (qOp qAdd (qSlS (qVar 1) qNoPart (qPart (qVar 2))) (qVar 3)) (qSlS (qVar 1) (qPart (qVar 2)) qNoPart)) (qCons (qOp qAdd (qOp qAdd (qSlS (qVar 1) qNoPart (qPart (qVar 2))) (qVar 3)) (qSlS (qVar 1) (qPart (qOp qAdd (qVar 2) (qC (.int 1)))) qNoPart)) (qCons (qOp qAdd (qVar 1) (qC (.str "zzzzz"))) (qCons (qC (.str "")) qNil))))) qNil))))))
/-- _law_flow_due: 0 _law_row, 1 _law_lid, 2 _law_wish -/
def qb_law_flow_due : QS :=
  (sSeq (sAsg (.nm 1) (qIfE (qB (qOp qIsN (qOp vIx (qVar 0) (qC (.int 8))) (qC .non))) (qOp vIx (qVar 0) (qC (.int 7))) (qOp vIx (qVar 0) (qC (.int 8)))))
    (sSeq (sAsg (.nm 2) (qIfE (qB (qOp qIsN (qOp vIx (qVar 0) (qC (.int 10))) (qC .non))) (qTup (qCons (qOp vIx (qVar 0) (qC (.int 6))) (qCons (qOp vIx (qVar 0) (qC (.int 7))) qNil))) (qOp vIx (qVar 0) (qC (.int 10)))))
    (sRet (qOp qAdd (qOp qAdd (qOp qAdd (qSlT (qVar 0) qNoPart (qPart (qC (.int 1)))) (qTup (qCons (qCB bTuple (qCons (qOp vIx (qVar 0) (qC (.int 1))) qNil)) (qCons (qCB bTuple (qCons (qOp vIx (qVar 0) (qC (.int 2))) qNil)) qNil)))) (qSlT (qVar 0) (qPart (qC (.int 3))) (qPart (qC (.int 8))))) (qTup (qCons (qVar 1) (qCons (qOp vIx (qVar 0) (qC (.int 9))) (qCons (qVar 2) (qCons (qOp vIx (qVar 0) (qC (.int 11))) qNil)))))))))
theorem nm_w {z : Str} {l : List Nat} (e : z.cps.toList = l) (h : (decide (1 ≤ l.length) && decide (l.length ≤ 6) && l.all isLt) = true) : isNm (.str z) = true := by
  rw [Bool.and_eq_true, Bool.and_eq_true, decide_eq_true_iff, decide_eq_true_iff] at h
  have ll : z.cps.toList.length = z.length := Array.length_toList
  refine nm_iff.mpr ⟨?_, ?_, by rw [e]; exact h.2⟩
  · rw [← ll, e]; exact h.1.1
  · rw [← ll, e]; exact h.1.2
theorem words_nm : (["a", "b", "own", "end", "gone", "wish", "over", "link", "flow", "house", "true", "level", "zzzzzz", "self", "none", "top"] : List Str).all (fun z => isNm (.str z)) = true := by decide +kernel
theorem lt_of {c : Nat} (h : c ∈ abc.cps.toList) : isLt c = true := decide_eq_true h
theorem len_law_word : ∀ ds m Φ, sp_law_word ds m Φ → ds.length = 1 := by rintro _ _ _ ⟨_, rfl, _⟩; rfl
theorem rd_law_word : ∀ ds m Φ, sp_law_word ds m Φ → qb_law_word (bodyW Φ) (begin_ 3 ds) m := by
  rintro _ m Φ ⟨b, rfl, hb, k⟩
  unfold qb_law_word
  walk_at "st"
  refine ⟨b, _, rfl, hb, by decide, by decide, fun d d0 d1 => ?_⟩
  walk_at "st"
  refine qif (fun e => ?_) (fun e => ?_)
  · walk_at "st"
    refine .inl ⟨b, _, hb, by simp, by simp, .inl rfl, fun x hx => ?_⟩
    have hx : x ∈ (["a", "b", "own", "end", "gone", "wish", "over", "link", "flow", "house", "true", "level", "zzzzzz", "self", "none", "top"] : List Str).map D.str := hx
    obtain ⟨z, hz, rfl⟩ := List.mem_map.mp hx
    exact wk_at (k z (List.all_eq_true.mp words_nm z hz))
  · walk_at "st"
    refine ⟨b, _, rfl, hb, by decide, by decide, fun n n0 n6 => ?_⟩
    walk_at "st"
    refine (?_ : qJoinL (qC (.str "")) _ _ _ _)
    refine k_c ⟨⟨_, rfl⟩, ?_⟩
    walk_at "st"
    obtain ⟨j, rfl⟩ : ∃ j : Nat, n = j := ⟨n.toNat, by omega⟩
    refine k_rngI (n := 1 + j) (by omega) ?_
    walk_at "st"
    refine lc_by (fun i acc => ∃ cs : List Nat, acc = cs.map (fun c => D.str ⟨#[c]⟩) ∧ cs.length = i ∧ ∀ c ∈ cs, isLt c = true) ⟨[], rfl, rfl, fun c hc => by cases hc⟩ (fun _ _ _ => trivial) ?_ ?_
    · rintro j d acc a ha hd hl' ⟨cs, rfl, hcl, hcs⟩
      obtain ⟨hj, rfl⟩ := get_ints hd
      have hbm : mset m a (.lst (cs.map fun c => D.str ⟨#[c]⟩)) b = some (.any BagP) := by rw [mset_ne (ne_none hb ha)]; exact hb
      refine qif_t rfl ?_
      walk_at "st"
      refine .inr (.inl ⟨b, abc, rfl, hbm, by rw [abc_len]; decide, by rw [abc_len]; decide, fun c hc => ?_⟩)
      refine lc_ok hl' (by show j < 16777216; omega) ⟨cs ++ [c], by rw [List.map_append]; rfl, by rw [List.length_append, hcl]; rfl, fun e he => ?_⟩
      rcases List.mem_append.mp he with he | he
      · exact hcs e he
      · obtain rfl : e = c := by simpa using he
        exact lt_of hc
    · rintro acc a ha hacc ⟨cs, rfl, hcl, hcs⟩
      rw [ints_len] at hcl
      refine k_fzn ha ?_
      refine ⟨cs.map fun c => (⟨#[c]⟩ : Str), by rw [List.map_map]; rfl, ?_, ?_⟩
      · have e1 : ((cs.map fun c => (⟨#[c]⟩ : Str)).map (·.length)).sum = cs.length := by
          clear hcl hcs hacc
          induction cs with
          | nil => rfl
          | cons c cs ih =>
            rw [List.map_cons, List.map_cons, List.sum_cons, ih, List.length_cons]
            show 1 + _ = _
            omega
        have e2 : ("" : Str).length = 0 := rfl
        rw [e1, e2]; omega
      · rw [join_sgn]
        refine wk_at (k _ (nm_w (l := cs) (by simp) ?_))
        rw [Bool.and_eq_true, Bool.and_eq_true, decide_eq_true_iff, decide_eq_true_iff]
        exact ⟨⟨by omega, by omega⟩, List.all_eq_true.mpr hcs⟩
end QG
end
section
/-! L7d: tuple + tuple -/
namespace L3
open PySem PySem.Spec PyProof.Rows L2
section
variable {X : Cx}
def qAddT : D → D → Mem → DK → Prop := fun x y m Φ => match x, y with
  | .tup xs, .tup ys => xs.length + ys.length ≤ sizeLine ∧ Φ (.tup (xs ++ ys)) m
  | _, _ => False
end
end L3
end
section
/-! L8a: own __contains__, __len__, __bool__ -/
namespace L3
open PySem PySem.Spec PyProof.Rows L2
section
variable {X : Cx}
/-- x in o, x not in o, o of the own class at C -/
def vInO (C : Addr) (sp : LSp) (neg : Bool) : D → D → Mem → DK → Prop := fun x y m Φ => match y with
  | .ref a => (∃ fs, m a = some (.ins C fs)) ∧ sp [.ref a, x] m fun d m1 => match d with | .bl c => Φ (.bl (c != neg)) m1 | _ => False
  | _ => False
def bLenO (C : Addr) (sp : LSp) : LSp := fun ds m Φ => match ds with
  | [.ref a] => (∃ fs, m a = some (.ins C fs)) ∧ sp [.ref a] m fun d m1 => match d with | .int z => (0 ≤ z ∧ z < 2 ^ 63) ∧ Φ (.int z) m1 | _ => False
  | _ => False
def qTruO (C : Addr) (sp : LSp) (qe : QE) : QT := fun s m Φ => qe s m fun x m1 => match x with
  | .ref a => (∃ fs, m1 a = some (.ins C fs)) ∧ sp [.ref a] m1 fun d m2 => match d with | .bl c => Φ c m2 | _ => False
  | _ => False
end
end L3
end
section
set_option maxHeartbeats 2000000
/-! L8b: a lambda with one parameter handed to a def, with a value, that calls it with this value and takes its exceptions -/
namespace LamX
open PySem PySem.Spec PyProof.Rows L2
/-- one parameter p, no name of its own else: captured ones and globals -/
structure LamS1 (sc scope : Scope) (p : Str) : Prop where
  kind : scope.kind = .function
  co : scope.isCoroutine = false
  gen : scope.isGenerator = false
  own : ∀ y ∈ scope.names, y.2 ≠ .cell ∧ (y.2 = .local → y.1 = p)
  par : scope.names.lookup p = some .local
  free : ∀ y ∈ scope.names, y.2 = .free → sc.names.lookup y.1 = some .cell ∨ sc.names.lookup y.1 = some .free
def lamS1B (sc scope : Scope) (p : Str) : Bool :=
  decide (scope.kind = .function) && !scope.isCoroutine && !scope.isGenerator && (scope.names.all fun y => !decide (y.2 = .cell) && (!decide (y.2 = .local) || decide (y.1 = p)) && (!decide (y.2 = .free) || decide (sc.names.lookup y.1 = some .cell) || decide (sc.names.lookup y.1 = some .free))) && decide (scope.names.lookup p = some .local)
section
variable {X : Cx} {pins : List (Addr × Obj)} {σ : L2.St} {H HZ : Hp} {s s1 : Shared}
end
/-- the def at g makes TT of the lambda and the value that it got -/
def Gives1 (X : Cx) (Ng : List Str) (x : Str) (sg : Scope) (g : Addr) (cdg : Value) (bg : List Stmt) (a b : Str) (q : Str) (TT : (XK → V → Hp → VK → Prop) → V → Hp → VK → Prop) : Prop :=
  ∀ (f c' : Addr) (w : V) (s : Shared) (H : Hp) (Q : VK) (tl : XK → V → Hp → VK → Prop), (∀ (E E' : XK) (w : V) (H : Hp) (Q Q' : VK), (∀ cls d H, E cls d H → E' cls d H) → (∀ v H, Q v H → Q' v H) → tl E w H Q → tl E' w H Q') →
    (∀ (W : WX) (pn : List (Addr × Obj)) (xe : Value → Shared → Prop) (p1 p2 p3 : Pos), L2.Takes ((cxOf C8.CX0 X.prog X.w X.K X.mg X.base Ng x sg g cdg X.A X.stack s H C8.E0).tr pn xe) W →
      PE ((cxOf C8.CX0 X.prog X.w X.K X.mg X.base Ng x sg g cdg X.A X.stack s H C8.E0).tr pn xe) (.Call (.Name a p1) [.Name b p3] [] p2) (fun σZ HZ Q => σZ[0]? = some (some (.ref f)) ∧ HZ c' = some (CodeO c' q) ∧ ∃ w, σZ[1]? = some (some w) ∧ tl (fun cls d H' => W cls d σZ H') w HZ Q)) →
    H c' = some (CodeO c' q) → TT tl w H Q →
    ∃ t, PSs (cxOf C8.CX0 X.prog X.w X.K X.mg X.base Ng x sg g cdg X.A X.stack s H C8.E0).nox bg t ∧ t { nx := fun _ H' => Q .non H', rt := Q } (L2.start Ng [.ref f, w]) H
section
variable {X : Cx}
end
end LamX
end
section
set_option maxHeartbeats 2000000
/-! L8c: try: a(b) except D as en: (it returns); then more. a the lambda of one parameter that was handed over; over data -/
namespace L3
open PySem PySem.Spec PyProof.Rows L2 LamX
def TRef (K : PySem.W.Frag) (D : Addr) (qs : Addr → Value → Option Addr → QS) (qr : QS) : (XK → V → Hp → VK → Prop) → V → Hp → VK → Prop := fun tl w H Q =>
  tl (fun cls d H' => PySem.W.exmOne K cls (.ref D) = some true ∧ ∀ e f, H' e = none → liftS K (qs e cls d) { nx := fun _ _ => False, rt := Q } [some (.ref f), some w, some (.ref e)] H') w H (fun _ H' => ∀ f, liftS K qr { nx := fun _ H'' => Q .non H'', rt := Q } [some (.ref f), some w, none] H')
/-- the block's ends where it never ends by itself -/
def DE.ret (E : DE) : DE := { E with nx := fun _ _ => False }
def qRef (P : Addr) (q : Str) (Cs : List Addr) (jp : Nat) (ql : QX) (qa : QE) (qs : Addr → Value → Option Addr → QS) (qr : QS) : QE := fun s m Φ => m P = some (.tab q) ∧ qa s m fun d m0 => ql (s.set jp (some d)) m0 (fun _ m1 => qr (bodyW Φ) [none, some d, none] m1)
  (fun cls od m1 => (∃ C ∈ Cs, cls = .ref C) ∧ ∀ e, m1 e = none → qs e cls od (bodyW Φ).ret [none, some d, some (.ref e)] m1)
end L3
end
section
set_option maxHeartbeats 1000000
/-! L8d: dict == dict, xs.remove(y), xs.index(i), list(d.values()) -/
namespace PySem.SeqAt
open PySem.AutoSeq1 (wpAny_loadPart')
open MeetsSeq MeetsSeq2 MeetsSeq3 SeqRoads2
end PySem.SeqAt
namespace L3
open PySem PySem.Spec PyProof.Rows L2
section
variable {X : Cx}
/-! ### dict == dict -/
def EqDp (K : PySem.W.Frag) (H : Hp) (x y : V) (e : Bool) : Prop := ∃ p q, Dp K H x p ∧ Dp K H y q ∧ SeqAt.shaped p = true ∧ SeqAt.shaped q = true ∧ e = PyData.eqv p q
def HitsV (K : PySem.W.Frag) (H : Hp) (ls : List (Key × V)) : List (Key × V) → Bool → Prop
  | [], r => r = true
  | p :: ks, r => (valV ls p.1 = none ∧ r = false) ∨ ∃ y e r', valV ls p.1 = some y ∧ EqDp K H p.2 y e ∧ HitsV K H ls ks r' ∧ r = (e && r')
def rEqDct (K : PySem.W.Frag) : R2 := fun x y H Q => ∃ a b ks ls r, x = .ref a ∧ y = .ref b ∧ H a = some (.dK ks) ∧ H b = some (.dK ls) ∧ (ks.length = ls.length → HitsV K H ls ks r) ∧ Q (.bl (ks.length == ls.length && r)) H
def EqD (d y : D) (e : Bool) : Prop := ∃ p q, toPy d = some p ∧ toPy y = some q ∧ SeqAt.shaped p = true ∧ SeqAt.shaped q = true ∧ e = PyData.eqv p q
def HitsD (ls : List (Key × D)) : List (Key × D) → Bool → Prop
  | [], r => r = true
  | p :: ks, r => (valD ls p.1 = none ∧ r = false) ∨ ∃ y e r', valD ls p.1 = some y ∧ EqD p.2 y e ∧ HitsD ls ks r' ∧ r = (e && r')
def vEqDct : D → D → Mem → DK → Prop := fun x y m Φ => match x, y with
  | .ref a, .ref b => ∃ ks ls r, m a = some (.dK ks) ∧ m b = some (.dK ls) ∧ (ks.length = ls.length → HitsD ls ks r) ∧ Φ (.bl (ks.length == ls.length && r)) m
  | _, _ => False
/-! ### xs.remove(y), y there -/
def mRemove : D → LSp := fun x ds m Φ => match x, ds with
  | .ref a, [y] => ∃ (xs : List D) (es : Nat → Bool) (j : Nat), m a = some (.lst xs) ∧ (∀ i z, xs[i]? = some z → EqD z y (es i)) ∧ j < xs.length ∧ es j = true ∧ (∀ i < j, es i = false) ∧ Φ .non (mset m a (.lst (xs.eraseIdx j)))
  | _, _ => False
/-! ### xs.index(k) of ints -/
def mIndexI : D → LSp := fun x ds m Φ => match ds with
  | [.int k] => itemsL x m fun xs => ∃ ns : List Int, xs = ns.map D.int ∧ k ∈ ns ∧ Φ (.int (ns.idxOf k : Nat)) m
  | _ => False
/-! ### list(d.values()) -/
def tListVals (te : TE) : TE := fun σ H Q => te σ H fun x H1 => ∃ (d : Addr) (kvs : List (Key × V)), x = .ref d ∧ H1 d = some (.dK kvs) ∧ ∀ p, H1 p = none → Q (.ref p) (upd H1 p (.lst (kvs.map (·.2))))
def qListV (qd : QE) : QE := fun s m Φ => qd s m fun x m1 => match x with
  | .ref a => ∃ ks, m1 a = some (.dK ks) ∧ ∀ p, m1 p = none → Φ (.ref p) (mset m1 p (.lst (ks.map (·.2))))
  | _ => False
end
end L3
end
section
/-! L8e: own == against a list or an int; isinstance of a list or an int and an own class -/
namespace L3
open PySem PySem.Spec PyProof.Rows L2
section
variable {X : Cx}
def vEqL (C : Addr) (sp : LSp) : D → D → Mem → DK → Prop := fun x y m Φ => match x with
  | .ref a => (∃ fs, m a = some (.ins C fs)) ∧ ((∃ b fs, y = .ref b ∧ m b = some (.ins C fs)) ∨ (∃ b ds, y = .ref b ∧ m b = some (.lst ds)) ∨ ∃ z, y = .int z) ∧ sp [.ref a, y] m fun d m1 => match d with | .bl c => Φ (.bl c) m1 | _ => False
  | _ => False
/-! ### isinstance(x, C), x an object of the class, a tuple or a text -/
def qIsCL (C : Addr) (qe : QE) : QE := fun s m Φ => qe s m fun x m1 => ((∃ a fs, x = .ref a ∧ m1 a = some (.ins C fs)) ∧ Φ (.bl true) m1) ∨ (((∃ a ds, x = .ref a ∧ m1 a = some (.lst ds)) ∨ ∃ z, x = .int z) ∧ Φ (.bl false) m1)
end
end L3
end
section
set_option maxHeartbeats 2000000
/-! L8f: zip of two lists where an exception is handled -/
namespace HotE
open PySem PySem.Spec PyProof.Rows HotX
section
variable {prog : Program} {w : World} {A : Around} {E : Value → Shared → Prop} {s : Shared}
end
end HotE
namespace HotE
open PySem PySem.Spec PyProof.Rows L2 L2H HotX
def iZipLH (K : PySem.W.Frag) (ta : TA) : TI := fun σ H R => ta σ H fun vs H1 => ∃ a b xs ys, vs = [.ref a, .ref b] ∧ SqL K H1 a xs ∧ SqL K H1 b ys ∧ R (Itz K a b) H1
def iZipOH (K : PySem.W.Frag) (ta : TA) : TI := fun σ H R => ta σ H fun vs H1 => (∃ a b xs ys, vs = [.ref a, .ref b] ∧ SqT K H1 a xs ∧ SqT K H1 b ys ∧ R (RZ.ItzT K a b) H1) ∨ ∃ a b xs ys, vs = [.ref a, .ref b] ∧ SqL K H1 a xs ∧ SqL K H1 b ys ∧ R (Itz K a b) H1
end HotE
namespace L3
open PySem PySem.Spec PyProof.Rows L2 L2H HotX HotE
section
variable {X : Cx}
def iZipHD (qa : QA) : QI := fun s m Ξ => qa s m fun ds m1 => ∃ xs ys, (ds = [.tup xs, .tup ys] ∨ ds = [.lst xs, .lst ys]) ∧ Ξ (zipD xs ys) (fun _ => True) m1
end
end L3
end
section
/-! L8g: own exceptions over ValueError, LookupError or RuntimeError whose __init__ stores its one argument -/
namespace PySem
namespace BX
open PySem.W PySem.Calls PyProof.Rows PySem.HandSPX
open Builtin Builtin.ObjectAttr
section
variable {prog : Program} {w : World} {A : Around} {R : Result → Shared → Prop} {hp : Heap} {g : Array GenState} {d : Drawn} {t : Nat} {os : OsState}
/-- the first field of an exception in the making -/
theorem osa_fresh {K : W.Frag} {fld : Str} {tk : Tok} {v : Value} {x C : Addr} {fv : Array Value} {k : ClassData} {tl : List Value}
    (X : K.In hp) (hx : hp.get? x = some { cls := .ref C, data := .fields fv }) (hk : W.clsIn K C = some k) (hm : ownB tl k.mro = true) (hT : tl.contains (.type "object") = true) (hP : ∀ self, refuseLoop self "__setattr__" tl = pure ()) (hh : k.hasDict = true) (no : W.findIn K (.ref C) fld = some none)
    (hq : ∀ h' tk' dx, (∀ b o, b ≠ x → hp.get? b = some o → h'.get? b = some o) → hp.objs.size ≤ dx → dx ≠ x → h'.get? x = some { cls := .ref C, dict := some dx, data := .fields fv } →
      h'.Ns1 dx (fun y => if y = fld then some v else none) → R (.ok (.ret .none)) ⟨h', g, d, tk', os⟩) :
    codeAny (model prog w) A (.call (.builtin "object.__setattr__") ⟨[.ref x, .str fld tk, v], []⟩) R ⟨hp, g, d, t, os⟩ := by
  have J : W.InstAt hp x { cls := .ref C, data := .fields fv } C none := ⟨hx, rfl, rfl, trivial⟩
  have S := F.store_object
  have hob : k.mro.contains (.type "object") = true := (ownB_has hm "object").trans hT
  have hem : k.mro.isEmpty = false := by
    cases q : k.mro with
    | nil => rw [q] at hob; exact absurd hob (by decide)
    | cons _ _ => rfl
  have ap : x ≠ hp.objs.size := Nat.ne_of_lt (Heap.lt_size hx)
  have isO : W.Looks (model prog w) hp (isInstance (.ref x) (.type "object")) true := J.type.andThen (W.looks_mroIn X (by unfold W.mroIn; rw [hk, Option.bind_some, if_neg (by rw [hem]; decide), hob]))
  refine codeAny_call_builtin S.slot.plain S.entry (@W.check_slot (model prog w) _ _ ⟨hp, g, d, t, os⟩ "object.__setattr__" "object" "__setattr__" (.ref x) [.str fld tk, v] [] _ S.kind S.split isO (S.args (.ref x) (.str fld tk) v) ?_)
  have lm : W.Looks (model prog w) hp (mroOf (.ref C)) k.mro := (W.looks_clsIn X hk).andThen .now
  have lt : W.Looks (model prog w) hp (storeTaker? none) none := .now
  have lc : W.Looks (model prog w) hp (classData C) k := W.looks_clsIn X hk
  rw [W.osa_eq, refuse_eq]
  refine wpAny_bind (wpAny_bind (J.type.at (wpAny_bind (lm.at ?_))))
  rw [ownB_pass hm _ (hP _)]
  refine wpAny_pure (wpAny_bind (J.type.at (wpAny_bind ((W.looks_findIn X no).at (wpAny_bind (lt.at ?_))))))
  show wpAny _ _ (storeInOwnDict (.ref x) (.ref C) (.str fld tk) fld v false) _ _ _
  obtain ⟨nm, bs, mr, ns, qn, hd, sn, sb, ab, col, de⟩ := k
  dsimp only at hh
  subst hh
  unfold storeInOwnDict ownDictForStores
  repeat (first | with_reducible refine store_in_new ?_ ?_ | with_reducible refine wpAny_loadPart_at hx ?_ | with_reducible refine lc.at ?_ | wp_step)
  · exact ⟨_, #[], _, (Heap.get?_update_ne _ _ _ _ ap.symm).trans (Heap.get?_push_at rfl rfl), rfl, fun e he => absurd he (by simp), fun _ => rfl⟩
  · intro h' tk' hn' hs
    have hx2 : (hp.push { cls := .type "dict", data := .dict #[] }).get? x = some { cls := .ref C, data := .fields fv } := Heap.get?_push_of_some _ hx
    refine hq h' tk' hp.objs.size (fun b o hb ho => ?_) (Nat.le_refl _) ap.symm ?_ hn'
    · exact (hs.2 b (Nat.ne_of_lt (Heap.lt_size ho))).trans ((Heap.get?_update_ne _ _ _ _ hb).trans (Heap.get?_push_of_some _ ho))
    · exact (hs.2 x ap).trans (Heap.get?_update_self _ hx2 rfl)
end
end BX
end PySem
namespace L3
open PySem PySem.Spec PyProof.Rows L2 L2H HotX HotE
open PySem.BX (BaseOk ownB)
structure OexG (K : PySem.W.Frag) (C : Addr) : Prop where
  cls : ClsLkG K C
  sa : PySem.W.findIn K (.ref C) "__setattr__" = some (some (.builtin "object.__setattr__"))
  exC : PySem.W.subIn K (.ref C) (.type "BaseException") = some true
  tyC : PySem.W.typeIn K (.ref C) = some (.type "type")
  kC : PySem.W.keepIn K (.ref C) = true
section
variable {X : Cx} {pins : List (Addr × Obj)} {σ : L2.St} {H : Hp} {s : Shared} {a C dx : Addr} {f : Str} {y : V} {u : Value} {Q : Unit → Shared → Prop} {E : Value → Shared → Prop} {A : Around}
theorem ost_newG (T : OexG X.K C) (I : Inv X pins σ H s) (e : H a = some (exo a C none)) (no : PySem.W.findIn X.K (.ref C) f = some none) (ry : RelV y u)
    (h : ∀ dx s', H dx = none → dx ≠ a → Inv X pins σ (upd (upd H dx (exd dx [(f, y)])) a (exo a C (some dx))) s' → Q () s') : wpAny (model X.prog X.w) A (setAttr (.ref a) f u) Q E s := by
  obtain ⟨B, newId, initId, tl, nm, q, N, bs, bm, sn, sub, ab, col, dd, k0, k1, k2, k3, k5, b, hC, hbm⟩ := T.cls
  have hk : PySem.W.clsIn X.K C = some { name := nm, bases := bs, mro := .ref C :: bm, ns := N, qualname := q, hasDict := true, slotNames := sn, subclasses := sub, abstract := ab, collection := col, hasDel := false } := by unfold PySem.W.clsIn; rw [hC]
  obtain ⟨t1, ho⟩ := exo_at I.hok e
  obtain ⟨hp, g, d, t, os⟩ := s
  refine PySem.W.set_plain I.kIn (ox := { cls := .ref C, dict := none, data := .fields #[.ref t1, .none, .none, .none, .bool false, .none] }) (od := none) ⟨ho, rfl, rfl, trivial⟩ T.sa ?_
  refine PySem.BX.osa_fresh I.kIn ho hk (show ownB tl (.ref C :: bm) = true from hbm) b.obj b.pass rfl no (fun h' tk' dx k dn dne hx hn => ?_)
  have hnd : H dx = none := I.hok.fresh dn
  have off : ∀ {b : Addr} {o : Obj}, hp.get? b = some o → b ≠ dx := fun {b o} q => Nat.ne_of_lt (Nat.lt_of_lt_of_le (Heap.lt_size q) dn)
  have away : ∀ {b : Addr}, H b = none → b ≠ a := fun {b} n z => by
    rw [z, e] at n
    cases n
  have Un1 : Un X.fs [] H (upd (upd H dx (exd dx [(f, y)])) a (exo a C (some dx))) hp h' := {
    keep := fun b o q n _ _ => k b o (away n) q
    slot := fun b o q n _ _ => ⟨o.slots, k b o (away n) q⟩
    free := fun b o q n _ => by rw [upd_ne (away n), upd_ne (off q)]; exact n
    there := fun b o q _ => by
      by_cases hb : b = a
      · exact ⟨_, by rw [hb]; exact hx⟩
      · exact ⟨o, k b o hb q⟩
    tups := fun b xs q => by rw [upd_ne (at_ne e q exo_tup), upd_ne (ne_of_none q hnd)]; exact q
    frzs := fun b o v q => by rw [upd_ne (at_ne e q exo_frz), upd_ne (ne_of_none q hnd)]; exact q
    tbls := fun b ps q => ⟨#[], by rw [upd_ne (at_ne e q exo_tbl), upd_ne (ne_of_none q hnd), q]; simp⟩ }
  refine h dx _ hnd dne (I.un (t' := tk') Un1 fun b o q => ?_)
  by_cases hb : b = a
  · subst hb
    rw [upd_same] at q
    cases q
    exact exo_ok hx
  · rw [upd_ne hb] at q
    by_cases hd : b = dx
    · subst hd
      rw [upd_same] at q
      cases q
      exact exd_ok hn (relO_put (fs := []) ry fun g => True.intro)
    · rw [upd_ne hd] at q
      exact (I.hok b o q).stay (fun c v hc z => k c v (hc.elim (fun hc => hc ▸ hb) fun hc => at_ne e hc exo_own) z)
        (fun c hc => by rw [upd_ne (at_ne e hc exo_own), upd_ne (ne_of_none hc hnd)]; exact hc) (fun c xs hc => by rw [upd_ne (at_ne e hc exo_tup), upd_ne (ne_of_none hc hnd)]; exact hc)
/-- self.f = e, the one store of such an __init__ -/
def tOstG (K : PySem.W.Frag) (f : Str) (to te : TE) : TS := fun D σ H => te σ H fun y H1 => to σ H1 fun x H2 => ∃ a C : Addr, x = .ref a ∧ OexG K C ∧ PySem.W.findIn K (.ref C) f = some none ∧
  H2 a = some (exo a C none) ∧ ∀ dx, H2 dx = none → dx ≠ a → D.nx σ (upd (upd H2 dx (exd dx [(f, y)])) a (exo a C (some dx)))
theorem ps_ostG {o e : Expr} {to te : TE} {p' pos : Pos} (ho : PE X o to) (he : PE X e te) (hs : swapsWith e (some (.Attribute o f p')) pos.line X.env = pure false := by rfl) : PS X (.Assign [.Attribute o f p'] e pos) (tOstG X.K f to te) := by
  refine ⟨fun pins s σ H D I h => ?_⟩
  refine plainObj_wpAny_Assign_Attribute (thn (he.run pins s σ H _ I h) fun v s1 ⟨y, H1, I1, r1, q1⟩ => thn (ho.run pins s1 σ H1 _ I1 q1) fun u s2 ⟨x, H2, I2, r2, a, C, ex, T, no, ea, q⟩ => ?_) hs
  subst ex
  obtain rfl : u = Value.ref a := r2
  exact ost_newG T I2 ea no r1 fun dx s' n ne J => ⟨σ, _, J, q dx n ne⟩
end
theorem fn_e1G {P : Program} {w : World} {K : PySem.W.Frag} {mg : Str → Option Value} {base : Heap} {qual p : Str} {st : Stmt} {fI C : Addr} {fd : FuncData} {f : Str} {p1 p2 p3 p4 : Pos} (F : Fun K "__init__" qual st fI fd) (S : FnScope ["self", p] ["self", p] (defScope st))
    (T : OexG K C) (hno : PySem.W.findIn K (.ref C) f = some none) (hp : (p == ("__debug__" : Str)) = false) (hcd : (p == ("__classdict__" : Str)) = false)
    (hb : defBody st = [.Assign [.Attribute (.Name "self" p1) f p2] (.Name p p3) p4])
    (v0 : Vis (defScope st) "self") (v1 : Vis (defScope st) p) : FnOk P w K mg base CX0 1 fI fd ["self", p] (spE1 C f) := by
  refine F.ok S (fun vs H Q E h => ?_) (fun cdv A outer s H vs Q E hr h => ?_)
  · obtain ⟨a, y, rfl, _⟩ := h
    rfl
  · obtain ⟨a, y, rfl, ha, k⟩ := h
    rw [hb]
    refine ⟨_, pss_one (ps_ostG (pv 0 (hv := v0)) (pv 1 (hv := v1) (hd := hp) (hcd := hcd))), ?_⟩
    exact ⟨y, rfl, .ref a, rfl, a, C, rfl, T, hno, ha, fun dx hd hn => k dx hd hn⟩
/-- C(e, ..), C's own __init__ a def; its context is None -/
theorem pmkG {X : Cx} {e : Expr} {es : List Expr} {ta : TA} {p pos : Pos} {CX : CXT} {x : Str} {C fI : Addr} {k : Nat} {fd : FuncData} {ps : List Str} {sp : Sp} {ds : List Value} {dvs : List V} (T : OexG X.K C) (iC : PySem.W.findIn X.K (.ref C) "__init__" = some (some (.ref fI))) (tI : PySem.W.typeIn X.K (.ref fI) = some (.type "function"))
    (F1 : FnOk X.prog X.w X.K X.mg X.base CX k fI fd ps sp) (hr : Room (k + 1) X.A) (hb : Binds X.K fd ps ds) (hd : Vals dvs ds) (hx : Passes CX X (fun _ _ _ => False)) (hg : Gl X x) (hm : X.mg x = some (.ref C)) (ha : PA X (e :: es) ta)
    (hdb : (x == ("__debug__" : Str)) = false := by decide) (he : starEach (e :: es) X.env = (false, eval e X.env) :: starEach es X.env := by rfl) (hpl : (backTo pos (starEach es X.env)).any (·.1) = false := by rfl) :
    L2N.PMk X (.Call (.Name x p) (e :: es) [] pos) (tMkO C sp dvs ta) := by
  intro pins s σ H Q I h
  obtain ⟨B, newId, initId, tl, nm, q, N, bs, bm, sn, sub, ab, col, dd, k0, k1, k2, k3, k5, b, hC, hbm⟩ := T.cls
  refine wpAny_Call_Name_kw (ld_glob I hg hm ?_ hdb)
  refine PySem.W.callWith_K (h₀ := X.base) I.ok.mod.kin T.kC (thn (ha.run pos pins s σ H _ I h) fun us s1 ⟨vs, H1, I1, r1, hz, q1⟩ => ⟨I1.kIn, ?_⟩) he hpl
  show wpAny _ _ (call (.ref C) us) _ _ _
  obtain ⟨hp, g, dr, tk, os⟩ := s1
  have hsz : hp.objs.size ≤ hp.objs.size + 1 := Nat.le_succ _
  have hq := q1 (hp.objs.size + 1) (I1.hok.fresh hsz)
  have kk : ∀ b o, hp.get? b = some o → ((hp.push (PySem.W.kdv_tup us)).push (PySem.HandSPX.excO C hp.objs.size)).get? b = some o := fun b o e => Heap.get?_push_of_some _ (Heap.get?_push_of_some _ e)
  have hget : ((hp.push (PySem.W.kdv_tup us)).push (PySem.HandSPX.excO C hp.objs.size)).get? (hp.objs.size + 1) = some (PySem.HandSPX.excO C hp.objs.size) := by heap_get
  have I2 : Inv X pins σ (upd H1 (hp.objs.size + 1) (exo (hp.objs.size + 1) C none)) ⟨(hp.push (PySem.W.kdv_tup us)).push (PySem.HandSPX.excO C hp.objs.size), g, dr, tk, os⟩ := I1.laid (t' := tk) (a := hp.objs.size + 1) (o := exo (hp.objs.size + 1) C none) (h' := (hp.push (PySem.W.kdv_tup us)).push (PySem.HandSPX.excO C hp.objs.size)) kk hsz (exo_ok hget)
  have r2 : Vals (V.ref (hp.objs.size + 1) :: (vs ++ dvs)) (Value.ref (hp.objs.size + 1) :: (us ++ ds)) := .cons rfl (r1.append hd)
  have hl : (Value.ref (hp.objs.size + 1) :: us ++ ds).length = ps.length := by
    have e := r2.length
    rw [F1.len _ _ _ _ hq] at e
    exact e.symm
  have hus : us.length ≤ sizeLine := by
    rw [← Paired.length r1, sizeLine_eq]
    omega
  refine wpAny_call (PySem.HandSPX.call_own b.facts (fun Y => PySem.BX.ownB_has hbm Y) (I1.kIn _ _ hC) (PySem.W.looks_findIn I1.kIn iC) (fun self => PySem.W.bind_fn I1.kIn self tI) hus
    (codeAny_mono (F1.run _ X.stack _ _ ⟨Value.ref (hp.objs.size + 1) :: us, []⟩ (Value.ref (hp.objs.size + 1) :: (us ++ ds)) _ _ (fun _ _ _ => False) (hr.make C us []) (I2.env0.make C us []) (hb _ (Value.ref (hp.objs.size + 1) :: us) I2.kIn hl) r2 hq) fun r s' hq' => ?_))
  cases r with
  | error er => exact hx pins σ _ _ er s' I2 hq'
  | ok fl =>
    cases fl with
    | ret u =>
      obtain ⟨v, H2, os2, bare2, un2, hok2, rv, ev, d, fs, ea, ed, hd1, q2⟩ := hq'
      subst ev
      obtain ⟨h2, g2, d2, t2, os'⟩ := s'
      obtain ⟨t0, G, J, kG, ge, hoe, na⟩ := mk_end0 (d2 := d2) (t2 := t2) I1 hsz kk un2 hok2 os2 bare2 ea ed hd1
      exact ⟨rv, _, _, _, ⟨G, g2, d2, t2, os'⟩, _, .ref C, some d, rfl, J, kG, ge, hoe, ⟨rfl, rfl, fun vs e => by cases e; rfl⟩, rfl, rfl, na, rfl, bare2, raises_own T.exC T.tyC, q2⟩
    | next => exact False.elim hq'
    | brk => exact False.elim hq'
    | cont => exact False.elim hq'
/-- the class as the top has made it, its __init__ as a def -/
structure Ex1G (P : Program) (w : World) (K : PySem.W.Frag) (mg : Str → Option Value) (base : Heap) (x : Str) (C : Addr) (f : Str) : Prop where
  gx : mg x = some (.ref C)
  oex : OexG K C
  ini : ∃ (fI : Addr) (fd : FuncData) (p : Str), PySem.W.findIn K (.ref C) "__init__" = some (some (.ref fI)) ∧ PySem.W.typeIn K (.ref fI) = some (.type "function") ∧ FnOk P w K mg base CX0 1 fI fd ["self", p] (spE1 C f) ∧ Binds K fd ["self", p] []
structure ExKG (K : PySem.W.Frag) (mg : Str → Option Value) (x : Str) (C fI : Addr) (f : Str) : Prop where
  gx : mg x = some (.ref C)
  oex : OexG K C
  xf : XfC K C
  xc : ExcC K C
  no : PySem.W.findIn K (.ref C) f = some none
  ini : PySem.W.findIn K (.ref C) "__init__" = some (some (.ref fI))
  ti : PySem.W.typeIn K (.ref fI) = some (.type "function")
theorem ExKG.ex1 {P : Program} {w : World} {K : PySem.W.Frag} {mg : Str → Option Value} {base : Heap} {x qual p : Str} {st : Stmt} {fI C : Addr} {fd : FuncData} {f : Str} {p1 p2 p3 p4 : Pos} (T : ExKG K mg x C fI f) (F : Fun K "__init__" qual st fI fd) (S : FnScope ["self", p] ["self", p] (defScope st)) (hB : Binds K fd ["self", p] [])
    (hp : (p == ("__debug__" : Str)) = false) (hcd : (p == ("__classdict__" : Str)) = false) (hb : defBody st = [.Assign [.Attribute (.Name "self" p1) f p2] (.Name p p3) p4]) (v0 : Vis (defScope st) "self") (v1 : Vis (defScope st) p) : Ex1G P w K mg base x C f :=
  ⟨T.gx, T.oex, fI, fd, p, T.ini, T.ti, fn_e1G F S T.oex T.no hp hcd hb v0 v1, hB⟩
end L3
end
section
set_option maxHeartbeats 2000000
/-! L9e0: an own exception made with keywords, as a value -/
namespace PySem
namespace BXK
open PySem.W PySem.Calls PyProof.Rows PySem.HandSPX
section
variable {prog : Program} {w : World} {A : Around} {R : Result → Shared → Prop} {E : Value → Shared → Prop} {h : Heap} {g : Array GenState} {d : Drawn} {t : Nat} {os : OsState}
variable {nm q : Str} {C N : Addr} {tl bm bs : List Value} {B newId initId : String} {hdct ab : Bool} {sn : List Str} {sub : List Value} {col : Option Bool} {dd : Option Addr} {k0 k1 k2 k3 k5 : Option Value}
theorem check_newK (F : ExcBaseFacts B newId initId tl) (ht : ∀ Y : String, bm.contains (.type Y) = tl.contains (.type Y)) {us : List Value} {kw : List (Str × Value)} {Q : Unit → Shared → Prop}
    (hC : h.get? C = some (excClassObj nm q C N bs bm hdct sn sub ab col dd k0 k1 k2 k3 k5 newId)) (z : Q () ⟨h, g, d, t, os⟩) : wpAny (model prog w) A (checkBuiltinCall newId ⟨.ref C :: us, kw⟩) Q E ⟨h, g, d, t, os⟩ := by
  have c1 : (Value.ref C :: bm).contains (.type B) = true := by rw [List.contains_cons, ht, F.hasB]; rfl
  have c2 := F.noStar
  simp only [checkBuiltinCall, F.newKind, F.newSplit, F.newRow]
  repeat (first | refine wpAny_loadPart_at hC ?_ | (refine wpAny_isSubtype_exc hC ?_; rw [c1]) | refine wpAny_staticBase_exc hC ?_ | refine wpAny_madeBy_exc hC ?_ | simp only [bne_self_eq_false, Bool.false_eq_true, if_false] | wp_step)
  exact z
theorem newK (F : ExcBaseFacts B newId initId tl) (ht : ∀ Y : String, bm.contains (.type Y) = tl.contains (.type Y)) {us : List Value} {kw : List (Str × Value)}
    (hC : h.get? C = some (excClassObj nm q C N bs bm hdct sn sub ab col dd k0 k1 k2 k3 k5 newId))
    (z : R (.ok (.ret (.ref (h.objs.size + 1)))) ⟨(h.push (W.kdv_tup us)).push (excO C h.objs.size), g, d, t, os⟩) (hl : us.length ≤ sizeLine) :
    codeAny (model prog w) A (.builtin newId ⟨.ref C :: us, kw⟩) R ⟨h, g, d, t, os⟩ := by
  have e0 := F.ends
  have c1 : (Value.ref C :: bm).contains (.type B) = true := by rw [List.contains_cons, ht, F.hasB]; rfl
  have c2 : (Value.ref C :: bm).contains (.type "AttributeError") = false := by rw [List.contains_cons, ht, F.noAttr]; rfl
  have c3 : (Value.ref C :: bm).contains (.type "NameError") = false := by rw [List.contains_cons, ht, F.noName]; rfl
  refine codeAny_builtinAt F.entry ?_
  unfold Builtin.«BaseException.__new__»
  refine wpAt_bind ?_
  show wpAt _ _ _ (stack >>= _) _ _ _
  refine wpAt_bind (wpAt_stack fun p below => wpAt_of_wpAny ?_)
  wp_walk
  refine wpAt_of_wpAny ?_
  rw [F.owner]
  repeat (first | with_reducible refine wpAny_madeHere_exc F.canon hC ?_ | with_reducible refine wpAny_loadPart_at hC ?_ | (with_reducible refine wpAny_isSubtype_exc hC ?_; first | rw [c1] | rw [c2] | rw [c3]) | wp_step)
  show R _ _
  rw [Heap.size_push]
  exact z
theorem type_callK (F : ExcBaseFacts B newId initId tl) (ht : ∀ Y : String, bm.contains (.type Y) = tl.contains (.type Y)) {us : List Value} {kw : List (Str × Value)} {fI : Addr} {Q : Fin → Shared → Prop}
    (hC : h.get? C = some (excClassObj nm q C N bs bm hdct sn sub ab col dd k0 k1 k2 k3 k5 newId))
    (hi : W.Looks (model prog w) h (typeLookup (.ref C) "__init__") (some (.ref fI))) (hb : ∀ me, W.Looks (model prog w) h (bindSpecial (.ref fI) me) (.ref fI, [me])) (hl : us.length ≤ sizeLine)
    (z : codeAny (model prog w) A (.call (.ref fI) ⟨.ref (h.objs.size + 1) :: us, kw⟩)
      (fun r s' => match r with | .ok (.ret v) => v = .none ∧ Q (.done (.ret (.ref (h.objs.size + 1)))) s' | .ok _ => False | .error e => E e s')
      ⟨(h.push (W.kdv_tup us)).push (excO C h.objs.size), g, d, t, os⟩) :
    wpAny (model prog w) A (Builtin.«type.__call__» ⟨.ref C :: us, kw⟩) Q E ⟨h, g, d, t, os⟩ := by
  repeat (first | with_reducible refine wpAny_loadPart_at hC ?_ | with_reducible refine wpAny_madeBy_exc hC ?_ | wp_step)
  refine codeAny_call_builtin_code (Code.quiet_builtin _ F.quiet) (check_newK F ht hC ?_)
  refine newK F ht hC ?_ hl
  show wpAny _ _ _ _ _ _
  have k : ∀ b o, h.get? b = some o → ((h.push (W.kdv_tup us)).push (excO C h.objs.size)).get? b = some o := fun b o e => Heap.get?_push_of_some _ (Heap.get?_push_of_some _ e)
  have hC2 := k _ _ hC
  have ho : ((h.push (W.kdv_tup us)).push (excO C h.objs.size)).get? (h.objs.size + 1) = some (excO C h.objs.size) := by heap_get
  have cC : (Value.ref C :: bm).contains (.ref C) = true := by simp
  have i2 := hi.keeps k
  have b2 := (hb (.ref (h.objs.size + 1))).keeps k
  unfold isInstance
  repeat (first | with_reducible refine wpAny_loadPart_at ho ?_ | (with_reducible refine wpAny_isSubtype_exc hC2 ?_; rw [cC]) | wp_step)
  show wpAny _ _ (typeLookup (.ref C) _) _ _ _
  refine i2.at ?_
  refine wpAny_holding (wpAny_bind (b2.at ?_))
  refine wpAny_bind (wpAny_call (codeAny_mono z fun r s' y => ?_))
  rcases r with e | (v | _ | _ | _) <;> first | exact y | exact y.elim | skip
  obtain ⟨rfl, y⟩ := y
  first
    | exact wpAny_pure (wpAny_pure y)
    | (wp_walk; exact y)
theorem callK (F : ExcBaseFacts B newId initId tl) (ht : ∀ Y : String, bm.contains (.type Y) = tl.contains (.type Y)) {us : List Value} {kw : List (Str × Value)} {fI : Addr}
    (hC : h.get? C = some (excClassObj nm q C N bs bm hdct sn sub ab col dd k0 k1 k2 k3 k5 newId))
    (hi : W.Looks (model prog w) h (typeLookup (.ref C) "__init__") (some (.ref fI))) (hb : ∀ me, W.Looks (model prog w) h (bindSpecial (.ref fI) me) (.ref fI, [me])) (hl : us.length ≤ sizeLine)
    (z : codeAny (model prog w) (A.under (.builtin "type.__call__" ⟨.ref C :: us, kw⟩)) (.call (.ref fI) ⟨.ref (h.objs.size + 1) :: us, kw⟩) (W.InitBack (h.objs.size + 1) R)
      ⟨(h.push (W.kdv_tup us)).push (excO C h.objs.size), g, d, t, os⟩) :
    codeAny (model prog w) A (.call (.ref C) ⟨us, kw⟩) R ⟨h, g, d, t, os⟩ := by
  have f1 := tc_lookup
  have f2 := tc_bind (.ref C)
  have hy : (⟨h, g, d, t, os⟩ : Shared).TypeIs (.ref C) "type" := ⟨_, hC, rfl⟩
  refine codeAny_of_tree ?_
  show wpAny _ _ (callAny (.ref C) _) _ _ _
  repeat (any_goals (first | assumption | with_reducible refine wpAny_loadPart_at hC ?_ | wp_step))
  refine ⟨rfl, ?_⟩
  refine codeAny_call_builtin_at (Code.quiet_builtin _ (by decide +kernel)) entry_typeCall (wpAny_check_type_call_sub hC (type_callK F ht hC hi hb hl ?_))
  refine codeAny_mono z fun r s' y => ?_
  rcases r with e | (v | _ | _ | _) <;> exact y
end
end BXK
end PySem
end
section
/-! L9e1: own exceptions as values: made, their fields read, isinstance -/
namespace PySem
namespace BXK
open PySem.W PySem.Calls PyProof.Rows PySem.HandSPX
section
open Builtin Builtin.ObjectAttr
variable {prog : Program} {w : World} {A : Around} {R : Result → Shared → Prop} {hp : Heap} {g : Array GenState} {d : Drawn} {t : Nat} {os : OsState}
/-- a further field of an exception in the making -/
theorem osa_more {K : W.Frag} {fld : Str} {tk : Tok} {v : Value} {x C dx : Addr} {fv : Array Value} {k : ClassData} {tl : List Value} {m0 : Str → Option Value} {nl : List Str}
    (X : K.In hp) (hx : hp.get? x = some { cls := .ref C, dict := some dx, data := .fields fv }) (hns : hp.Ns1 dx m0) (hw : Within m0 nl) (hz : nl.length ≤ 1000) (hk : W.clsIn K C = some k) (hm : BX.ownB tl k.mro = true) (hT : tl.contains (.type "object") = true)
    (hP : ∀ self, refuseLoop self "__setattr__" tl = pure ()) (hh : k.hasDict = true) (no : W.findIn K (.ref C) fld = some none)
    (hq : ∀ h' tk', (∀ b o, b ≠ dx → hp.get? b = some o → h'.get? b = some o) → h'.Ns1 dx (fun y => if y = fld then some v else m0 y) → R (.ok (.ret .none)) ⟨h', g, d, tk', os⟩) :
    codeAny (model prog w) A (.call (.builtin "object.__setattr__") ⟨[.ref x, .str fld tk, v], []⟩) R ⟨hp, g, d, t, os⟩ := by
  obtain ⟨oD, _, _, hoD, _, _⟩ := hns.count hw
  have J : W.InstAt hp x { cls := .ref C, dict := some dx, data := .fields fv } C (some oD) := ⟨hx, rfl, rfl, hoD⟩
  have S := F.store_object
  have hob : k.mro.contains (.type "object") = true := (BX.ownB_has hm "object").trans hT
  have hem : k.mro.isEmpty = false := by
    cases q : k.mro with
    | nil => rw [q] at hob; exact absurd hob (by decide)
    | cons _ _ => rfl
  have isO : W.Looks (model prog w) hp (isInstance (.ref x) (.type "object")) true := J.type.andThen (W.looks_mroIn X (by unfold W.mroIn; rw [hk, Option.bind_some, if_neg (by rw [hem]; decide), hob]))
  refine codeAny_call_builtin S.slot.plain S.entry (@W.check_slot (model prog w) _ _ ⟨hp, g, d, t, os⟩ "object.__setattr__" "object" "__setattr__" (.ref x) [.str fld tk, v] [] _ S.kind S.split isO (S.args (.ref x) (.str fld tk) v) ?_)
  have lm : W.Looks (model prog w) hp (mroOf (.ref C)) k.mro := (W.looks_clsIn X hk).andThen .now
  have lt : W.Looks (model prog w) hp (storeTaker? none) none := .now
  have lc : W.Looks (model prog w) hp (classData C) k := W.looks_clsIn X hk
  rw [W.osa_eq, refuse_eq]
  refine wpAny_bind (wpAny_bind (J.type.at (wpAny_bind (lm.at ?_))))
  rw [BX.ownB_pass hm _ (hP _)]
  refine wpAny_pure (wpAny_bind (J.type.at (wpAny_bind ((W.looks_findIn X no).at (wpAny_bind (lt.at ?_))))))
  show wpAny _ _ (storeInOwnDict (.ref x) (.ref C) (.str fld tk) fld v false) _ _ _
  obtain ⟨nm, bs, mr, ns, qn, hd, sn, sb, ab, col, de⟩ := k
  dsimp only at hh
  subst hh
  unfold storeInOwnDict ownDictForStores
  repeat (first | with_reducible refine OEX.store_in_old hns hw hz ?_ | with_reducible refine wpAny_loadPart_at hx ?_ | with_reducible refine lc.at ?_ | wp_step)
  intro h' tk' hn' hs
  exact hq h' tk' (fun b o hb ho => (hs.2 b hb).trans ho) hn'
end
end BXK
end PySem
namespace L3
open PySem PySem.Spec PyProof.Rows L2 L2H HotX HotE
open PySem.BX (BaseOk ownB)
theorem exk_ok {P : Program} {w : World} {H : Hp} {h : Heap} {a : Addr} {cls : Value} {d : Option Addr} {oe : Obj} {vs : Array Value} (e : h.get? a = some oe) (h1 : oe.cls = cls) (h2 : oe.dict = d) (h3 : oe.data = .fields vs) : ObjOk P w H h a (exk a cls d) :=
  ⟨⟨oe, vs, e, h1, h2, h3⟩, ⟨oe, e⟩, fun _ _ ⟨o, v, q, r⟩ k => ⟨o, v, k o q, r⟩⟩
theorem exk_at {P : Program} {w : World} {H : Hp} {h : Heap} {a : Addr} {cls : Value} {d : Option Addr} (ok : HOk P w H h) (e : H a = some (exk a cls d)) : ∃ (oe : Obj) (vs : Array Value), h.get? a = some oe ∧ oe.cls = cls ∧ oe.dict = d ∧ oe.data = .fields vs := by
  have x : ObjOk P w H h a (.ext fun h => ∃ (oe : Obj) (vs : Array Value), h.get? a = some oe ∧ oe.cls = cls ∧ oe.dict = d ∧ oe.data = .fields vs) := ok a _ e
  exact x.1
section
variable {X : Cx} {pins : List (Addr × Obj)} {σ : L2.St} {H : Hp} {s : Shared} {a C dx : Addr} {f : Str} {y : V} {u : Value} {fs : List (Str × V)} {Q : Unit → Shared → Prop} {E : Value → Shared → Prop} {A : Around}
/-- less or other is told of a thing of our own -/
theorem Inv.swap {φ : Heap → Prop} {o : HO} (I : Inv X pins σ H s) (ha : H a = some (.ext φ)) (new : ObjOk X.prog X.w (upd H a o) s.heap a o) : Inv X pins σ (upd H a o) s := by
  obtain ⟨hp, g, d, t, os⟩ := s
  have nn : ∀ {b : Addr}, H b = none → b ≠ a := fun {b} n z => by rw [z, ha] at n; cases n
  have no : ∀ {b : Addr} {o' : HO}, H b = some o' → (∀ ψ, o' ≠ .ext ψ) → b ≠ a := fun {b o'} n h z => by rw [z, ha] at n; cases n; exact h _ rfl
  refine I.un (t' := t) ⟨fun b o e n _ _ => e, fun b o e n _ _ => ⟨o.slots, e⟩, fun b o e n _ => by rw [upd_ne (nn n)]; exact n, fun b o e _ => ⟨o, e⟩, fun b xs e => by rw [upd_ne (no e fun _ z => nomatch z)]; exact e,
    fun b o v e => by rw [upd_ne (no e fun _ z => nomatch z)]; exact e, fun b ps e => ⟨#[], by rw [upd_ne (no e fun _ z => nomatch z), e]; simp⟩⟩ fun b o' e => ?_
  by_cases hb : b = a
  · subst hb; rw [upd_same] at e; cases e; exact new
  · rw [upd_ne hb] at e
    exact (I.hok b o' e).stay (fun _ _ _ z => z) (fun c z => by rw [upd_ne (no z fun _ z => nomatch z)]; exact z) fun c xs z => by rw [upd_ne (no z fun _ z => nomatch z)]; exact z
theorem ost_moreG (T : OexG X.K C) (I : Inv X pins σ H s) (e : H a = some (exo a C (some dx))) (ed : H dx = some (exd dx fs)) (hl : fs.length ≤ 900) (no : PySem.W.findIn X.K (.ref C) f = some none) (ry : RelV y u)
    (h : ∀ s', Inv X pins σ (upd H dx (exd dx ((f, y) :: fs))) s' → Q () s') : wpAny (model X.prog X.w) A (setAttr (.ref a) f u) Q E s := by
  obtain ⟨B, newId, initId, tl, nm, q, N, bs, bm, sn, sub, ab, col, dd, k0, k1, k2, k3, k5, b, hC, hbm⟩ := T.cls
  have hk : PySem.W.clsIn X.K C = some { name := nm, bases := bs, mro := .ref C :: bm, ns := N, qualname := q, hasDict := true, slotNames := sn, subclasses := sub, abstract := ab, collection := col, hasDel := false } := by unfold PySem.W.clsIn; rw [hC]
  obtain ⟨t1, ho⟩ := exo_at I.hok e
  obtain ⟨mA, hns, rel⟩ := exd_at I.hok ed
  have hw := within_of rel
  obtain ⟨hp, g, d, t, os⟩ := s
  obtain ⟨oD, _, _, hoD, _, _⟩ := hns.count hw
  refine PySem.W.set_plain I.kIn (ox := { cls := .ref C, dict := some dx, data := .fields #[.ref t1, .none, .none, .none, .bool false, .none] }) (od := some oD) ⟨ho, rfl, rfl, hoD⟩ T.sa ?_
  refine PySem.BXK.osa_more I.kIn ho hns hw (by rw [List.length_map]; omega) hk (show ownB tl (.ref C :: bm) = true from hbm) b.obj b.pass rfl no (fun h' tk' k hn => ?_)
  have hd : ∃ o, h'.get? dx = some o := by
    obtain ⟨o, _, _, z, _⟩ := hn
    exact ⟨o, z⟩
  exact h _ (I.write (t' := tk') (x := dx) (e := dx) (o := exd dx ((f, y) :: fs)) (by rw [ed]; exact True.intro) (.inl rfl) k hd (exd_ok hn (relO_put ry rel)))
/-- self.f = e, the second store -/
def tOst2 (K : PySem.W.Frag) (f : Str) (to te : TE) : TS := fun D σ H => te σ H fun y H1 => to σ H1 fun x H2 => ∃ (a C dx : Addr) (fs : List (Str × V)), x = .ref a ∧ OexG K C ∧ PySem.W.findIn K (.ref C) f = some none ∧
  H2 a = some (exo a C (some dx)) ∧ H2 dx = some (exd dx fs) ∧ fs.length ≤ 900 ∧ D.nx σ (upd H2 dx (exd dx ((f, y) :: fs)))
theorem ps_ost2 {o e : Expr} {to te : TE} {p' pos : Pos} (ho : PE X o to) (he : PE X e te) (hs : swapsWith e (some (.Attribute o f p')) pos.line X.env = pure false := by rfl) : PS X (.Assign [.Attribute o f p'] e pos) (tOst2 X.K f to te) := by
  refine ⟨fun pins s σ H D I h => ?_⟩
  refine plainObj_wpAny_Assign_Attribute (thn (he.run pins s σ H _ I h) fun v s1 ⟨y, H1, I1, r1, q1⟩ => thn (ho.run pins s1 σ H1 _ I1 q1) fun u s2 ⟨x, H2, I2, r2, a, C, dx, fs, ex, T, no, ea, ed, hl, q⟩ => ?_) hs
  subst ex
  obtain rfl : u = Value.ref a := r2
  exact ost_moreG T I2 ea ed hl no r1 fun s' J => ⟨σ, _, J, q⟩
end
/-- C's __init__ storing its two arguments -/
def spE2 (C : Addr) (f g : Str) : Sp := fun vs H Q _ => ∃ (a : Addr) (y z : V), vs = [.ref a, y, z] ∧ H a = some (exo a C none) ∧ ∀ dx, H dx = none → dx ≠ a → Q .non (upd (upd (upd H dx (exd dx [(f, y)])) a (exo a C (some dx))) dx (exd dx [(g, z), (f, y)]))
theorem fn_e2G {P : Program} {w : World} {K : PySem.W.Frag} {mg : Str → Option Value} {base : Heap} {qual p r : Str} {st : Stmt} {fI C : Addr} {fd : FuncData} {f g : Str} {p1 p2 p3 p4 p5 p6 p7 p8 : Pos} (F : Fun K "__init__" qual st fI fd) (S : FnScope ["self", p, r] ["self", p, r] (defScope st))
    (T : OexG K C) (no1 : PySem.W.findIn K (.ref C) f = some none) (no2 : PySem.W.findIn K (.ref C) g = some none) (hp : (p == ("__debug__" : Str)) = false) (hcd : (p == ("__classdict__" : Str)) = false) (hr_ : (r == ("__debug__" : Str)) = false) (hce : (r == ("__classdict__" : Str)) = false)
    (hb : defBody st = [.Assign [.Attribute (.Name "self" p1) f p2] (.Name p p3) p4, .Assign [.Attribute (.Name "self" p5) g p6] (.Name r p7) p8])
    (v0 : Vis (defScope st) "self") (v1 : Vis (defScope st) p) (v2 : Vis (defScope st) r) : FnOk P w K mg base CX0 1 fI fd ["self", p, r] (spE2 C f g) := by
  refine F.ok S (fun vs H Q E h => ?_) (fun cdv A outer s H vs Q E hr h => ?_)
  · obtain ⟨a, y, z, rfl, _⟩ := h
    rfl
  · obtain ⟨a, y, z, rfl, ha, k⟩ := h
    rw [hb]
    refine ⟨_, pss_cons (ps_ostG (pv 0 (hv := v0)) (pv 1 (hv := v1) (hd := hp) (hcd := hcd))) (pss_one (ps_ost2 (pv 0 (hv := v0)) (pv 2 (hv := v2) (hd := hr_) (hcd := hce)))), ?_⟩
    refine ⟨y, rfl, .ref a, rfl, a, C, rfl, T, no1, ha, fun dx hd hn => ⟨z, rfl, .ref a, rfl, a, C, dx, [(f, y)], rfl, T, no2, upd_same, by rw [upd_ne hn, upd_same], (by show 1 ≤ 900; decide), k dx hd hn⟩⟩
/-! ### C(e, .., k = v, ..) as a value -/
/-- what is left of a new exception -/
def mkEnd (C a : Addr) (Q : VK) : VK := fun v H => v = .non ∧ ∃ (d : Addr) (fs : List (Str × V)), H a = some (exo a C (some d)) ∧ H d = some (exd d fs) ∧ (d ≠ a → Q (.ref a) (upd (upd H a (exk a (.ref C) (some d))) d (.xd fs)))
def tMkX (C : Addr) (n m : Nat) (sp : Sp) (gV : List V → List V → List V) (t tk : TA) : TE := fun σ H Q => t σ H fun vs H1 => tk σ H1 fun zs H2 => vs.length = n ∧ zs.length = m ∧ vs.length ≤ 1000 ∧ ∀ a, H2 a = none → sp (gV (.ref a :: vs) zs) (upd H2 a (exo a C none)) (mkEnd C a Q) (fun _ _ _ => False)
section
variable {X : Cx} {n k : Nat} {fI C : Addr} {fd : FuncData} {ps ks : List Str} {sp : Sp} {x : Str} {p pos : Pos} {e : Expr} {es : List Expr} {kws : List Keyword} {t tk : TA} {g : List Value → List Value → List Value} {gV : List V → List V → List V}
theorem run_mkX {pins : List (Addr × Obj)} {σ : L2.St} {H : Hp} {s : Shared} {Q : VK} {us ws : List Value} {vs zs : List V} (T : OexG X.K C) (iC : PySem.W.findIn X.K (.ref C) "__init__" = some (some (.ref fI))) (tI : PySem.W.typeIn X.K (.ref fI) = some (.type "function"))
    (F1 : FnOk X.prog X.w X.K X.mg X.base CX0 k fI fd ps sp) (hr : Room (k + 1) X.A) (hb : KBn X.K fd ps (n + 1) ks g gV) (I1 : Inv X pins σ H s) (r : Vals vs us) (rz : Vals zs ws) (l1 : vs.length = n) (l2 : zs.length = ks.length) (l3 : vs.length ≤ 1000)
    (q1 : ∀ a, H a = none → sp (gV (.ref a :: vs) zs) (upd H a (exo a C none)) (mkEnd C a Q) (fun _ _ _ => False)) :
    wpAny (model X.prog X.w) X.A (call (.ref C) us (ks.zip ws)) (EP X pins σ Q) X.xe s := by
  obtain ⟨B, newId, initId, tl, nm, q, N, bs, bm, sn, sub, ab, col, dd, k0, k1, k2, k3, k5, b, hC, hbm⟩ := T.cls
  obtain ⟨hp, gs, dr, tok, os⟩ := s
  have hsz : hp.objs.size ≤ hp.objs.size + 1 := Nat.le_succ _
  have hq := q1 (hp.objs.size + 1) (I1.hok.fresh hsz)
  have kk : ∀ b o, hp.get? b = some o → ((hp.push (PySem.W.kdv_tup us)).push (PySem.HandSPX.excO C hp.objs.size)).get? b = some o := fun b o e => Heap.get?_push_of_some _ (Heap.get?_push_of_some _ e)
  have hget : ((hp.push (PySem.W.kdv_tup us)).push (PySem.HandSPX.excO C hp.objs.size)).get? (hp.objs.size + 1) = some (PySem.HandSPX.excO C hp.objs.size) := by heap_get
  have I2 : Inv X pins σ (upd H (hp.objs.size + 1) (exo (hp.objs.size + 1) C none)) ⟨(hp.push (PySem.W.kdv_tup us)).push (PySem.HandSPX.excO C hp.objs.size), gs, dr, tok, os⟩ :=
    I1.laid (t' := tok) (a := hp.objs.size + 1) (o := exo (hp.objs.size + 1) C none) (h' := (hp.push (PySem.W.kdv_tup us)).push (PySem.HandSPX.excO C hp.objs.size)) kk hsz (exo_ok hget)
  have r1 : Vals (V.ref (hp.objs.size + 1) :: vs) (Value.ref (hp.objs.size + 1) :: us) := .cons rfl r
  have r2 := hb.rel r1 rz
  have e1 : (Value.ref (hp.objs.size + 1) :: us).length = n + 1 := r1.length.symm.trans (congrArg Nat.succ l1)
  have e2 : ws.length = ks.length := rz.length.symm.trans l2
  have hus : us.length ≤ sizeLine := by
    rw [← Paired.length r, sizeLine_eq]
    omega
  refine wpAny_call (PySem.BXK.callK b.facts (fun Y => PySem.BX.ownB_has hbm Y) (I1.kIn _ _ hC) (PySem.W.looks_findIn I1.kIn iC) (fun me => PySem.W.bind_fn I1.kIn me tI) hus
    (codeAny_mono (F1.run _ X.stack _ _ ⟨Value.ref (hp.objs.size + 1) :: us, ks.zip ws⟩ (g (Value.ref (hp.objs.size + 1) :: us) ws) _ _ (fun _ _ _ => False) (hr.make C us (ks.zip ws)) (I2.env0.make C us (ks.zip ws)) (hb.to _ (Value.ref (hp.objs.size + 1) :: us) ws I2.kIn e1 e2) r2 hq) fun r s' hq' => ?_))
  cases r with
  | error er => exact (pass0 pins σ _ _ er s' I2 hq' : _)
  | ok fl =>
    cases fl with
    | ret u =>
      obtain ⟨v, H3, I3, rv, ev, d, fs, ea, ed, q2⟩ := I2.after hq'
      subst ev
      obtain ⟨t0, ho⟩ := exo_at I3.hok ea
      obtain ⟨mA, hns, rel⟩ := exd_at I3.hok ed
      have hda : d ≠ hp.objs.size + 1 := fun z => by
        obtain ⟨o, _, _, y1, y2, _⟩ := hns
        rw [z, ho] at y1
        cases y1
        cases y2
      have J1 := Inv.swap (o := exk (hp.objs.size + 1) (.ref C) (some d)) I3 ea (exk_ok ho rfl rfl rfl)
      have J2 := Inv.swap (o := .xd fs) J1 (by rw [upd_ne hda]; exact ed) ⟨mA, hns, rel⟩
      exact ⟨rv, V.ref (hp.objs.size + 1), _, J2, rfl, q2 hda⟩
    | next => exact False.elim hq'
    | brk => exact False.elim hq'
    | cont => exact False.elim hq'
theorem pe_mkX (T : OexG X.K C) (iC : PySem.W.findIn X.K (.ref C) "__init__" = some (some (.ref fI))) (tI : PySem.W.typeIn X.K (.ref fI) = some (.type "function"))
    (F1 : FnOk X.prog X.w X.K X.mg X.base CX0 k fI fd ps sp) (hr : Room (k + 1) X.A) (hb : KBn X.K fd ps (n + 1) [] g gV) (hg : Gl X x) (hm : X.mg x = some (.ref C)) (ha : PA X (e :: es) t)
    (hdb : (x == ("__debug__" : Str)) = false := by decide) (he : starEach (e :: es) X.env = (false, eval e X.env) :: starEach es X.env := by rfl) (hpl : (backTo pos (starEach es X.env)).any (·.1) = false := by rfl) :
    PE X (.Call (.Name x p) (e :: es) [] pos) (tMkX C n 0 sp gV t (fun _ H Q => Q [] H)) := by
  refine ⟨fun pins s σ H Q I h => ?_⟩
  refine wpAny_Call_Name_kw (ld_glob I hg hm ?_ hdb)
  refine PySem.W.callWith_K (h₀ := X.base) I.ok.mod.kin T.kC (thn (ha.run pos pins s σ H _ I h) fun us s1 ⟨vs, H1, I1, r, l1, _, l3, q⟩ => ⟨I1.kIn, ?_⟩) he hpl
  exact run_mkX (ks := []) T iC tI F1 hr hb I1 r .nil l1 rfl l3 q
theorem pe_mkXK (T : OexG X.K C) (iC : PySem.W.findIn X.K (.ref C) "__init__" = some (some (.ref fI))) (tI : PySem.W.typeIn X.K (.ref fI) = some (.type "function"))
    (F1 : FnOk X.prog X.w X.K X.mg X.base CX0 k fI fd ps sp) (hr : Room (k + 1) X.A) (hb : KBn X.K fd ps 1 ks g gV) (hg : Gl X x) (hm : X.mg x = some (.ref C))
    (hkw : PK X kws tk) (hall : (backToKw pos (keywordEach kws X.env)).all (·.1.isSome) = true := by rfl) (hks : (backToKw pos (keywordEach kws X.env)).filterMap (·.1) = ks := by rfl)
    (hdb : (x == ("__debug__" : Str)) = false := by decide) (hpl : ((backTo pos (starEach [] X.env)).any (·.1) || (backToKw pos (keywordEach kws X.env)).any (·.1.isNone)) = false := by rfl) :
    PE X (.Call (.Name x p) [] kws pos) (tMkX C 0 ks.length sp gV (fun _ H Q => Q [] H) tk) := by
  refine ⟨fun pins s σ H Q I h => ?_⟩
  refine wpAny_Call_Name_kw (ld_glob I hg hm ?_ hdb)
  refine PySem.W.callWith_KW0 (h₀ := X.base) I.ok.mod.kin T.kC hall (thn (hkw.run pos pins s σ H _ I h) fun ws s2 ⟨zs, H2, I2, rz, l1, l2, l3, q2⟩ => ⟨I2.kIn, ?_⟩) hpl
  rw [hks]
  exact run_mkX (n := 0) T iC tI F1 hr hb I2 .nil rz l1 l2 l3 q2
end
end L3
end
section
/-! L9e2: own exceptions as values, over data -/
namespace L3
open PySem PySem.Spec PyProof.Rows L2 L2H HotX HotE
open PySem.BX (BaseOk ownB)
/-- the class of one field as the top has made it -/
structure ExV1 (P : Program) (w : World) (K : PySem.W.Frag) (mg : Str → Option Value) (base : Heap) (x : Str) (C : Addr) (f : Str) : Prop where
  gx : mg x = some (.ref C)
  oex : OexG K C
  ini : ∃ (fI : Addr) (fd : FuncData), PySem.W.findIn K (.ref C) "__init__" = some (some (.ref fI)) ∧ PySem.W.typeIn K (.ref fI) = some (.type "function") ∧ FnOk P w K mg base CX0 1 fI fd ["self", f] (spE1 C f) ∧ KwM K fd ["self", f] [] 1 [0, 1] ∧ KwM K fd ["self", f] [f] 0 [0, 1]
/-- .. of two -/
structure ExV2 (P : Program) (w : World) (K : PySem.W.Frag) (mg : Str → Option Value) (base : Heap) (x : Str) (C : Addr) (f g : Str) : Prop where
  gx : mg x = some (.ref C)
  oex : OexG K C
  ini : ∃ (fI : Addr) (fd : FuncData), PySem.W.findIn K (.ref C) "__init__" = some (some (.ref fI)) ∧ PySem.W.typeIn K (.ref fI) = some (.type "function") ∧ FnOk P w K mg base CX0 1 fI fd ["self", f, g] (spE2 C f g) ∧ KwM K fd ["self", f, g] [] 2 [0, 1, 2] ∧ KwM K fd ["self", f, g] [g, f] 0 [0, 2, 1]
/-- a new thing is laid at a place that was free -/
theorem laidX {X : Cx} {pins : List (Addr × Obj)} {σ : L2.St} {H : Hp} {s : Shared} {h' : Heap} {a : Addr} {o : HO} {t' : Nat} (I : L2.Inv X pins σ H s) (k : ∀ b u, s.heap.get? b = some u → h'.get? b = some u) (hp : s.heap.get? a = none) (hn : H a = none) (new : ObjOk X.prog X.w (upd H a o) h' a o) :
    L2.Inv X pins σ (upd H a o) { s with heap := h', toks := t' } := by
  have ne : ∀ {b : Addr} {u : HO}, H b = some u → b ≠ a := fun e => ne_of_none e hn
  refine I.un ⟨fun b u q _ _ _ => k b u q, fun b u q _ _ _ => ⟨u.slots, k b u q⟩, fun b u q n _ => by rw [upd_ne (fun z => by rw [z, hp] at q; cases q)]; exact n, fun b u q _ => ⟨u, k b u q⟩, fun b xs q => by rw [upd_ne (ne q)]; exact q, fun b u xs q => by rw [upd_ne (ne q)]; exact q,
    fun b ps q => ⟨#[], by rw [upd_ne (ne q), q]; simp⟩⟩ fun b u e => ?_
  by_cases hb : b = a
  · subst hb; rw [upd_same] at e; cases e; exact new
  · rw [upd_ne hb] at e
    exact (I.hok b u e).stay (fun c v _ q => k c v q) (fun c q => by rw [upd_ne (ne q)]; exact q) fun c xs q => by rw [upd_ne (ne q)]; exact q
def mkX (C : Addr) (fs : List (Str × D)) (m : Mem) (Φ : DK) : Prop := ∀ a x, m a = none → m x = none → x ≠ a → Φ (.ref a) (mset (mset m x (.xd fs)) a (.exc a (.ref C) (some x)))
def qMk1 (C : Addr) (f : Str) (qa : QE) : QE := fun s m Φ => qa s m fun d m1 => mkX C [(f, d)] m1 Φ
def qMk2 (C : Addr) (f g : Str) (qa qb : QE) : QE := fun s m Φ => qa s m fun d m1 => qb s m1 fun e m2 => mkX C [(g, e), (f, d)] m2 Φ
/-- C(g = .., f = ..) -/
def qMk2K (C : Addr) (f g : Str) (qb qa : QE) : QE := fun s m Φ => qb s m fun e m1 => qa s m1 fun d m2 => mkX C [(g, e), (f, d)] m2 Φ
def qMk0 (C : Addr) : QE := fun s m Φ => ∀ a, m a = none → Φ (.ref a) (mset m a (.exc a (.ref C) none))
theorem end_X {K : PySem.W.Frag} {C a dx : Addr} {H1 H3 : Hp} {G : Hp} {m : Mem} {xs : List (Str × V)} {fs : List (Str × D)} (rm : RelM K m G H1) (ha : H1 a = none) (hd : H1 dx = none) (hne : dx ≠ a) (rk : RKs K G fs xs)
    (e3 : ∀ b, b ≠ a → b ≠ dx → H3 b = H1 b) : RelM K (mset (mset m dx (.xd fs)) a (.exc a (.ref C) (some dx))) G (upd (upd H3 a (exk a (.ref C) (some dx))) dx (.xd xs)) := by
  have r1 := rm.new (o := .xd fs) (u := .xd xs) hd ⟨xs, rfl, rk⟩
  have r2 := r1.new (p := a) (o := .exc a (.ref C) (some dx)) (u := exk a (.ref C) (some dx)) (by rw [upd_ne hne.symm]; exact ha) rfl
  have e : upd (upd H3 a (exk a (.ref C) (some dx))) dx (.xd xs) = upd (upd H1 dx (.xd xs)) a (exk a (.ref C) (some dx)) := by
    funext b
    by_cases h1 : b = dx
    · subst h1; rw [upd_same, upd_ne hne, upd_same]
    · rw [upd_ne h1]
      by_cases h2 : b = a
      · subst h2; rw [upd_same, upd_same]
      · rw [upd_ne h2, upd_ne h2, upd_ne h1, e3 b h2 h1]
  rw [e]; exact r2
theorem sp1_X {K : PySem.W.Frag} {C : Addr} {f : Str} {G H1 : Hp} {m : Mem} {d : D} {v : V} {Φ : DK} {Q : VK} (rm : RelM K m G H1) (rd : RV K G d v) (k : KQ K G Φ Q) (q : mkX C [(f, d)] m Φ) : ∀ a, H1 a = none → spE1 C f [.ref a, v] (upd H1 a (exo a C none)) (mkEnd C a Q) (fun _ _ _ => False) := fun a ha =>
  ⟨a, v, rfl, upd_same, fun dx hdx hne => ⟨rfl, dx, [(f, v)], upd_same, by rw [upd_ne hne, upd_same], fun _ => by
    have hd1 : H1 dx = none := by rw [upd_ne hne] at hdx; exact hdx
    exact k G (.ref a) _ _ _ (Sub.refl G) (end_X (fs := [(f, d)]) rm ha hd1 hne (xs := [(f, v)]) ⟨v, [], rfl, rd, rfl⟩ fun b h1 h2 => by rw [upd_ne h1, upd_ne h2, upd_ne h1]) rfl (q a dx (rm.free ha) (rm.free hd1) hne)⟩⟩
theorem sp2_X {K : PySem.W.Frag} {C : Addr} {f g : Str} {G H1 : Hp} {m : Mem} {d e : D} {v z : V} {Φ : DK} {Q : VK} (rm : RelM K m G H1) (rd : RV K G d v) (re : RV K G e z) (k : KQ K G Φ Q) (q : mkX C [(g, e), (f, d)] m Φ) : ∀ a, H1 a = none → spE2 C f g [.ref a, v, z] (upd H1 a (exo a C none)) (mkEnd C a Q) (fun _ _ _ => False) := fun a ha =>
  ⟨a, v, z, rfl, upd_same, fun dx hdx hne => ⟨rfl, dx, [(g, z), (f, v)], by rw [upd_ne hne.symm, upd_same], upd_same, fun _ => by
    have hd1 : H1 dx = none := by rw [upd_ne hne] at hdx; exact hdx
    exact k G (.ref a) _ _ _ (Sub.refl G) (end_X (fs := [(g, e), (f, d)]) rm ha hd1 hne (xs := [(g, z), (f, v)]) ⟨z, _, rfl, re, v, [], rfl, rd, rfl⟩ fun b h1 h2 => by rw [upd_ne h2, upd_ne h1, upd_ne h2, upd_ne h1]) rfl (q a dx (rm.free ha) (rm.free hd1) hne)⟩⟩
section
variable {X : Cx} {C : Addr} {f g x : Str} {a b e : Expr} {qa qb qe : QE} {p pos p2 k1 k2 : Pos}
theorem de_mk1 (T : ExV1 X.prog X.w X.K X.mg X.base x C f) (hr : Room 2 X.A) (ha : PE X a (liftE X.K qa)) (hg : Gl X x := by rfl) (hdb : (x == ("__debug__" : Str)) = false := by decide)
    (hs : starEach (a :: []) X.env = (false, eval a X.env) :: starEach [] X.env := by rfl) (hpl : (backTo pos (starEach [] X.env)).any (·.1) = false := by rfl) : PE X (.Call (.Name x p) [a] [] pos) (liftE X.K (qMk1 C f qa)) := by
  obtain ⟨fI, fd, iC, tI, F1, hb, _⟩ := T.ini
  exact pe_imp (pe_mkX T.oex iC tI F1 hr hb.kb hg T.gx (pa_cons ha pa_nil hs) hdb hs hpl) fun σ H Q ⟨G, s, m, Φ, rm, rs, q, k⟩ => ⟨G, s, m, _, rm, rs, q, fun G1 d m1 v H1 e1 r1 rd q1 =>
    ⟨rfl, rfl, (by show 1 ≤ 1000; decide), sp1_X r1 rd (k.mono e1) q1⟩⟩
theorem de_mk1K (T : ExV1 X.prog X.w X.K X.mg X.base x C f) (hr : Room 2 X.A) (ha : PE X a (liftE X.K qa)) (hg : Gl X x := by rfl) (hdb : (x == ("__debug__" : Str)) = false := by decide)
    (hall : (backToKw pos (keywordEach [⟨some f, a, k1⟩] X.env)).all (·.1.isSome) = true := by rfl) (hks : (backToKw pos (keywordEach [⟨some f, a, k1⟩] X.env)).filterMap (·.1) = [f] := by rfl)
    (hpl : ((backTo pos (starEach [] X.env)).any (·.1) || (backToKw pos (keywordEach [⟨some f, a, k1⟩] X.env)).any (·.1.isNone)) = false := by rfl) : PE X (.Call (.Name x p) [] [⟨some f, a, k1⟩] pos) (liftE X.K (qMk1 C f qa)) := by
  obtain ⟨fI, fd, iC, tI, F1, _, hb⟩ := T.ini
  exact pe_imp (pe_mkXK T.oex iC tI F1 hr hb.kb hg T.gx (pk_cons ha pk_nil) hall hks hdb hpl) fun σ H Q ⟨G, s, m, Φ, rm, rs, q, k⟩ => ⟨G, s, m, _, rm, rs, q, fun G1 d m1 v H1 e1 r1 rd q1 =>
    ⟨rfl, rfl, (by show 0 ≤ 1000; decide), sp1_X r1 rd (k.mono e1) q1⟩⟩
theorem de_mk2 (T : ExV2 X.prog X.w X.K X.mg X.base x C f g) (hr : Room 2 X.A) (ha : PE X a (liftE X.K qa)) (hb' : PE X b (liftE X.K qb)) (hg : Gl X x := by rfl) (hdb : (x == ("__debug__" : Str)) = false := by decide)
    (hs : starEach (a :: [b]) X.env = (false, eval a X.env) :: starEach [b] X.env := by rfl) (hs2 : starEach (b :: []) X.env = (false, eval b X.env) :: starEach [] X.env := by rfl) (hpl : (backTo pos (starEach [b] X.env)).any (·.1) = false := by rfl) : PE X (.Call (.Name x p) [a, b] [] pos) (liftE X.K (qMk2 C f g qa qb)) := by
  obtain ⟨fI, fd, iC, tI, F1, hb, _⟩ := T.ini
  exact pe_imp (pe_mkX T.oex iC tI F1 hr hb.kb hg T.gx (pa_cons ha (pa_cons hb' pa_nil hs2) hs) hdb hs hpl) fun σ H Q ⟨G, s, m, Φ, rm, rs, q, k⟩ => ⟨G, s, m, _, rm, rs, q, fun G1 d m1 v H1 e1 r1 rd q1 => ⟨G1, s, m1, _, r1, rs.mono e1, q1, fun G2 e m2 z H2 e2 r2 re q2 =>
    ⟨rfl, rfl, (by show 2 ≤ 1000; decide), sp2_X r2 (RV.mono e2 d rd) re (k.mono (e1.trans e2)) q2⟩⟩⟩
theorem de_mk2K (T : ExV2 X.prog X.w X.K X.mg X.base x C f g) (hr : Room 2 X.A) (hb' : PE X b (liftE X.K qb)) (ha : PE X a (liftE X.K qa)) (hg : Gl X x := by rfl) (hdb : (x == ("__debug__" : Str)) = false := by decide)
    (hall : (backToKw pos (keywordEach [⟨some g, b, k1⟩, ⟨some f, a, k2⟩] X.env)).all (·.1.isSome) = true := by rfl) (hks : (backToKw pos (keywordEach [⟨some g, b, k1⟩, ⟨some f, a, k2⟩] X.env)).filterMap (·.1) = [g, f] := by rfl)
    (hpl : ((backTo pos (starEach [] X.env)).any (·.1) || (backToKw pos (keywordEach [⟨some g, b, k1⟩, ⟨some f, a, k2⟩] X.env)).any (·.1.isNone)) = false := by rfl) : PE X (.Call (.Name x p) [] [⟨some g, b, k1⟩, ⟨some f, a, k2⟩] pos) (liftE X.K (qMk2K C f g qb qa)) := by
  obtain ⟨fI, fd, iC, tI, F1, _, hb⟩ := T.ini
  exact pe_imp (pe_mkXK T.oex iC tI F1 hr hb.kb hg T.gx (pk_cons hb' (pk_cons ha pk_nil)) hall hks hdb hpl) fun σ H Q ⟨G, s, m, Φ, rm, rs, q, k⟩ => ⟨G, s, m, _, rm, rs, q, fun G1 e m1 z H1 e1 r1 re q1 => ⟨G1, s, m1, _, r1, rs.mono e1, q1, fun G2 d m2 v H2 e2 r2 rd q2 =>
    ⟨rfl, rfl, (by show 0 ≤ 1000; decide), sp2_X r2 rd (RV.mono e2 e re) (k.mono (e1.trans e2)) q2⟩⟩⟩
/-- C(), a class without an own __init__ -/
theorem de_mk0 {bmB : List Value} {B newId initId : String} (F : ExcBaseFacts B newId initId bmB) (q : PySem.W.excIn X.K C bmB newId = true) (gC : X.mg x = some (.ref C)) (kC : PySem.W.keepIn X.K (.ref C) = true) (hg : Gl X x := by rfl)
    (hdb : (x == ("__debug__" : Str)) = false := by decide) : PE X (.Call (.Name x p) [] [] pos) (liftE X.K (qMk0 C)) := by
  refine ⟨fun pins s σ H Q I h => ?_⟩
  obtain ⟨G, s0, m, Φ, rm, rs, q0, k⟩ := h
  refine wpAny_Call_Name_kw (ld_glob I hg gC ?_ hdb)
  refine PySem.W.callWith_K0 I.kIn kC ?_
  show wpAny _ _ (call (.ref C) []) _ _ _
  obtain ⟨bm, N, nm, qn, bs, hdct, sn, sub, ab, col, dd, k0, k1, k2, k3, k5, mN, hC, hN, hni, T⟩ := exc_obj I.kIn q
  refine wpAny_call_exc_subT F T hC hN hni (fun h' a hm => ?_) (by show 0 ≤ sizeLine; rw [sizeLine_eq]; omega)
  have hn : H a = none := I.hok.gone hm.new
  obtain ⟨t, ht, _, _⟩ := hm.there
  exact ⟨.ref a, upd H a (exk a (.ref C) none), laidX I hm.keeps hm.new hn (exk_ok ht rfl rfl rfl), rfl, k G (.ref a) _ _ _ (Sub.refl G) (rm.new (o := .exc a (.ref C) none) hn rfl) rfl (q0 a (rm.free hn))⟩
/-! ### e.f, isinstance(e, D), e held as a value -/
def kfI (C : Addr) (n : Str) (Φ : DK) : DK := fun x m1 => match x with
  | .ref a => ∃ dd fs d, m1 a = some (.exc a (.ref C) (some dd)) ∧ m1 dd = some (.xd fs) ∧ fs.lookup n = some d ∧ Φ d m1
  | _ => False
def qKf (C : Addr) (n : Str) (qe : QE) : QE := fun s m Φ => qe s m (kfI C n Φ)
theorem de_kf {n : Str} (T : XfC X.K C) (no : PySem.W.findIn X.K (.ref C) n = some none) (he : PE X e (liftE X.K qe)) (hb : attributeBase e n X.env (eval e X.env) = eval e X.env := by rfl) : PE X (.Attribute e n pos) (liftE X.K (qKf C n qe)) := by
  refine ⟨fun pins s σ H Q I h => ?_⟩
  obtain ⟨G, s0, m, Φ, rm, rs, q, k⟩ := h
  refine attr_of hb (thn (he.run pins s σ H _ I ⟨G, s0, m, _, rm, rs, q, (fun G1 x m1 v H1 e1 r1 rx q1 => ⟨G1, x, m1, e1, r1, rx, q1⟩ : KQ X.K G (kfI C n Φ) fun v H1 => ∃ (G1 : Hp) (x : D) (m1 : Mem), Sub G G1 ∧ RelM X.K m1 G1 H1 ∧ RV X.K G1 x v ∧ kfI C n Φ x m1)⟩) fun u s1 hh => ?_)
  obtain ⟨v, H1, I1, rx, G1, x, m1, e1, r1, rv, q1⟩ := hh
  cases x with
  | ref a =>
    obtain ⟨dd, fs, d, h1, h2, h3, q2⟩ := q1
    obtain rfl : v = .ref a := rv
    obtain rfl : u = Value.ref a := rx
    obtain ⟨_, w, hw, ew⟩ := r1.mem a _ h1
    obtain rfl : w = exk a (.ref C) (some dd) := ew
    obtain ⟨_, w2, hw2, xs, rfl, rk⟩ := r1.mem dd _ h2
    obtain ⟨oe, vs, ho, hc, hd, hdat⟩ := exk_at I1.hok hw
    have hx : ObjOk X.prog X.w H1 s1.heap dd (.xd xs) := I1.hok dd _ hw2
    obtain ⟨mA, hns, hr⟩ := hx
    obtain ⟨od, hod, hl⟩ := lookIn_ns hns
    have rl := rk.lookup n
    rw [h3] at rl
    obtain ⟨v2, hv2, rv2⟩ := rl.some
    obtain ⟨u2, hu2, ru2⟩ := RelO.some_of (v := v2) (o := mA n) (by rw [← hv2]; exact hr n)
    have J : PySem.W.InstAt s1.heap a oe C (some od) := ⟨ho, hc, by unfold PySem.W.notCls; rw [hdat], by rw [hd]; exact hod⟩
    exact HandSPX.exc_get I1.kIn J T.ga T.gg T.exC (PySem.W.findObj_own T.hdC no rfl (by rw [hl, hu2])) (handed_of ru2) ⟨v2, H1, I1.tok _, ru2, k G1 d m1 v2 H1 e1 r1 rv2 q2⟩
  | _ => exact q1.elim
/-- what isinstance(e, cv) says of the exceptions of the classes Cs -/
def KTab (K : PySem.W.Frag) (Cs : List Addr) (cv : Value) (tb : List Bool) : Prop := ∀ i C, Cs[i]? = some C → PySem.W.kitOne K (.ref C) cv = some (tb.getD i false)
def rIsK (K : PySem.W.Frag) : List V → Hp → VK → Prop := fun xs H Q => ∃ (a D : Addr) (od : Option Addr) (c : V) (cv : Value) (b : Bool), xs = [.ref a, c] ∧ ExcC K D ∧ H a = some (exk a (.ref D) od) ∧ (od = none ∨ ∃ dd ys, od = some dd ∧ H dd = some (.xd ys)) ∧ (∀ u, RelV c u → u = cv) ∧ PySem.W.kitOne K (.ref D) cv = some b ∧ Q (.bl b) H
theorem call_isK : CallR X (.builtin "isinstance") (rIsK X.K) := by
  intro pins s σ H xs us Q I r h
  obtain ⟨a, D, od, c, cv, b, rfl, C, ha, hod, hcv, e, q⟩ := h
  cases r with
  | cons rx rr =>
    cases rr with
    | cons rt rr =>
      cases rr
      cases rx
      have ec := hcv _ rt
      subst ec
      obtain ⟨oe, vs, ho, hc, hd, hdat⟩ := exk_at I.hok ha
      have nC : PySem.W.notCls oe := by unfold PySem.W.notCls; rw [hdat]
      rcases hod with rfl | ⟨dd, ys, rfl, hy⟩
      · have J : PySem.W.InstAt s.heap a oe D none := ⟨ho, hc, nC, by rw [hd]; trivial⟩
        exact PySem.W.kia_one (PySem.W.handS_kitx_exc C.hg C.hk C.hs C.hd C.ha C.hn C.ht C.hm) I.kIn J e (fun z => nomatch z) fun tk => ⟨.bl b, H, I.kept (t' := tk) fun _ _ z => z, rfl, q⟩
      · have hx : ObjOk X.prog X.w H s.heap dd (.xd ys) := I.hok dd _ hy
        obtain ⟨mA, hns, _⟩ := hx
        obtain ⟨od, hod, _⟩ := lookIn_ns hns
        have J : PySem.W.InstAt s.heap a oe D (some od) := ⟨ho, hc, nC, by rw [hd]; exact hod⟩
        exact PySem.W.kia_one (PySem.W.kitx_exc (cls_some C.hd) C.hg C.hk C.hs C.ha C.hn C.ht C.hm) I.kIn J e (fun z => nomatch z) fun tk => ⟨.bl b, H, I.kept (t' := tk) fun _ _ z => z, rfl, q⟩
def qIsK (Cs : List Addr) (tb : List Bool) (qe : QE) : QE := fun s m Φ => qe s m fun x m1 => match x with
  | .ref a => ∃ i C od, Cs[i]? = some C ∧ m1 a = some (.exc a (.ref C) od) ∧ (od = none ∨ ∃ dd ys, od = some dd ∧ m1 dd = some (.xd ys)) ∧ Φ (.bl (tb.getD i false)) m1
  | _ => False
theorem lift_isK {Cs : List Addr} {tb : List Bool} {cv : Value} {c : V} (hC : ∀ C ∈ Cs, ExcC X.K C) (hT : KTab X.K Cs cv tb) (hcv : ∀ u, RelV c u → u = cv) : ∀ σ H Q, liftE X.K (qIsK Cs tb qe) σ H Q → (liftE X.K qe) σ H fun x H1 => rIsK X.K [x, c] H1 Q := fun σ H Q ⟨G, s, m, Φ, rm, rs, q, k⟩ => ⟨G, s, m, _, rm, rs, q, fun G1 x m1 v H1 e1 r1 rx q1 => by
    cases x with
    | ref a =>
      obtain ⟨i, C, od, hi, h1, h2, q2⟩ := q1
      obtain rfl : v = .ref a := rx
      obtain ⟨_, w, hw, ew⟩ := r1.mem a _ h1
      obtain rfl : w = exk a (.ref C) od := ew
      refine ⟨a, C, od, c, cv, _, rfl, hC C (List.mem_of_getElem? hi), hw, ?_, hcv, hT i C hi, k G1 (.bl _) m1 _ H1 e1 r1 rfl q2⟩
      rcases h2 with rfl | ⟨dd, ys, rfl, h2⟩
      · exact .inl rfl
      · obtain ⟨_, w2, hw2, xs, rfl, rk⟩ := r1.mem dd _ h2
        exact .inr ⟨dd, xs, rfl, hw2⟩
    | _ => exact q1.elim⟩
theorem de_isK {D : Addr} {Cs : List Addr} {tb : List Bool} {y : Str} (hC : ∀ C ∈ Cs, ExcC X.K C) (hT : KTab X.K Cs (.ref D) tb) (hg : Gl X "isinstance") (hm : X.mg "isinstance" = none) (ha : PE X e (liftE X.K qe)) (hx : Gl X y) (hmx : X.mg y = some (.ref D)) (hdb : (y == ("__debug__" : Str)) = false := by decide)
    (hs : starEach (e :: [.Name y p2]) X.env = (false, eval e X.env) :: starEach [.Name y p2] X.env := by rfl) (hs2 : starEach (.Name y p2 :: []) X.env = (false, eval (.Name y p2) X.env) :: starEach [] X.env := by rfl) (hpl : (backTo pos (starEach [.Name y p2] X.env)).any (·.1) = false := by rfl) :
    PE X (.Call (.Name "isinstance" p) [e, .Name y p2] [] pos) (liftE X.K (qIsK Cs tb qe)) :=
  pe_imp (pe_callB call_isK hg hm (by decide +kernel) (pa_cons ha (pa_cons (pe_glob (v := .ref D) hx hmx rfl hdb) pa_nil hs2) hs) (by decide) (by decide) hs hpl) (lift_isK hC hT fun u h => h)
theorem de_isKb {T : String} {Cs : List Addr} {tb : List Bool} {y : Str} (hC : ∀ C ∈ Cs, ExcC X.K C) (hT : KTab X.K Cs (.type T) tb) (hg : Gl X "isinstance") (hm : X.mg "isinstance" = none) (ha : PE X e (liftE X.K qe)) (hy : PE X (.Name y p2) (tC (.ty T)))
    (hs : starEach (e :: [.Name y p2]) X.env = (false, eval e X.env) :: starEach [.Name y p2] X.env := by rfl) (hs2 : starEach (.Name y p2 :: []) X.env = (false, eval (.Name y p2) X.env) :: starEach [] X.env := by rfl) (hpl : (backTo pos (starEach [.Name y p2] X.env)).any (·.1) = false := by rfl) :
    PE X (.Call (.Name "isinstance" p) [e, .Name y p2] [] pos) (liftE X.K (qIsK Cs tb qe)) :=
  pe_imp (pe_callB call_isK hg hm (by decide +kernel) (pa_cons ha (pa_cons hy pa_nil hs2) hs) (by decide) (by decide) hs hpl) (lift_isK hC hT fun u h => h)
end
/-! ### what the written part says of many classes at once -/
/-- a class's whole row of bases -/
def MroK (K : PySem.W.Frag) (C : Addr) (l : List Value) : Prop := ∃ cd, PySem.W.clsIn K C = some cd ∧ cd.mro = l
end L3
end
section
set_option maxHeartbeats 2000000
/-! L9e3: try with several clauses 'except C as n'; the exception stays as a value -/
namespace L3
open PySem PySem.Spec PyProof.Rows L2
/-- an untracked object that is new since the entry is tracked -/
theorem trackX {X : Cx} {pins : List (Addr × Obj)} {σ : L2.St} {H : Hp} {s : Shared} {a : Addr} {oe : Obj} {vs : Array Value} {o : HO} (I : L2.Inv X pins σ H s) (ha : s.heap.get? a = some oe) (hd : oe.data = .fields vs) (na : H a = none) (n0 : X.s_0.heap.get? a = none) (nL : a ≠ X.env.locals)
    (np : ∀ p ∈ X.pn ++ pins, p.1 ≠ a) (new : ObjOk X.prog X.w (upd H a o) s.heap a o) : L2.Inv X pins σ (upd H a o) s := by
  have ne : ∀ {b : Addr} {u : HO}, H b = some u → b ≠ a := fun e => ne_of_none e na
  refine ⟨I.ok, I.os, I.bare, ⟨I.base.keep, I.base.slot, fun b u e n hx => ?_, I.base.there, fun b xs e => ?_, fun b u v e => ?_, fun b ps e => ?_⟩, I.loc, I.cell, ?_, fun y c e => ?_, fun p hp => ?_, fun b u e => ?_, I.len⟩
  · rw [upd_ne (fun z => by rw [z, n0] at e; cases e)]; exact I.base.free b u e n hx
  · have q := I.base.tups b xs e
    rw [upd_ne (ne q)]; exact q
  · have q := I.base.frzs b u v e
    rw [upd_ne (ne q)]; exact q
  · obtain ⟨more, q⟩ := I.base.tbls b ps e
    exact ⟨more, by rw [upd_ne (ne q)]; exact q⟩
  · rw [upd_ne nL.symm]; exact I.free
  · rw [upd_ne ?_]; exact I.freeC y c e
    rintro rfl
    obtain ⟨v, ⟨o2, h2, d2⟩⟩ := I.cell y c e
    rw [ha] at h2; cases h2
    rw [hd] at d2; cases d2
  · obtain ⟨g, n, n1, n2, n3⟩ := I.pin p hp
    exact ⟨g, by rw [upd_ne (np p hp)]; exact n, n1, n2, n3⟩
  · by_cases hb : b = a
    · subst hb; rw [upd_same] at e; cases e; exact new
    · rw [upd_ne hb] at e
      exact (I.hok b u e).stay (fun _ _ _ q => q) (fun c q => by rw [upd_ne (ne q)]; exact q) fun c xs q => by rw [upd_ne (ne q)]; exact q
/-- the ends of a suite: the name goes, the exception is held -/
def endA (D : Ends) (i : Nat) (a : Addr) (cls : Value) (d : Option Addr) : Ends :=
  { nx := fun σ' H' => H' a = none → D.nx (σ'.set i none) (upd H' a (exk a cls d)), rt := fun v H' => H' a = none → D.rt v (upd H' a (exk a cls d)),
    bk := fun σ' H' => H' a = none → D.bk (σ'.set i none) (upd H' a (exk a cls d)), ct := fun σ' H' => H' a = none → D.ct (σ'.set i none) (upd H' a (exk a cls d)) }
/-- what the clauses, all of one name, wish of an exception of the body -/
def wAsM (K : PySem.W.Frag) (Wout : WX) (D : Ends) (i : Nat) : List (Value × (Addr → Value → Option Addr → TS)) → WX
  | [] => Wout
  | (c, ts) :: r => fun cls d σ H => ∃ b, PySem.W.exmOne K cls c = some b ∧ (b = true → ∀ a, H a = none → ts a cls d (endA D i a cls d) (σ.set i (some (.ref a))) H) ∧ (b = false → wAsM K Wout D i r cls d σ H)
inductive HdsA (X : Cx) (n : Str) : List ExceptHandler → List (Value × (Addr → Value → Option Addr → TS)) → Prop
  | nil : HdsA X n [] []
  | cons {x : Str} {c : Value} {ts : Addr → Value → Option Addr → TS} {b₀ : Stmt} {suite : List Stmt} {np pos' : Pos} {hds : List ExceptHandler} {l : List (Value × (Addr → Value → Option Addr → TS))} (hc : Names X x c)
      (hsu : ∀ (a : Addr) (oe : Obj) (cls : Value) (d : Option Addr) (pn : List (Addr × Obj)), Zc cls d oe → (∃ vs, oe.data = .fields vs) → PSs (X.suite a ((a, oe) :: pn)) (b₀ :: suite) (ts a cls d)) (r : HdsA X n hds l) :
      HdsA X n (.ExceptHandler (some (.Name x np)) (some n) (b₀ :: suite) pos' :: hds) ((c, ts) :: l)
section
variable {X : Cx} {n : Str} {i : Nat} {body : List Stmt} {hds : List ExceptHandler} {h₀ : ExceptHandler} {l : List (Value × (Addr → Value → Option Addr → TS))} {pos : Pos} {Wout : WX} {tb : WX → TS}
theorem ps_try_asM (hs : X.stack = X.env :: X.outer) (hf : X.env.frame = some X.env.locals) (hex : X.ex = []) (hN : X.N.Nodup) (hi : X.N[i]? = some n) (hln : X.env.kindOf n = some .local) (tk : Takes X Wout)
    (hb : ∀ (W : WX) (pn : List (Addr × Obj)) (xe : Value → Shared → Prop), Takes (X.tr pn xe) W → PassesOwn (model X.prog X.w) X.A X.env xe → PSs (X.tr pn xe) body (tb W))
    (hh : HdsA X n (h₀ :: hds) l) : PS X (.Try body (h₀ :: hds) [] [] pos) (fun D σ H => tb (wAsM X.K Wout D i l) D σ H) := by
  refine ⟨fun pins s σ H D I h => ?_⟩
  have ok := I.ok
  have hfr : X.A.frames = some (X.env :: X.outer) := by rw [ok.frames, hs]
  have hloc : Loc X.env.scope n := .inl hln
  refine wpAny_Try_except ?_
  refine wpAny_mono ((hb (wAsM X.K Wout D i l) (X.pn ++ pins) (fun e s₁ => wpAny (model X.prog X.w) X.A (noteFrame e X.env) (fun _ s₂ => wpAny (model X.prog X.w) X.A (setFlight e none) (fun _ s₃ =>
    wpAny (model X.prog X.w) X.A (handleBy e X.env (h₀ :: hds)) (SP X pins D) X.xe s₃) X.xe s₂) X.xe s₁) (fun u s' xx => ?_) PassesOwn.looking).run [] s σ H D (I.toTry _) h) (fun f s1 hsp => ?_) (fun e s1 he => he)
  · obtain ⟨a, B, sI, pins', σ', H', cls, d, rfl, J', nb, up, sky, na, os, ag, w⟩ := xx
    have J : L2.Inv X pins σ' H' sI := J'.ofTry ok
    have sky' : Sky B (X.env :: X.outer) a (Zc cls d) X.env.locals s'.heap := by rw [← hs]; exact sky
    show wpAny (model X.prog X.w) X.A (noteFrame (.ref a) X.env) _ _ _
    refine Sky.land Zc.steady hfr hf sky' fun h3 fl3 up3 => ?_
    have J3 : L2.Inv X pins σ' H' { s' with heap := h3 } := J.landed nb fl3.1 (up.trans up3) os ag
    obtain ⟨oe3, vs3, he3, hz3, hd3⟩ := fl3.there
    have nfr : a ∉ frs (X.env :: X.outer) := fun hm => by
      obtain ⟨_, o', e', hnf⟩ := fl3.2.2.1.mem hm
      rw [he3] at e'; cases e'
      exact hnf _ hd3
    have nL : a ≠ X.env.locals := fun z => nfr (List.mem_filterMap.mpr ⟨X.env, List.mem_cons_self, by rw [hf, z]⟩)
    have nF : a ∉ X.fs := fun hm => by
      obtain ⟨e, he, q⟩ := List.mem_filterMap.mp hm
      exact nfr (List.mem_filterMap.mpr ⟨e, List.mem_cons_of_mem _ he, q⟩)
    have nB : B.get? a = none := fl3.2.1
    have nI : sI.heap.get? a = none := by
      cases q : sI.heap.get? a with
      | none => rfl
      | some o =>
        have z := nb a o q (by rw [hs]; exact nfr)
        rw [nB] at z; cases z
    have n0 : X.s_0.heap.get? a = none := by
      cases q : X.s_0.heap.get? a with
      | none => rfl
      | some o =>
        obtain ⟨o', z⟩ := J.base.there a o q (by rw [hex]; exact fun z => nomatch z)
        rw [nI] at z; cases z
    have np : ∀ p ∈ X.pn ++ pins, p.1 ≠ a := fun p hp z => by
      have q := (J.pin p hp).1
      rw [z, nI] at q; cases q
    have S3 := J3.suite he3 hd3 na nL nF
    have go : ∀ {hds' : List ExceptHandler} {l' : List (Value × (Addr → Value → Option Addr → TS))}, HdsA X n hds' l' → wAsM X.K Wout D i l' cls d σ' H' →
        wpAny (model X.prog X.w) X.A (handleBy (.ref a) X.env hds') (SP X pins D) X.xe { s' with heap := h3 } := by
      intro hds' l' hk
      induction hk with
      | nil =>
        intro w
        refine wpAny_handleBy_nil ?_
        obtain ⟨k1, k2, k3, oe, vs, T, oT, ts', he, hz, hd, h1, hr⟩ := id fl3
        unfold PySem.passOn
        refine wpAny_bind (wpAny_field he hd h1 ?_)
        rw [if_neg (show ¬ ((Value.ref T == Value.none) = true) from by simp)]
        have fin : wpAny (model X.prog X.w) X.A (setFlight (.ref a) X.env.frame) (fun _ s4 => wpAny (model X.prog X.w) X.A (throw (.ref a) : Sem Flow) (SP X pins D) X.xe s4) X.xe { s' with heap := h3 } := by
          rw [hf]
          refine HandSPX.setFlight_upZ fl3 fun h4 hh4 up4 => wpAny_throw (tk _ _ ?_)
          exact ⟨a, B, sI, pins, σ', H', cls, d, rfl, J, nb, (up.trans up3).trans up4, .inr (.inr (by rw [hs]; exact hh4)), na, os, ag, w⟩
        first
          | exact wpAny_bind (wpAny_pure (wpAny_bind fin))
          | exact wpAny_bind fin
      | @cons x c ts b₀ suite np' pos' hds2 l2 hc hsu r ih =>
        intro w
        obtain ⟨b, hb1, hyes, hno⟩ := w
        refine wpAny_handleBy_cons (codeAny_handlers_test ?_) (by intro q; cases q)
        have LT : PySem.W.Looks (model X.prog X.w) h3 (typeOf (.ref a)) cls := fun A Q E s k q => wpAny_typeOf_ref (k _ _ he3) (by rw [hz3.1]; exact q)
        have LM := PySem.W.exm_one (M := model X.prog X.w) (J3.kIn) LT hb1
        have test : ∀ {Q : Value → Shared → Prop} {E : Value → Shared → Prop}, Q c { s' with heap := h3 } → wpAny (model X.prog X.w) (X.A.mark (some (.ref a))) (eval (.Name x np') X.env) Q E { s' with heap := h3 } := fun {Q E} q => by
          obtain ⟨hg, hdbg, hm | ⟨hm, hv, hnn⟩⟩ := hc
          · exact ld_glob (X := X.suite a ((a, oe3) :: (X.pn ++ pins))) S3 hg hm q hdbg
          · exact ld_blt (X := X.suite a ((a, oe3) :: (X.pn ++ pins))) S3 hg hm hv q hnn hdbg
        refine test (LM.here ?_)
        cases b with
        | true =>
          refine codeAny_handlers_suite_as ?_
          refine HandSPX.lands_againZ fl3 fun h4 fl4 up4 => ?_
          have J4 : L2.Inv X pins σ' H' { s' with heap := h4 } := J.landed nb fl4.1 ((up.trans up3).trans up4) os ag
          obtain ⟨oe4, vs4, he4, hz4, hd4⟩ := fl4.there
          have S4 := J4.suite he4 hd4 na nL nF
          refine store_ok (X := X.suite a ((a, oe4) :: (X.pn ++ pins))) (v := .ref a) S4 hN hi hloc rfl (fun s5 S5 => ?_) (.inr hln)
          refine wpAny_mono ((hsu a oe4 cls d (X.pn ++ pins) hz4 ⟨_, hd4⟩).run [] s5 _ H' _ S5 (hyes rfl a na)) (fun f s6 hsp => ?_) (fun _ _ z => False.elim z)
          have end_ : ∀ {σ6 : L2.St} {H6 : Hp} {Q : Shared → Prop}, L2.Inv (X.suite a ((a, oe4) :: (X.pn ++ pins))) [] σ6 H6 s6 → (H6 a = none → ∀ s7, L2.Inv X pins (σ6.set i none) (upd H6 a (exk a cls d)) s7 → Q s7) →
              wpAny (model X.prog X.w) X.A (do bindName X.env n .none; unbindBehindTheSuite X.env n pos') (fun _ s7 => Q s7) X.xe s6 := fun {σ6 H6 Q} S6 hq => by
            obtain ⟨g6, n6, _⟩ := S6.pin (a, oe4) (List.mem_append_left _ List.mem_cons_self)
            have T6 : L2.Inv X pins σ6 (upd H6 a (exk a cls d)) s6 := trackX (S6.unsuite ok) g6 hd4 n6 n0 nL np (exk_ok g6 hz4.1 hz4.2 hd4)
            exact gone_ok T6 hN hi hln (hq n6)
          cases f with
          | next =>
            obtain ⟨σ6, H6, S6, q6⟩ := hsp
            exact end_ S6 fun z s7 J7 => ⟨_, _, J7, q6 z⟩
          | brk =>
            obtain ⟨σ6, H6, S6, q6⟩ := hsp
            exact end_ S6 fun z s7 J7 => ⟨_, _, J7, q6 z⟩
          | cont =>
            obtain ⟨σ6, H6, S6, q6⟩ := hsp
            exact end_ S6 fun z s7 J7 => ⟨_, _, J7, q6 z⟩
          | ret u =>
            obtain ⟨v6, σ6, H6, S6, r6, q6⟩ := hsp
            exact end_ S6 fun z s7 J7 => ⟨_, _, _, J7, r6, q6 z⟩
        | false =>
          show wpAny _ X.A (handleBy (.ref a) X.env hds2) _ _ _
          exact ih (hno rfl)
    exact go hh w
  · cases f with
    | next =>
      obtain ⟨σ', H', J', q⟩ := hsp
      exact wpAny_execs_nil ⟨σ', H', J'.ofTry ok, q⟩
    | brk =>
      obtain ⟨σ', H', J', q⟩ := hsp
      exact ⟨σ', H', J'.ofTry ok, q⟩
    | cont =>
      obtain ⟨σ', H', J', q⟩ := hsp
      exact ⟨σ', H', J'.ofTry ok, q⟩
    | ret u =>
      obtain ⟨v, σ', H', J', r, q⟩ := hsp
      exact ⟨v, σ', H', J'.ofTry ok, r, q⟩
end
end L3
end
section
set_option maxHeartbeats 2000000
/-! L9e4: try: a() except C1 as n: .. except C2 as n: ..; then more. a the lambda that was handed over; over data -/
namespace L3
open PySem PySem.Spec PyProof.Rows L2 LamX
/-- the clause that takes the exception -/
theorem wAsM_at {K : PySem.W.Frag} {W : WX} {D : Ends} {i : Nat} {cls : Value} {d : Option Addr} {σ : L2.St} {H : Hp} : ∀ (l : List (Value × (Addr → Value → Option Addr → TS))) (j : Nat) (c : Value) (ts : Addr → Value → Option Addr → TS), l[j]? = some (c, ts) →
    (∀ i' c' ts', i' < j → l[i']? = some (c', ts') → PySem.W.exmOne K cls c' = some false) → PySem.W.exmOne K cls c = some true → (∀ a, H a = none → ts a cls d (endA D i a cls d) (σ.set i (some (.ref a))) H) → wAsM K W D i l cls d σ H
  | [], _, _, _, h, _, _, _ => by simp at h
  | (c0, t0) :: r, 0, c, ts, h, _, h2, h3 => by
    have e : (c0, t0) = (c, ts) := Option.some.inj h
    cases e
    exact ⟨true, h2, fun _ => h3, fun z => by cases z⟩
  | (c0, t0) :: r, j + 1, c, ts, h, h1, h2, h3 =>
    ⟨false, h1 0 c0 t0 (Nat.succ_pos j) rfl, (fun z => by cases z), fun _ => wAsM_at r j c ts h (fun i' c' ts' hi hl => h1 (i' + 1) c' ts' (Nat.succ_lt_succ hi) hl) h2 h3⟩
abbrev Hand := Addr → Value → Option Addr → QS
def hlift (K : PySem.W.Frag) (l : List (Addr × Hand)) : List (Value × (Addr → Value → Option Addr → TS)) := l.map fun p => (.ref p.1, fun e cls d => liftS K (p.2 e cls d))
def TTak (K : PySem.W.Frag) (l : List (Addr × Hand)) (qr : QS) : (XK → Hp → VK → Prop) → Hp → VK → Prop := fun tl H Q => ∀ f : Addr,
  tl (fun cls d H' => wAsM K (fun _ _ _ _ => False) { nx := fun σ' H' => liftS K qr { nx := fun _ H'' => Q .non H'', rt := Q } σ' H', rt := Q } 1 (hlift K l) cls d [some (.ref f), none] H') H
    (fun _ H' => liftS K qr { nx := fun _ H'' => Q .non H'', rt := Q } [some (.ref f), none] H')
theorem tak_gives {X : Cx} {x a en q : Str} {sg : Scope} {g : Addr} {cdg : Value} {p1 p2 p3 p8 : Pos} {h₀ : ExceptHandler} {hds : List ExceptHandler} {rest : List Stmt} {l : List (Addr × Hand)} {qr : QS} (hN : ([a, en] : List Str).Nodup) (hln : sg.names.lookup en = some .local)
    (hh : ∀ (s : Shared) (H : Hp), HdsA (cxOf C8.CX0 X.prog X.w X.K X.mg X.base [a, en] x sg g cdg X.A X.stack s H C8.E0).nox en (h₀ :: hds) (hlift X.K l))
    (hre : ∀ (s : Shared) (H : Hp), PSs (cxOf C8.CX0 X.prog X.w X.K X.mg X.base [a, en] x sg g cdg X.A X.stack s H C8.E0).nox rest (liftS X.K qr))
    (hsw : ∀ (s : Shared) (H : Hp) (pn : List (Addr × Obj)) (xe : Value → Shared → Prop), swapsWith (.Call (.Name a p1) [] [] p2) none p3.line ((cxOf C8.CX0 X.prog X.w X.K X.mg X.base [a, en] x sg g cdg X.A X.stack s H C8.E0).tr pn xe).env = pure false) :
    Gives X [a, en] x sg g cdg (.Try [.Expr (.Call (.Name a p1) [] [] p2) p3] (h₀ :: hds) [] [] p8 :: rest) a q (TTak X.K l qr) := by
  intro f c' s H Q tl mono act hc h
  refine ⟨_, pss_cons (ps_try_asM (X := (cxOf C8.CX0 X.prog X.w X.K X.mg X.base [a, en] x sg g cdg X.A X.stack s H C8.E0).nox) (i := 1) (l := hlift X.K l)
      (tb := fun W D σ H => σ[0]? = some (some (.ref f)) ∧ H c' = some (CodeO c' q) ∧ tl (fun cls d H' => W cls d σ H') H fun _ H' => D.nx σ H')
      (Wout := fun _ _ _ _ => False) rfl rfl rfl hN rfl hln takesZ0 (fun W pn xe tk _ => ?_) (hh s H)) (hre s H), ?_⟩
  · refine pss_imp (pss_one (ps_expr (act W pn xe p1 p2 tk) (hsw s H pn xe))) ?_
    rintro D σ H ⟨h1, h2, h3⟩
    exact ⟨h1, h2, h3⟩
  · exact ⟨rfl, hc, h f⟩
/-- the ends of a clause's suite that only returns; the exception stays -/
def DE.held (Φ : DK) (e : Addr) (cls : Value) (od : Option Addr) : DE := { nx := fun _ _ => False, rt := fun d m2 => ∃ m3, MLe (mset m2 e (.exc e cls od)) m3 ∧ Φ d m3, bk := fun _ _ => False, ct := fun _ _ => False }
def qTak (P : Addr) (q : Str) (T : List (Addr × Nat)) (ql : QX) (qss : List Hand) (qr : QS) : QE := fun s m Φ => m P = some (.tab q) ∧ ql s m (fun _ m1 => qr (bodyW Φ) [none, none] m1)
  (fun cls od m1 => ∃ C j qs, (C, j) ∈ T ∧ cls = .ref C ∧ qss[j]? = some qs ∧ ∀ e, m1 e = none → qs e cls od (DE.held Φ e cls od) [none, some (.ref e)] m1)
theorem de_tak {X : Cx} {x a en : Str} {st : Stmt} {g c P : Addr} {fd : FuncData} {k : Nat} {Ds : List Addr} {qss : List Hand} {T : List (Addr × Nat)} {params : Arguments} {body : Expr} {scope : Scope} {ql : QX} {qr : QS} {p lpos pos p1 p2 p3 p8 : Pos} {h₀ : ExceptHandler} {hds : List ExceptHandler} {rest : List Stmt}
    (F : Fun X.K x x st g fd) (hb : Binds X.K fd [a] []) (S : FnScope [a, en] [a] (defScope st)) (hbody : defBody st = .Try [.Expr (.Call (.Name a p1) [] [] p2) p3] (h₀ :: hds) [] [] p8 :: rest)
    (hva : Vis (defScope st) a) (hln : (defScope st).names.lookup en = some .local) (hl : Ds.length = qss.length)
    (hT : ∀ t ∈ T, ∀ i D, Ds[i]? = some D → (i < t.2 → PySem.W.exmOne X.K (.ref t.1) (.ref D) = some false) ∧ (i = t.2 → PySem.W.exmOne X.K (.ref t.1) (.ref D) = some true))
    (hh : ∀ (cdg : Value) (s : Shared) (H : Hp), HdsA (cxOf C8.CX0 X.prog X.w X.K X.mg X.base [a, en] x (defScope st) g cdg X.A X.stack s H C8.E0).nox en (h₀ :: hds) (hlift X.K (Ds.zip qss)))
    (hre : ∀ (cdg : Value) (s : Shared) (H : Hp), PSs (cxOf C8.CX0 X.prog X.w X.K X.mg X.base [a, en] x (defScope st) g cdg X.A X.stack s H C8.E0).nox rest (liftS X.K qr))
    (hr : Room (k + 2) X.A) (TB : TabB X.base X.mg c P) (hcode : X.env.code = .ref c) (hg : Gl X x) (hm : X.mg x = some (.ref g)) (hk : PySem.W.keepIn X.K (.ref g) = true) (L : LamS X.env.scope scope) (hdef : defaultsOf params X.env = ([], []))
    (hbind : ∀ (q : Str) (cl : List (Str × Addr)) (pm cv ctv : Value), bindArgs (PySem.W.kla_fn "<lambda>" q params body scope cl pm cv ctv) ⟨[], []⟩ = pure [])
    (hlam : ∀ (A : Around) (outer : List Env) (s : Shared) (H : Hp) (E : XK) (f c' : Addr), Room k (A.deeper (lamEnv X scope s.heap.objs.size f c')) → PE (lamCx X A outer s H E scope f c') body (liftEX X.K E ql))
    (hsw : ∀ (cdg : Value) (s : Shared) (H : Hp) (pn : List (Addr × Obj)) (xe : Value → Shared → Prop), swapsWith (.Call (.Name a p1) [] [] p2) none p3.line ((cxOf C8.CX0 X.prog X.w X.K X.mg X.base [a, en] x (defScope st) g cdg X.A X.stack s H C8.E0).tr pn xe).env = pure false := by intros; rfl)
    (hdb : (x == ("__debug__" : Str)) = false := by decide) (hd : (a == ("__debug__" : Str)) = false := by decide) (hcd : (a == ("__classdict__" : Str)) = false := by decide) :
    PE X (.Call (.Name x p) [.Lambda params body scope lpos] [] pos) (liftE X.K (qTak P (X.env.qual ++ "<lambda>") T ql qss qr)) := by
  obtain ⟨oc, od, kV, doc, pm, an, cdv, ct, osl, rfl, lk, hcg⟩ := F.ex
  have hG : Gives X [a, en] x (defScope st) g cdv (defBody st) a (X.env.qual ++ "<lambda>") (TTak X.K (Ds.zip qss) qr) := by
    rw [hbody]
    exact tak_gives S.nd hln (hh cdv) (hre cdv) (hsw cdv)
  refine pe_imp (pe_give hg hm hk lk hcg hb S rfl hva hG (t := fun E => liftEX X.K E ql) (fun σ E E' H Q le ⟨G, s, m, Φ, Ψ, rm, rs, q, kq, kx⟩ => ⟨G, s, m, Φ, Ψ, rm, rs, q, kq, fun G' cls m' od H' e r z => le _ _ _ (kx G' cls m' od H' e r z)⟩) TB hcode hr L hdef hbind hlam hdb hd hcd) ?_
  rintro σ H Q ⟨G, s, m, Φ, rm, rs, ⟨hP, hq⟩, kq⟩
  obtain ⟨gP, u, hu, ps, rfl, t2, t3⟩ := rm.mem P _ hP
  refine ⟨⟨ps, hu, t2, fun pos cv hcv => let ⟨c, e1, e2⟩ := t3 pos cv hcv; ⟨c, e1, rm.sub _ _ e2⟩⟩, fun H1 gr f => ?_⟩
  obtain ⟨G2, s2, r2⟩ := RelM.grew rm hP gr
  refine ⟨G2, s, m, _, _, r2, rs.mono s2, hq, ?_, ?_⟩
  · intro G3 d m1 v H3 e3 r3 rv q3
    refine ⟨G3, _, m1, bodyW Φ, r3, ⟨rfl, fun i d' h => ?_⟩, q3, ?_, ?_, fun _ _ _ _ _ _ _ _ z => z.elim, fun _ _ _ _ _ _ _ _ z => z.elim⟩
    · match i, h with
      | 0, h => cases h
      | 1, h => cases h
      | i + 2, h => simp at h
    · exact fun G4 _ m4 _ H4 e4 r4 _ ⟨m5, le, q5⟩ => kq _ .non m5 _ _ ((s2.trans e3).trans e4) (r4.le le) rfl q5
    · exact fun G4 d m4 v H4 e4 r4 rv ⟨m5, le, q5⟩ => kq _ d m5 _ _ ((s2.trans e3).trans e4) (r4.le le) rv q5
  · rintro G3 cls m1 od H3 e3 r3 ⟨C, j, qs, hCj, rfl, hj, h⟩
    have hjl : j < Ds.length := by
      rw [hl]
      exact (List.getElem?_eq_some_iff.mp hj).1
    have hD : Ds[j]? = some Ds[j] := List.getElem?_eq_getElem hjl
    refine wAsM_at (hlift X.K (Ds.zip qss)) j (.ref Ds[j]) (fun e cls d => liftS X.K (qs e cls d)) ?_ ?_ ((hT _ hCj j _ hD).2 rfl) fun e he => ?_
    · unfold hlift
      rw [List.getElem?_map, (List.getElem?_zip_eq_some (z := (Ds[j], qs))).mpr ⟨hD, hj⟩]
      rfl
    · intro i' c' ts' hi hl'
      unfold hlift at hl'
      rw [List.getElem?_map] at hl'
      obtain ⟨⟨D', q'⟩, hz, ez⟩ := Option.map_eq_some_iff.mp hl'
      have := (List.getElem?_zip_eq_some.mp hz).1
      cases ez
      exact (hT _ hCj i' D' this).1 hi
    · refine ⟨G3, _, m1, DE.held Φ e (.ref C) od, r3, relS_two, h e (r3.free he), ?_, ?_, fun _ _ _ _ _ _ _ _ z => z.elim, fun _ _ _ _ _ _ _ _ z => z.elim⟩
      · exact fun G4 _ m4 _ H4 e4 r4 _ z => z.elim
      · exact fun G4 d m4 v H4 e4 r4 rv ⟨m5, le, q5⟩ hn => kq _ d m5 _ _ ((s2.trans e3).trans e4) ((r4.new (p := e) (o := .exc e (.ref C) od) (u := exk e (.ref C) od) hn rfl).le le) rv q5
end L3
end
section
/-! L9f: sorted of a list of texts -/
namespace L3
open PySem PySem.Spec PyProof.Rows L2
def leS (x y : Str) : Prop := x.cps.toList ≤ y.cps.toList
theorem leS_trans {x y z : Str} (h : leS x y) (h' : leS y z) : leS x z := List.le_trans h h'
theorem leS_anti {x y : Str} (h : leS x y) (h' : leS y x) : x = y := by
  have e := List.le_antisymm h h'
  obtain ⟨⟨a⟩⟩ := x
  obtain ⟨⟨b⟩⟩ := y
  have e : a = b := e
  rw [e]
theorem leS_total (x y : Str) : leS x y ∨ leS y x := List.le_total _ _
instance (x y : Str) : Decidable (leS x y) := inferInstanceAs (Decidable (x.cps.toList ≤ y.cps.toList))
theorem leS_of {x y : Str} (h : ltCps y.cps.toList x.cps.toList = false) : leS x y := by
  rw [ltCps_eq] at h
  exact List.not_lt.mp (of_decide_eq_false h)
theorem rising_pw : ∀ (l : List Str) (p : Str), risingS p l = true → (p :: l).Pairwise leS
  | [], p, _ => List.pairwise_singleton _ _
  | x :: r, p, h => by
    have h' : (!ltCps x.cps.toList p.cps.toList && risingS x r) = true := h
    obtain ⟨h1, h2⟩ := Bool.and_eq_true_iff.mp h'
    have ih := rising_pw r x h2
    have hx : leS p x := leS_of (by simpa using h1)
    refine List.pairwise_cons.mpr ⟨fun y hy => ?_, ih⟩
    rcases List.mem_cons.mp hy with rfl | hy
    · exact hx
    · exact leS_trans hx ((List.pairwise_cons.mp ih).1 y hy)
theorem sorted_pw : ∀ {l : List Str}, sortedS l = true → l.Pairwise leS
  | [], _ => List.Pairwise.nil
  | x :: r, h => rising_pw r x h
theorem perm_uniq : ∀ {l m : List Str}, l.Pairwise leS → m.Pairwise leS → l.Perm m → l = m
  | [], m, _, _, h => (List.Perm.eq_nil h.symm).symm
  | x :: l, [], _, _, h => absurd h.length_eq (by simp)
  | x :: l, y :: m, hl, hm, h => by
    have e : x = y := by
      rcases List.mem_cons.mp (h.mem_iff.mp (List.mem_cons_self (a := x) (l := l))) with e | hx
      · exact e
      · rcases List.mem_cons.mp (h.mem_iff.mpr (List.mem_cons_self (a := y) (l := m))) with e | hy
        · exact e.symm
        · exact leS_anti ((List.pairwise_cons.mp hl).1 y hy) ((List.pairwise_cons.mp hm).1 x hx)
    subst e
    rw [perm_uniq (List.pairwise_cons.mp hl).2 (List.pairwise_cons.mp hm).2 (List.perm_cons x |>.mp h)]
def insS (x : Str) : List Str → List Str
  | [] => [x]
  | y :: r => if x.cps.toList ≤ y.cps.toList then x :: y :: r else y :: insS x r
def sortS : List Str → List Str
  | [] => []
  | x :: r => insS x (sortS r)
theorem insS_perm (x : Str) : ∀ l, (insS x l).Perm (x :: l)
  | [] => List.Perm.refl _
  | y :: r => by
    unfold insS
    split
    · exact List.Perm.refl _
    · exact ((insS_perm x r).cons y).trans (List.Perm.swap x y r)
theorem sortS_perm : ∀ l, (sortS l).Perm l
  | [] => List.Perm.refl _
  | x :: r => (insS_perm x _).trans ((sortS_perm r).cons x)
theorem insS_pw (x : Str) : ∀ {l : List Str}, l.Pairwise leS → (insS x l).Pairwise leS
  | [], _ => List.pairwise_singleton _ _
  | y :: r, h => by
    unfold insS
    split
    · rename_i hxy
      refine List.pairwise_cons.mpr ⟨fun z hz => ?_, h⟩
      rcases List.mem_cons.mp hz with rfl | hz
      · exact hxy
      · exact leS_trans hxy ((List.pairwise_cons.mp h).1 z hz)
    · rename_i hxy
      have hyx : leS y x := (leS_total x y).resolve_left hxy
      refine List.pairwise_cons.mpr ⟨fun z hz => ?_, insS_pw x (List.pairwise_cons.mp h).2⟩
      rcases List.mem_cons.mp ((insS_perm x r).mem_iff.mp hz) with rfl | hz
      · exact hyx
      · exact (List.pairwise_cons.mp h).1 z hz
theorem sortS_pw : ∀ l, (sortS l).Pairwise leS
  | [] => List.Pairwise.nil
  | x :: r => insS_pw x (sortS_pw r)
theorem sortS_of {xs ys : List Str} (hp : ys.Perm xs) (hs : sortedS ys = true) : ys = sortS xs := perm_uniq (sorted_pw hs) (sortS_pw xs) (hp.trans (sortS_perm xs).symm)
theorem sortS_congr {xs ys : List Str} (hp : ys.Perm xs) : sortS ys = sortS xs := perm_uniq (sortS_pw ys) (sortS_pw xs) ((sortS_perm ys).trans (hp.trans (sortS_perm xs).symm))
def bSortS : LSp := fun ds m Φ => ∃ zs : List Str, ds = [.lst (zs.map D.str)] ∧ zs.length < 64 ∧ ∀ p, m p = none → Φ (.ref p) (mset m p (.lst ((sortS zs).map D.str)))
theorem db_sortS {X : Cx} : CallR X (.builtin "sorted") (liftC X.K bSortS) := call_imp cr_sortedS fun vs H Q ⟨G, m, ds, Φ, rm, rd, q, k⟩ => by
  obtain ⟨zs, rfl, hz, q⟩ := q
  obtain ⟨v, rfl, a, xs, rfl, h1, h2⟩ := rv1 rd
  have e := h2.strs
  subst e
  exact ⟨a, zs, rfl, rm.sub.l h1, hz, fun ys p hp hs hn => by rw [sortS_of hp hs]; exact k G (.ref p) _ _ _ (Sub.refl G) (rm.new (o := .lst ((sortS zs).map D.str)) hn ⟨_, rfl, RVs.of_strs _⟩) rfl (q p (rm.free hn))⟩
end L3
end
section
/-! L9g: what the written part says of exception classes, by one look each -/
namespace L3
open PySem PySem.Spec PyProof.Rows L2 L2H HotX HotE
theorem ktab_ofB {K : PySem.W.Frag} {Cs : List Addr} {cv : Value} {tb : List Bool} (h : ktabB K Cs cv tb = true) : KTab K Cs cv tb := fun i C hi => by
  have hl : i < Cs.length := (List.getElem?_eq_some_iff.mp hi).1
  have z := of_decide_eq_true (List.all_eq_true.mp h i (List.mem_range.mpr hl))
  rw [List.getD_eq_getElem?_getD, hi] at z
  exact z
theorem tak_ofB {K : PySem.W.Frag} {T : List (Addr × Nat)} {Ds : List Addr} (h : takB K T Ds = true) : ∀ t ∈ T, ∀ i D, Ds[i]? = some D → (i < t.2 → PySem.W.exmOne K (.ref t.1) (.ref D) = some false) ∧ (i = t.2 → PySem.W.exmOne K (.ref t.1) (.ref D) = some true) := fun t ht i D hi => by
  have hl : i < Ds.length := (List.getElem?_eq_some_iff.mp hi).1
  have z := List.all_eq_true.mp (List.all_eq_true.mp h t ht) i (List.mem_range.mpr hl)
  rw [Bool.or_eq_true] at z
  rw [List.getD_eq_getElem?_getD, hi] at z
  refine ⟨fun e => ?_, fun e => ?_⟩
  · rcases z with z | z
    · exact absurd (of_decide_eq_true z) (by omega)
    · have z := of_decide_eq_true z
      rw [decide_eq_false (by omega)] at z
      exact z
  · rcases z with z | z
    · exact absurd (of_decide_eq_true z) (by omega)
    · have z := of_decide_eq_true z
      rw [decide_eq_true e] at z
      exact z
theorem excB_ok {K : PySem.W.Frag} {C : Addr} (h : excB K C = true) : ExcC K C ∧ XfC K C := by
  obtain ⟨h1, h⟩ := Bool.and_eq_true_iff.mp h
  obtain ⟨h2, h⟩ := Bool.and_eq_true_iff.mp h
  obtain ⟨h3, h⟩ := Bool.and_eq_true_iff.mp h
  obtain ⟨h4, h⟩ := Bool.and_eq_true_iff.mp h
  obtain ⟨h5, h⟩ := Bool.and_eq_true_iff.mp h
  obtain ⟨h6, h⟩ := Bool.and_eq_true_iff.mp h
  obtain ⟨h7, h8⟩ := Bool.and_eq_true_iff.mp h
  exact ⟨⟨of_decide_eq_true h1, of_decide_eq_true h2, of_decide_eq_true h3, h4, of_decide_eq_true h5, of_decide_eq_true h6, of_decide_eq_true h7, of_decide_eq_true h8⟩, ⟨of_decide_eq_true h1, of_decide_eq_true h2, of_decide_eq_true h3, h4⟩⟩
structure ExVK (K : PySem.W.Frag) (mg : Str → Option Value) (x : Str) (C fI : Addr) (fs : List Str) : Prop where
  gx : mg x = some (.ref C)
  oex : OexG K C
  xf : XfC K C
  xc : ExcC K C
  no : ∀ f ∈ fs, PySem.W.findIn K (.ref C) f = some none
  ini : PySem.W.findIn K (.ref C) "__init__" = some (some (.ref fI))
  ti : PySem.W.typeIn K (.ref fI) = some (.type "function")
theorem exvk_of {K : PySem.W.Frag} {mg : Str → Option Value} {x : Str} {C fI : Addr} {fs : List Str} (g : mg x = some (.ref C)) (l : ClsLkG K C) (h : exvB K C fI fs = true) : ExVK K mg x C fI fs := by
  obtain ⟨h0, h⟩ := Bool.and_eq_true_iff.mp h
  obtain ⟨h1, h⟩ := Bool.and_eq_true_iff.mp h
  obtain ⟨h2, h⟩ := Bool.and_eq_true_iff.mp h
  obtain ⟨h3, h⟩ := Bool.and_eq_true_iff.mp h
  obtain ⟨h4, h⟩ := Bool.and_eq_true_iff.mp h
  obtain ⟨h5, h6⟩ := Bool.and_eq_true_iff.mp h
  obtain ⟨e1, e2⟩ := excB_ok h0
  exact ⟨g, ⟨l, of_decide_eq_true h1, e1.hs, of_decide_eq_true h2, h3⟩, e2, e1, fun f hf => of_decide_eq_true (List.all_eq_true.mp h6 f hf), of_decide_eq_true h4, of_decide_eq_true h5⟩
theorem ExVK.v1 {P : Program} {w : World} {K : PySem.W.Frag} {mg : Str → Option Value} {base : Heap} {x qual f : Str} {st : Stmt} {fI C : Addr} {fd : FuncData} {p1 p2 p3 p4 : Pos} (T : ExVK K mg x C fI [f]) (F : Fun K "__init__" qual st fI fd) (S : FnScope ["self", f] ["self", f] (defScope st))
    (kp : KwM K fd ["self", f] [] 1 [0, 1]) (kk : KwM K fd ["self", f] [f] 0 [0, 1]) (hb : defBody st = [.Assign [.Attribute (.Name "self" p1) f p2] (.Name f p3) p4]) (v0 : Vis (defScope st) "self") (v1 : Vis (defScope st) f)
    (hp : (f == ("__debug__" : Str)) = false := by decide) (hcd : (f == ("__classdict__" : Str)) = false := by decide) : ExV1 P w K mg base x C f :=
  ⟨T.gx, T.oex, fI, fd, T.ini, T.ti, fn_e1G F S T.oex (T.no f (List.mem_singleton.mpr rfl)) hp hcd hb v0 v1, kp, kk⟩
theorem ExVK.v2 {P : Program} {w : World} {K : PySem.W.Frag} {mg : Str → Option Value} {base : Heap} {x qual f g : Str} {st : Stmt} {fI C : Addr} {fd : FuncData} {p1 p2 p3 p4 p5 p6 p7 p8 : Pos} (T : ExVK K mg x C fI [f, g]) (F : Fun K "__init__" qual st fI fd) (S : FnScope ["self", f, g] ["self", f, g] (defScope st))
    (kp : KwM K fd ["self", f, g] [] 2 [0, 1, 2]) (kk : KwM K fd ["self", f, g] [g, f] 0 [0, 2, 1]) (hb : defBody st = [.Assign [.Attribute (.Name "self" p1) f p2] (.Name f p3) p4, .Assign [.Attribute (.Name "self" p5) g p6] (.Name g p7) p8])
    (v0 : Vis (defScope st) "self") (v1 : Vis (defScope st) f) (v2 : Vis (defScope st) g) (hp : (f == ("__debug__" : Str)) = false := by decide) (hcd : (f == ("__classdict__" : Str)) = false := by decide) (hp2 : (g == ("__debug__" : Str)) = false := by decide) (hcd2 : (g == ("__classdict__" : Str)) = false := by decide) :
    ExV2 P w K mg base x C f g :=
  ⟨T.gx, T.oex, fI, fd, T.ini, T.ti, fn_e2G F S T.oex (T.no f (List.mem_cons_self ..)) (T.no g (List.mem_cons_of_mem _ (List.mem_singleton.mpr rfl))) hp hcd hp2 hcd2 hb v0 v1 v2, kp, kk⟩
end L3
end
section
/-! L9h: raise C(e), C an own class over any base -/
namespace L3
open PySem PySem.Spec PyProof.Rows L2
theorem pmk_plain {X : Cx} {e : Expr} {t : L2.St → Hp → XK → Prop} (h : L2N.PMk X e t) : L2.PMk X e t := fun pins s σ H Q I w => wpAny_mono (h pins s σ H Q I w) (fun u s1 z => by
  obtain ⟨a, oe, vs, sI, H', cls, d, h1, h2, h3, h4, h5, hz, rest⟩ := z
  exact ⟨a, oe, vs, sI, H', cls, d, h1, h2, h3, h4, h5, ⟨hz.1, hz.2.1⟩, rest⟩) fun _ _ z => z
theorem xz_raise1G {X : Cx} {W : WX} {x : Str} {C : Addr} {f : Str} {a : Expr} {qe : QE} {p1 pos pos2 : Pos} (hc : X.calm = true) (T : Ex1G X.prog X.w X.K X.mg X.base x C f) (hr : Room 2 X.A) (tk : L2.Takes X W) (he : PE X a (liftE X.K qe)) (hg : Gl X x := by rfl)
    (hdb : (x == ("__debug__" : Str)) = false := by decide) (hs : starEach (a :: []) X.env = (false, eval a X.env) :: starEach [] X.env := by rfl) (hpl : (backTo pos (starEach [] X.env)).any (·.1) = false := by rfl) :
    PS X (.Raise (some (.Call (.Name x p1) [a] [] pos)) none pos2) (liftSX X.K W (sRaise1 C f qe)) := by
  obtain ⟨fI, fd, p, iC, tI, F1, hb⟩ := T.ini
  refine ps_imp (L2.ps_raise hc tk (pmk_plain (pmkG T.oex iC tI F1 hr hb .nil pass0 hg T.gx (pa_cons he pa_nil hs) hdb hs hpl))) fun D σ H ⟨G, s, m, E, Ψ, rm, rs, q, kn, kr, kb, kc, kx⟩ => ?_
  refine ⟨G, s, m, _, rm, rs, q, fun G1 d m1 v H1 e1 r1 rd q1 => ?_⟩
  refine ⟨by show 1 ≤ 1000; decide, fun a ha => ⟨a, v, rfl, upd_same, fun dx hdx hne => ?_⟩⟩
  have hdx1 : H1 dx = none := by rw [upd_ne hne] at hdx; exact hdx
  refine ⟨rfl, dx, [(f, v)], upd_same, by rw [upd_ne hne, upd_same], hdx1, ?_⟩
  have eh : upd (del (upd (upd (upd H1 a (exo a C none)) dx (exd dx [(f, v)])) a (exo a C (some dx))) a) dx (.xd [(f, v)]) = upd H1 dx (.xd [(f, v)]) := by
    funext b
    by_cases hb : b = dx
    · subst hb; rw [upd_same, upd_same]
    · rw [upd_ne hb, upd_ne hb]
      by_cases ha' : b = a
      · subst ha'; rw [del_same, ha]
      · rw [del_ne ha', upd_ne ha', upd_ne hb, upd_ne ha']
  rw [eh]
  exact kx G1 (.ref C) s _ (some dx) σ _ e1 (r1.new (o := .xd [(f, d)]) hdx1 ⟨[(f, v)], rfl, v, [], rfl, rd, rfl⟩) (rs.mono e1) (q1 dx (r1.free hdx1))
end L3
end
section
namespace K70
open PySem PySem.Spec PyProof.Rows L2 L3
structure Adr where
  Short : Addr
  UnknownHop : Addr
  Started : Addr
  BadAmount : Addr
  BadLink : Addr
  BadFlow : Addr
  BadAge : Addr
  BadPart : Addr
  TooMany : Addr
  DuplicateName : Addr
  Idle : Addr
  Overpromised : Addr
  Small : Addr
  BadText : Addr
  BadManner : Addr
  BadCapacity : Addr
  BadSharing : Addr
  BadBand : Addr
  NotPlain : Addr
  Future : Addr
  BadValue : Addr
  BadState : Addr
  BadCount : Addr
  BadDeed : Addr
  UnknownName : Addr
  UnknownChannel : Addr
  NoSuchLetter : Addr
  NoSuchTick : Addr
  NotStrange : Addr
  NotShaky : Addr
  Unseen : Addr
  BandError : Addr
  Missing : Addr
  Refused : Addr
  Started_init : Addr
  UnknownHop_init : Addr
  Short_init : Addr
  BadAmount_init : Addr
  BadLink_init : Addr
  BadFlow_init : Addr
  BadAge_init : Addr
  BadPart_init : Addr
  TooMany_init : Addr
  DuplicateName_init : Addr
  Idle_init : Addr
  Overpromised_init : Addr
  Small_init : Addr
  BadText_init : Addr
  BadManner_init : Addr
  BadCapacity_init : Addr
  BadSharing_init : Addr
  BadBand_init : Addr
  Future_init : Addr
  BadValue_init : Addr
  BadState_init : Addr
  BadCount_init : Addr
  BadDeed_init : Addr
  UnknownName_init : Addr
  UnknownChannel_init : Addr
  NoSuchLetter_init : Addr
  NoSuchTick_init : Addr
  NotStrange_init : Addr
  NotShaky_init : Addr
  Unseen_init : Addr
  law_bag : Addr
  law_draw : Addr
  law_of : Addr
  law_taken : Addr
  law_last_made : Addr
  law_like : Addr
  law_odd : Addr
  law_word : Addr
  law_pair : Addr
  law_wide : Addr
  law_great : Addr
  law_amount : Addr
  law_first_made : Addr
  law_middle_made : Addr
  law_last_ones : Addr
  law_middle_ones : Addr
  law_first_ones : Addr
  law_known : Addr
  law_rows_so : Addr
  law_thrown : Addr
  law_missed : Addr
  law_refused : Addr
  law : Addr
  cb_law : Addr
  tb_law : Addr
def ycs (A : Adr) : List Addr := [A.BadAmount, A.BadLink, A.BadFlow, A.BadAge, A.BadPart, A.TooMany, A.DuplicateName, A.Idle, A.Overpromised, A.Small, A.BadText, A.BadManner, A.BadCapacity, A.BadSharing, A.BadBand, A.NotPlain, A.Future, A.Short, A.BadValue, A.BadState, A.BadCount, A.BadDeed, A.UnknownName, A.UnknownChannel, A.UnknownHop, A.NoSuchLetter, A.NoSuchTick, A.Started, A.NotStrange, A.NotShaky, A.Unseen]
end K70
end
section
namespace K70
open PySem PySem.Spec PyProof.Rows L2 L3
abbrev sp_law_bag (A : Adr) : LSp := C05.sp_law_bag
abbrev sp_law_draw (A : Adr) : LSp := C05.sp_law_draw
abbrev sp_law_of (A : Adr) : LSp := QA.sp_law_of
abbrev sp_law_like (n : Nat) (A : Adr) : LSp := VL.sp_law_like n
abbrev sp_law_odd (A : Adr) : LSp := QA.sp_law_odd
abbrev sp_law_word (A : Adr) : LSp := QG.sp_law_word
abbrev sp_law_pair (A : Adr) : LSp := C05.sp_law_pair
abbrev sp_law_wide (A : Adr) : LSp := C05.sp_law_wide
end K70
end
section
namespace K70
open PySem PySem.Spec PyProof.Rows L2 L3 L4 VL
open C13 (BagP)
abbrev sp_law_great (A : Adr) : LSp := C05.sp_law_great
abbrev sp_law_amount (A : Adr) : LSp := C05.sp_law_amount
/-- the classes' names, how many fields each has -/
def nms : List Str := ["BadAmount", "BadLink", "BadFlow", "BadAge", "BadPart", "TooMany", "DuplicateName", "Idle", "Overpromised", "Small", "BadText", "BadManner", "BadCapacity", "BadSharing", "BadBand", "NotPlain", "Future", "Short", "BadValue", "BadState", "BadCount", "BadDeed", "UnknownName", "UnknownChannel", "UnknownHop", "NoSuchLetter", "NoSuchTick", "Started", "NotStrange", "NotShaky", "Unseen"]
def nfs : List Nat := [1, 1, 1, 1, 1, 2, 1, 1, 2, 2, 2, 1, 1, 1, 1, 0, 1, 1, 1, 2, 1, 1, 1, 1, 1, 1, 1, 1, 1, 1, 1]
def nm (i : Nat) : Str := nms.getD i ""
def nf (i : Nat) : Nat := nfs.getD i 0
def bas (i : Nat) : Str := if i < 22 then "BandError" else if i < 27 then "Missing" else "Refused"
def abv (i : Nat) : Str := if i < 22 then "ValueError" else if i < 27 then "LookupError" else "RuntimeError"
/-- an exception of the i-th class is held at e -/
def Hold (A : Adr) (m : Mem) (i : Nat) (e : Addr) : Prop := ∃ C od, (ycs A)[i]? = some C ∧ m e = some (.exc e (.ref C) od) ∧ (od = none ∨ ∃ dd ys, od = some dd ∧ m dd = some (.xd ys))
theorem Hold.keep {A : Adr} {m m' : Mem} {i : Nat} {e : Addr} (h : Hold A m i e) (k : ∀ a o, m a = some o → (∃ c d, o = .exc a c d) ∨ (∃ ys, o = .xd ys) → m' a = some o) : Hold A m' i e := by
  obtain ⟨C, od, h1, h2, h3⟩ := h
  refine ⟨C, od, h1, k _ _ h2 (.inl ⟨_, _, rfl⟩), ?_⟩
  rcases h3 with rfl | ⟨dd, ys, rfl, h3⟩
  · exact .inl rfl
  · exact .inr ⟨dd, ys, rfl, k _ _ h3 (.inr ⟨_, rfl⟩)⟩
def RowOk (A : Adr) (x y : D) (m : Mem) (row : D) : Prop := ∃ (i : Nat) (errs : List Addr), i < 31 ∧ row = .lst [.str (nm i), .str (bas i), .lst (errs.map D.ref), .lst (List.replicate errs.length (.lst ([x, y].take (nf i))))] ∧ errs.length ≤ 2 ∧ ∀ e ∈ errs, Hold A m i e
theorem RowOk.keep {A : Adr} {x y : D} {m m' : Mem} {row : D} (h : RowOk A x y m row) (k : ∀ a o, m a = some o → (∃ c d, o = .exc a c d) ∨ (∃ ys, o = .xd ys) → m' a = some o) : RowOk A x y m' row := by
  obtain ⟨i, errs, h1, h2, h3, h4⟩ := h
  exact ⟨i, errs, h1, h2, h3, fun e he => (h4 e he).keep k⟩
def ones (lo hi : Nat) (A : Adr) : LSp := fun ds m Φ => ∃ (e : Addr) (i : Nat), ds = [.ref e] ∧ i < 31 ∧ Hold A m i e ∧ ∀ p, m p = none → Φ (.ref p) (mset m p (.lst (if lo ≤ i ∧ i < hi then [.str (nm i)] else [])))
def sp_law_first_ones (A : Adr) : LSp := ones 0 11 A
def sp_law_middle_ones (A : Adr) : LSp := ones 11 22 A
def sp_law_last_ones (A : Adr) : LSp := ones 22 31 A
def sp_law_known (A : Adr) : LSp := fun ds m Φ => ∃ (e : Addr) (i : Nat), ds = [.ref e] ∧ i < 31 ∧ Hold A m i e ∧ Φ (.lst [.str (bas i), .str (abv i), .str (nm i)]) m
def made (n : Nat) (A : Adr) : LSp := fun ds m Φ => ∃ x y, ds = [x, y] ∧ ∀ m' rows p, Grows m m' → m' p = none → rows.length = n → (∀ row ∈ rows, RowOk A x y m' row) → Φ (.ref p) (mset m' p (.lst rows))
def sp_law_first_made (A : Adr) : LSp := made 11 A
def sp_law_middle_made (A : Adr) : LSp := made 11 A
def sp_law_last_made (A : Adr) : LSp := made 9 A
def sp_law_rows_so (A : Adr) : LSp := fun ds m Φ => ∃ rows x y, ds = [.lst rows, x, y] ∧ flatS 4 x ∧ flatS 4 y ∧ rows.length ≤ 31 ∧ (∀ row ∈ rows, RowOk A x y m row) ∧ Φ (.bl true) m
def spx1 (C : Addr) (f : Str) : LSpE := fun ds m Φ Ψ => ∃ x, ds = [x] ∧ ∀ d, m d = none → Ψ (.ref C) (some d) (mset m d (.xd [(f, x)]))
def spx_law_thrown (A : Adr) : LSpE := spx1 A.Short "amount"
def spx_law_missed (A : Adr) : LSpE := spx1 A.UnknownHop "hop"
def spx_law_refused (A : Adr) : LSpE := spx1 A.Started "tick"
end K70
end
section
namespace K70
open PySem PySem.Spec PyProof.Rows L2 L3
/-- the suites of _law_taken: 0 _law_deed, 1 _law_error -/
def qss_law_taken (A : Adr) : List Hand :=
  [fun a cls od => (sRet (qLstF (qCons (qC (.str "BandError")) (qCons (qVar 1) qNil)))),
   fun a cls od => (sRet (qLstF (qCons (qC (.str "Missing")) (qCons (qVar 1) qNil)))),
   fun a cls od => (sRet (qLstF (qCons (qC (.str "Refused")) (qCons (qVar 1) qNil))))]
def qr_law_taken (A : Adr) : QS :=
  (sRet (qLstF (qCons (qC (.str "none")) (qCons (qC .non) qNil))))
/-- _law_bag: 0 _law_script, 1 _law_seed, 2 _law_item -/
def qb_law_bag (A : Adr) : QS :=
  (sSeq (sAsg (.nm 1) (qC (.int 13965)))
    (sSeq (sFor (iLst (qSlL (qVar 0) qNoPart (qPart (qC (.int 63))))) (.nm 2) (sAsg (.nm 1) (qOp (qIC (fun _ j => 0 < j) fun i j => .int (i % j)) (qCB bInt (qCons (qOp qAdd (qOp qAdd (qOp (qIC CM fun i j => .int (i * j)) (qVar 1) (qC (.int 48271))) (qOp (qIC (fun _ j => 0 < j) fun i j => .int (i % j)) (qCB bInt (qCons (qVar 2) qNil)) (qC (.int 2147483587)))) (qC (.int 307))) qNil)) (qC (.int 2147483629)))))
    (sRet (qLstM (qCons (qFreeze (qCB bList (qCons (qSlL (qVar 0) qNoPart (qPart (qC (.int 63)))) qNil))) (qCons (qC (.int 0)) (qCons (qC (.int 0)) (qCons (qVar 1) (qCons (qC (.int 0)) qNil)))))))))
/-- _law_draw: 0 _law_bag_here, 1 _law_many, 2 _law_item, 3 _law_digit -/
def qb_law_draw (A : Adr) : QS :=
  (sOpen (sSeq (sSub (qVar 0) (qC (.int 4)) (qOp qAdd (qOp vIx (qVar 0) (qC (.int 4))) (qC (.int 1))))
    (sSeq (sIf (qAnd (qB (qOp vEq (qOp vIx (qVar 0) (qC (.int 2))) (qC (.int 0)))) (qB (qOp (qI0 fun i j => .bl (decide (i < j))) (qOp vIx (qVar 0) (qC (.int 1))) (qCB bLen (qCons (qOp vIx (qVar 0) (qC (.int 0))) qNil))))) (sSeq (sAsg (.nm 2) (qOp vIx (qOp vIx (qVar 0) (qC (.int 0))) (qOp vIx (qVar 0) (qC (.int 1)))))
    (sSeq (sSub (qVar 0) (qC (.int 1)) (qOp qAdd (qOp vIx (qVar 0) (qC (.int 1))) (qC (.int 1))))
    (sIf (qB (qOp (qI0 fun i j => .bl (decide (j ≤ i))) (qVar 2) (qOp qPow (qC (.int 10)) (qC (.int 18))))) (sSub (qVar 0) (qC (.int 2)) (qVar 2)) (sSub (qVar 0) (qC (.int 3)) (qOp (qIC (fun _ j => 0 < j) fun i j => .int (i % j)) (qCB bInt (qCons (qOp qAdd (qOp qAdd (qOp (qIC CM fun i j => .int (i * j)) (qOp vIx (qVar 0) (qC (.int 3))) (qC (.int 69621))) (qOp (qIC CM fun i j => .int (i * j)) (qOp (qIC (fun _ j => 0 < j) fun i j => .int (i % j)) (qCB bInt (qCons (qVar 2) qNil)) (qC (.int 2147483549))) (qC (.int 30103)))) (qC (.int 89))) qNil)) (qC (.int 2147483629))))))) sNext)
    (sSeq (sIf (qB (qOp (qI0 fun i j => .bl (decide (j < i))) (qOp vIx (qVar 0) (qC (.int 2))) (qC (.int 0)))) (sSeq (sAsg (.nm 3) (qOp (qIC (fun _ j => 0 < j) fun i j => .int (i % j)) (qCB bInt (qCons (qOp vIx (qVar 0) (qC (.int 2))) qNil)) (qVar 1)))
    (sSeq (sSub (qVar 0) (qC (.int 2)) (qOp (qIC CDivW fun i j => .int (i / j)) (qOp vIx (qVar 0) (qC (.int 2))) (qVar 1)))
    (sRet (qVar 3)))) sNext)
    (sSeq (sSub (qVar 0) (qC (.int 3)) (qOp (qIC (fun _ j => 0 < j) fun i j => .int (i % j)) (qCB bInt (qCons (qOp qAdd (qOp qAdd (qOp qPow (qOp vIx (qVar 0) (qC (.int 3))) (qC (.int 3))) (qOp (qIC CM fun i j => .int (i * j)) (qOp vIx (qVar 0) (qC (.int 4))) (qC (.int 1299709)))) (qC (.int 60013))) qNil)) (qC (.int 2147483629))))
    (sRet (qOp (qIC (fun _ j => 0 < j) fun i j => .int (i % j)) (qCB bInt (qCons (qOp qAdd (qOp (qIC CDivW fun i j => .int (i / j)) (qOp vIx (qVar 0) (qC (.int 3))) (qC (.int 97))) (qOp (qIC CM fun i j => .int (i * j)) (qOp (qIC (fun _ j => 0 < j) fun i j => .int (i % j)) (qCB bInt (qCons (qOp vIx (qVar 0) (qC (.int 3))) qNil)) (qC (.int 7901))) (qC (.int 67)))) qNil)) (qVar 1))))))))
/-- _law_of: 0 _law_bag_here, 1 _law_things -/
def qb_law_of (A : Adr) : QS :=
  (sRet (qOp vIx (qVar 1) (qCall (sp_law_draw A) (qCons (qVar 0) (qCons (qCB bLen (qCons (qVar 1) qNil)) qNil)))))
/-- _law_last_made: 0 _law_x, 1 _law_y, 2 _law_rows, 3 _law_one, 4 _law_two -/
def qb_law_last_made (A : Adr) : QS :=
  (sSeq (sAsg (.nm 2) (qLstM qNil))
    (sSeq (sAsg (.nm 3) (qMk1 A.UnknownName "name" (qVar 0)))
    (sSeq (sAsg (.nm 4) (qMk1 A.UnknownName "name" (qVar 0)))
    (sSeq (sExpr (qBM "list" (mtL gAppend) (qVar 2) (qCons (qLstF (qCons (qC (.str "UnknownName")) (qCons (qC (.str "Missing")) (qCons (qLstF (qCons (qVar 3) (qCons (qVar 4) qNil))) (qCons (qLstF (qCons (qLstF (qCons (qKf A.UnknownName "name" (qVar 3)) qNil)) (qCons (qLstF (qCons (qKf A.UnknownName "name" (qVar 4)) qNil)) qNil))) qNil))))) qNil)))
    (sSeq (sAsg (.nm 3) (qMk1 A.UnknownChannel "channel" (qVar 0)))
    (sSeq (sAsg (.nm 4) (qMk1 A.UnknownChannel "channel" (qVar 0)))
    (sSeq (sExpr (qBM "list" (mtL gAppend) (qVar 2) (qCons (qLstF (qCons (qC (.str "UnknownChannel")) (qCons (qC (.str "Missing")) (qCons (qLstF (qCons (qVar 3) (qCons (qVar 4) qNil))) (qCons (qLstF (qCons (qLstF (qCons (qKf A.UnknownChannel "channel" (qVar 3)) qNil)) (qCons (qLstF (qCons (qKf A.UnknownChannel "channel" (qVar 4)) qNil)) qNil))) qNil))))) qNil)))
    (sSeq (sAsg (.nm 3) (qMk1 A.UnknownHop "hop" (qVar 0)))
    (sSeq (sAsg (.nm 4) (qMk1 A.UnknownHop "hop" (qVar 0)))
    (sSeq (sExpr (qBM "list" (mtL gAppend) (qVar 2) (qCons (qLstF (qCons (qC (.str "UnknownHop")) (qCons (qC (.str "Missing")) (qCons (qLstF (qCons (qVar 3) (qCons (qVar 4) qNil))) (qCons (qLstF (qCons (qLstF (qCons (qKf A.UnknownHop "hop" (qVar 3)) qNil)) (qCons (qLstF (qCons (qKf A.UnknownHop "hop" (qVar 4)) qNil)) qNil))) qNil))))) qNil)))
    (sSeq (sAsg (.nm 3) (qMk1 A.NoSuchLetter "number" (qVar 0)))
    (sSeq (sAsg (.nm 4) (qMk1 A.NoSuchLetter "number" (qVar 0)))
    (sSeq (sExpr (qBM "list" (mtL gAppend) (qVar 2) (qCons (qLstF (qCons (qC (.str "NoSuchLetter")) (qCons (qC (.str "Missing")) (qCons (qLstF (qCons (qVar 3) (qCons (qVar 4) qNil))) (qCons (qLstF (qCons (qLstF (qCons (qKf A.NoSuchLetter "number" (qVar 3)) qNil)) (qCons (qLstF (qCons (qKf A.NoSuchLetter "number" (qVar 4)) qNil)) qNil))) qNil))))) qNil)))
    (sSeq (sAsg (.nm 3) (qMk1 A.NoSuchTick "tick" (qVar 0)))
    (sSeq (sAsg (.nm 4) (qMk1 A.NoSuchTick "tick" (qVar 0)))
    (sSeq (sExpr (qBM "list" (mtL gAppend) (qVar 2) (qCons (qLstF (qCons (qC (.str "NoSuchTick")) (qCons (qC (.str "Missing")) (qCons (qLstF (qCons (qVar 3) (qCons (qVar 4) qNil))) (qCons (qLstF (qCons (qLstF (qCons (qKf A.NoSuchTick "tick" (qVar 3)) qNil)) (qCons (qLstF (qCons (qKf A.NoSuchTick "tick" (qVar 4)) qNil)) qNil))) qNil))))) qNil)))
    (sSeq (sAsg (.nm 3) (qMk1 A.Started "tick" (qVar 0)))
    (sSeq (sAsg (.nm 4) (qMk1 A.Started "tick" (qVar 0)))
    (sSeq (sExpr (qBM "list" (mtL gAppend) (qVar 2) (qCons (qLstF (qCons (qC (.str "Started")) (qCons (qC (.str "Refused")) (qCons (qLstF (qCons (qVar 3) (qCons (qVar 4) qNil))) (qCons (qLstF (qCons (qLstF (qCons (qKf A.Started "tick" (qVar 3)) qNil)) (qCons (qLstF (qCons (qKf A.Started "tick" (qVar 4)) qNil)) qNil))) qNil))))) qNil)))
    (sSeq (sAsg (.nm 3) (qMk1 A.NotStrange "name" (qVar 0)))
    (sSeq (sAsg (.nm 4) (qMk1 A.NotStrange "name" (qVar 0)))
    (sSeq (sExpr (qBM "list" (mtL gAppend) (qVar 2) (qCons (qLstF (qCons (qC (.str "NotStrange")) (qCons (qC (.str "Refused")) (qCons (qLstF (qCons (qVar 3) (qCons (qVar 4) qNil))) (qCons (qLstF (qCons (qLstF (qCons (qKf A.NotStrange "name" (qVar 3)) qNil)) (qCons (qLstF (qCons (qKf A.NotStrange "name" (qVar 4)) qNil)) qNil))) qNil))))) qNil)))
    (sSeq (sAsg (.nm 3) (qMk1 A.NotShaky "link" (qVar 0)))
    (sSeq (sAsg (.nm 4) (qMk1 A.NotShaky "link" (qVar 0)))
    (sSeq (sExpr (qBM "list" (mtL gAppend) (qVar 2) (qCons (qLstF (qCons (qC (.str "NotShaky")) (qCons (qC (.str "Refused")) (qCons (qLstF (qCons (qVar 3) (qCons (qVar 4) qNil))) (qCons (qLstF (qCons (qLstF (qCons (qKf A.NotShaky "link" (qVar 3)) qNil)) (qCons (qLstF (qCons (qKf A.NotShaky "link" (qVar 4)) qNil)) qNil))) qNil))))) qNil)))
    (sSeq (sAsg (.nm 3) (qMk1 A.Unseen "flow" (qVar 0)))
    (sSeq (sAsg (.nm 4) (qMk1 A.Unseen "flow" (qVar 0)))
    (sSeq (sExpr (qBM "list" (mtL gAppend) (qVar 2) (qCons (qLstF (qCons (qC (.str "Unseen")) (qCons (qC (.str "Refused")) (qCons (qLstF (qCons (qVar 3) (qCons (qVar 4) qNil))) (qCons (qLstF (qCons (qLstF (qCons (qKf A.Unseen "flow" (qVar 3)) qNil)) (qCons (qLstF (qCons (qKf A.Unseen "flow" (qVar 4)) qNil)) qNil))) qNil))))) qNil)))
    (sRet (qVar 2))))))))))))))))))))))))))))))
/-- _law_like: 0 _law_told, 1 _law_due, 2 _law_a, 3 _law_b -/
def qb_law_like (n : Nat) (A : Adr) : QS :=
  (sSeq (sIf (qB (qIsiT ["list", "tuple"] (qVar 1))) (sSeq (sIf (qOr (qB (qOp vNe (qIsi "list" (qVar 0)) (qIsi "list" (qVar 1)))) (qB (qOp vNe (qIsi "tuple" (qVar 0)) (qIsi "tuple" (qVar 1))))) (sRet (qC (.bl false))) sNext)
    (sRet (qAndV (qOp vEq (qCB bLen (qCons (qVar 0) qNil)) (qCB bLen (qCons (qVar 1) qNil))) (qCB bAll (qCons (qFreeze (qLc (iZipD (qCons (qVar 0) (qCons (qVar 1) qNil))) (.tp [(.nm 2), (.nm 3)]) qYes (qCall (sp_law_like n A) (qCons (qVar 2) (qCons (qVar 3) qNil))) [2, 3])) qNil))))) sNext)
    (sSeq (sIf (qOr (qB (qOp qIsN (qVar 1) (qC .non))) (qB (qOp qIsN (qVar 0) (qC .non)))) (sRet (qAndV (qOp qIsN (qVar 1) (qC .non)) (qOp qIsN (qVar 0) (qC .non)))) sNext)
    (sSeq (sIf (qOr (qB (qIsiT ["list", "tuple"] (qVar 0))) (qB (qOp vNe (qIsi "bool" (qVar 0)) (qIsi "bool" (qVar 1))))) (sRet (qC (.bl false))) sNext)
    (sSeq (sIf (qOr (qB (qOp vNe (qIsi "str" (qVar 0)) (qIsi "str" (qVar 1)))) (qB (qOp vNe (qIsi "int" (qVar 0)) (qIsi "int" (qVar 1))))) (sRet (qC (.bl false))) sNext)
    (sRet (qOp vEq (qVar 0) (qVar 1)))))))
/-- _law_odd: 0 _law_bag_here, 1 _law_some -/
def qb_law_odd (A : Adr) : QS :=
  (sSeq (sAsg (.nm 1) (qLstF (qCons (qC .non) (qCons (qC (.bl true)) (qCons (qC (.bl false)) (qCons (qC (.int 0)) (qCons (qC (.int 1)) (qCons (qNeg (qC (.int 1))) (qCons (qC (.int 7)) (qCons (qC (.str "")) (qCons (qC (.str "a")) (qCons (qC (.str "4")) (qCons (qC (.str "1/2")) (qCons (qTup qNil) (qCons (qTup (qCons (qC (.int 1)) qNil)) (qCons (qTup (qCons (qC (.int 1)) (qCons (qC (.int 1)) qNil))) (qCons (qTup (qCons (qC (.int 3)) (qCons (qC (.int 2)) qNil))) (qCons (qLstF (qCons (qC (.int 1)) (qCons (qC (.int 1)) qNil))) (qCons (qTup (qCons (qC (.int 2)) (qCons (qC (.int 4)) qNil))) (qCons (qTup (qCons (qC (.int 0)) (qCons (qC (.int 2)) qNil))) qNil))))))))))))))))))))
    (sSeq (sAsg (.nm 1) (qOp qAdd (qVar 1) (qLstF (qCons (qTup (qCons (qC (.int 1)) (qCons (qC (.int 0)) qNil))) (qCons (qTup (qCons (qNeg (qC (.int 1))) (qCons (qC (.int 1)) qNil))) (qCons (qTup (qCons (qC (.bl true)) (qCons (qC (.int 1)) qNil))) (qCons (qTup (qCons (qC (.int 1)) (qCons (qC (.bl true)) qNil))) (qCons (qTup (qCons (qC (.str "1")) (qCons (qC (.int 1)) qNil))) (qCons (qTup (qCons (qTup (qCons (qC (.int 1)) (qCons (qC (.int 1)) qNil))) (qCons (qTup (qCons (qC (.int 2)) (qCons (qC (.int 1)) qNil))) qNil))) (qCons (qTup (qCons (qTup (qCons (qC (.int 2)) (qCons (qC (.int 1)) qNil))) (qCons (qTup (qCons (qC (.int 1)) (qCons (qC (.int 1)) qNil))) qNil))) (qCons (qTup (qCons (qC .non) (qCons (qC .non) qNil))) qNil)))))))))))
    (sSeq (sAsg (.nm 1) (qOp qAdd (qVar 1) (qLstF (qCons (qTup (qCons (qC (.int 1)) (qCons (qC (.int 1)) (qCons (qC (.int 1)) qNil)))) (qCons (qLstF qNil) (qCons (qLstF (qCons (qTup qNil) qNil)) (qCons (qLstF (qCons (qTup (qCons (qC (.int 1)) (qCons (qC (.int 1)) qNil))) (qCons (qTup (qCons (qC (.int 2)) (qCons (qC (.int 1)) qNil))) qNil))) (qCons (qTup (qCons (qTup (qCons (qC (.int 1)) (qCons (qC (.int 1)) qNil))) (qCons (qLstF (qCons (qC (.int 2)) (qCons (qC (.int 1)) qNil))) qNil))) (qCons (qTup (qCons (qTup (qCons (qC (.int 1)) (qCons (qC (.int 1)) qNil))) qNil)) (qCons (qTup (qCons (qTup (qCons (qTup (qCons (qC (.int 1)) (qCons (qC (.int 2)) qNil))) (qCons (qC (.int 3)) qNil))) (qCons (qLstF (qCons (qC (.int 4)) (qCons (qTup (qCons (qC .non) qNil)) qNil))) qNil))) (qCons (qNeg (qC (.int 1000))) qNil)))))))))))
    (sSeq (sAsg (.nm 1) (qOp qAdd (qVar 1) (qLstF (qCons (qTup (qCons (qC (.int 1)) (qCons (qNeg (qC (.int 1))) qNil))) (qCons (qTup (qCons (qC (.int 0)) (qCons (qC (.int 0)) qNil))) (qCons (qTup (qCons (qTup (qCons (qC (.int 0)) (qCons (qC (.int 1)) qNil))) (qCons (qTup (qCons (qC (.int 4)) (qCons (qC (.int 2)) qNil))) qNil))) (qCons (qTup (qCons (qTup (qCons (qC (.int 1)) (qCons (qC (.int 1)) qNil))) (qCons (qTup (qCons (qC (.int 1)) (qCons (qC (.int 1)) qNil))) qNil))) (qCons (qC (.str "own")) (qCons (qC (.str "level")) (qCons (qTup (qCons (qC (.str "a")) qNil)) (qCons (qLstF (qCons (qC (.str "a")) qNil)) (qCons (qTup (qCons (qC (.int 1000)) (qCons (qC (.int 1)) qNil))) qNil))))))))))))
    (sRet (qCall (sp_law_of A) (qCons (qVar 0) (qCons (qVar 1) qNil))))))))
/-- _law_word: 0 _law_bag_here, 1 _law_many, 2 _law_k -/
def qb_law_word (A : Adr) : QS :=
  (sSeq (sIf (qB (qOp vEq (qCall (sp_law_draw A) (qCons (qVar 0) (qCons (qC (.int 3)) qNil))) (qC (.int 0)))) (sRet (qCall (sp_law_of A) (qCons (qVar 0) (qCons (qLstF (qCons (qC (.str "a")) (qCons (qC (.str "b")) (qCons (qC (.str "own")) (qCons (qC (.str "end")) (qCons (qC (.str "gone")) (qCons (qC (.str "wish")) (qCons (qC (.str "over")) (qCons (qC (.str "link")) (qCons (qC (.str "flow")) (qCons (qC (.str "house")) (qCons (qC (.str "true")) (qCons (qC (.str "level")) (qCons (qC (.str "zzzzzz")) (qCons (qC (.str "self")) (qCons (qC (.str "none")) (qCons (qC (.str "top")) qNil))))))))))))))))) qNil)))) sNext)
    (sSeq (sAsg (.nm 1) (qOp qAdd (qC (.int 1)) (qCall (sp_law_draw A) (qCons (qVar 0) (qCons (qC (.int 6)) qNil)))))
    (sRet (qJoinL (qC (.str "")) (qFreeze (qLc (iRange1 (qCons (qVar 1) qNil)) (.nm 2) qYes (qCall (sp_law_of A) (qCons (qVar 0) (qCons (qC (.str "abcdefghijklmnopqrstuvwxyz")) qNil))) [2]))))))
/-- _law_pair: 0 _law_a, 1 _law_b, 2 _law_x, 3 _law_y -/
def qb_law_pair (A : Adr) : QS :=
  (sSeq (sPar 2 3 (qCons (qVar 0) (qCons (qVar 1) qNil)))
    (sSeq (sWhile (qB (qOp (qI0 fun i j => .bl (decide (j < i))) (qVar 3) (qC (.int 0)))) (sPar 2 3 (qCons (qVar 3) (qCons (qOp (qIC (fun _ j => 0 < j) fun i j => .int (i % j)) (qCB bInt (qCons (qVar 2) qNil)) (qVar 3)) qNil))))
    (sRet (qTup (qCons (qOp (qIC CDivW fun i j => .int (i / j)) (qVar 0) (qVar 2)) (qCons (qOp (qIC CDivW fun i j => .int (i / j)) (qVar 1) (qVar 2)) qNil))))))
/-- _law_wide: 0 _law_bag_here, 1 _law_figures, 2 _law_number, 3 _law_size, 4 _law_k -/
def qb_law_wide (A : Adr) : QS :=
  (sSeq (sAsg (.tp [(.nm 2), (.nm 3)]) (qTup (qCons (qC (.int 0)) (qCons (qC (.int 1)) qNil))))
    (sSeq (sFor (iRange1 (qCons (qOp (qIC CDivW fun i j => .int (i / j)) (qVar 1) (qC (.int 5))) qNil)) (.nm 4) (sSeq (sAsg (.nm 2) (qOp qAdd (qVar 2) (qOp (qIC CM fun i j => .int (i * j)) (qCall (sp_law_draw A) (qCons (qVar 0) (qCons (qC (.int 100000)) qNil))) (qVar 3))))
    (sAsg (.nm 3) (qOp (qIC CM fun i j => .int (i * j)) (qVar 3) (qC (.int 100000))))))
    (sSeq (sIf (qB (qOp (qI0 fun i j => .bl (decide (j < i))) (qOp (qIC (fun _ j => 0 < j) fun i j => .int (i % j)) (qCB bInt (qCons (qVar 1) qNil)) (qC (.int 5))) (qC (.int 0)))) (sAsg (.nm 2) (qOp qAdd (qVar 2) (qOp (qIC CM fun i j => .int (i * j)) (qCall (sp_law_draw A) (qCons (qVar 0) (qCons (qOp vIx (qTup (qCons (qC (.int 1)) (qCons (qC (.int 10)) (qCons (qC (.int 100)) (qCons (qC (.int 1000)) (qCons (qC (.int 10000)) qNil)))))) (qOp (qIC (fun _ j => 0 < j) fun i j => .int (i % j)) (qCB bInt (qCons (qVar 1) qNil)) (qC (.int 5)))) qNil))) (qVar 3)))) sNext)
    (sRet (qVar 2)))))
/-- _law_great: 0 _law_bag_here, 1 _law_a, 2 _law_b, 3 _law_c -/
def qb_law_great (A : Adr) : QS :=
  (sSeq (sAsg (.nm 1) (qCall (sp_law_wide A) (qCons (qVar 0) (qCons (qC (.int 10)) qNil))))
    (sSeq (sAsg (.nm 2) (qCall (sp_law_wide A) (qCons (qVar 0) (qCons (qC (.int 10)) qNil))))
    (sSeq (sAsg (.nm 3) (qCall (sp_law_wide A) (qCons (qVar 0) (qCons (qC (.int 10)) qNil))))
    (sRet (qCall (sp_law_of A) (qCons (qVar 0) (qCons (qLstF (qCons (qVar 1) (qCons (qOp qAdd (qOp (qIC CM fun i j => .int (i * j)) (qVar 1) (qOp qPow (qC (.int 10)) (qC (.int 10)))) (qVar 2)) (qCons (qOp qAdd (qOp (qIC CM fun i j => .int (i * j)) (qOp qAdd (qOp (qIC CM fun i j => .int (i * j)) (qVar 1) (qOp qPow (qC (.int 10)) (qC (.int 10)))) (qVar 2)) (qOp qPow (qC (.int 10)) (qC (.int 10)))) (qVar 3)) (qCons (qOp qAdd (qOp (qIC CM fun i j => .int (i * j)) (qOp qAdd (qOp (qIC CM fun i j => .int (i * j)) (qOp qAdd (qOp (qIC CM fun i j => .int (i * j)) (qVar 1) (qOp qPow (qC (.int 10)) (qC (.int 10)))) (qVar 2)) (qOp qPow (qC (.int 10)) (qC (.int 10)))) (qVar 3)) (qOp qPow (qC (.int 10)) (qC (.int 4)))) (qCall (sp_law_draw A) (qCons (qVar 0) (qCons (qOp qPow (qC (.int 10)) (qC (.int 4))) qNil)))) qNil))))) qNil)))))))
/-- _law_amount: 0 _law_bag_here, 1 _law_shape -/
def qb_law_amount (A : Adr) : QS :=
  (sSeq (sAsg (.nm 1) (qCall (sp_law_draw A) (qCons (qVar 0) (qCons (qC (.int 8)) qNil))))
    (sSeq (sIf (qB (qOp vEq (qVar 1) (qC (.int 0)))) (sRet (qCall (sp_law_of A) (qCons (qVar 0) (qCons (qLstF (qCons (qTup (qCons (qC (.int 0)) (qCons (qC (.int 1)) qNil))) (qCons (qTup (qCons (qC (.int 1)) (qCons (qC (.int 1)) qNil))) (qCons (qTup (qCons (qC (.int 1000)) (qCons (qC (.int 1)) qNil))) (qCons (qTup (qCons (qC (.int 1)) (qCons (qC (.int 12)) qNil))) (qCons (qTup (qCons (qC (.int 999)) (qCons (qC (.int 1)) qNil))) (qCons (qTup (qCons (qC (.int 1001)) (qCons (qC (.int 1)) qNil))) (qCons (qTup (qCons (qC (.int 12001)) (qCons (qC (.int 12)) qNil))) (qCons (qTup (qCons (qC (.int 1)) (qCons (qC (.int 13)) qNil))) (qCons (qTup (qCons (qC (.int 2)) (qCons (qC (.int 1)) qNil))) qNil)))))))))) qNil)))) sNext)
    (sSeq (sIf (qB (qOp (qI0 fun i j => .bl (decide (i < j))) (qVar 1) (qC (.int 5)))) (sRet (qCall (sp_law_pair A) (qCons (qCall (sp_law_draw A) (qCons (qVar 0) (qCons (qC (.int 40)) qNil))) (qCons (qOp qAdd (qC (.int 1)) (qCall (sp_law_draw A) (qCons (qVar 0) (qCons (qC (.int 12)) qNil)))) qNil)))) sNext)
    (sSeq (sIf (qB (qOp vEq (qVar 1) (qC (.int 5)))) (sRet (qCall (sp_law_pair A) (qCons (qCall (sp_law_wide A) (qCons (qVar 0) (qCons (qC (.int 9)) qNil))) (qCons (qOp qAdd (qC (.int 1)) (qCall (sp_law_draw A) (qCons (qVar 0) (qCons (qOp (qI0 fun i j => .int (i - j)) (qOp qPow (qC (.int 10)) (qC (.int 9))) (qC (.int 1))) qNil)))) qNil)))) sNext)
    (sSeq (sIf (qB (qOp vEq (qVar 1) (qC (.int 6)))) (sRet (qCall (sp_law_pair A) (qCons (qCall (sp_law_great A) (qCons (qVar 0) qNil)) (qCons (qOp qAdd (qC (.int 1)) (qCall (sp_law_draw A) (qCons (qVar 0) (qCons (qC (.int 12)) qNil)))) qNil)))) sNext)
    (sRet (qCall (sp_law_pair A) (qCons (qCall (sp_law_great A) (qCons (qVar 0) qNil)) (qCons (qCB bMax2 (qCons (qC (.int 1)) (qCons (qCall (sp_law_great A) (qCons (qVar 0) qNil)) qNil))) qNil)))))))))
/-- _law_first_made: 0 _law_x, 1 _law_y, 2 _law_rows, 3 _law_one, 4 _law_two -/
def qb_law_first_made (A : Adr) : QS :=
  (sSeq (sAsg (.nm 2) (qLstM qNil))
    (sSeq (sAsg (.nm 3) (qMk1 A.BadAmount "value" (qVar 0)))
    (sSeq (sAsg (.nm 4) (qMk1 A.BadAmount "value" (qVar 0)))
    (sSeq (sExpr (qBM "list" (mtL gAppend) (qVar 2) (qCons (qLstF (qCons (qC (.str "BadAmount")) (qCons (qC (.str "BandError")) (qCons (qLstF (qCons (qVar 3) (qCons (qVar 4) qNil))) (qCons (qLstF (qCons (qLstF (qCons (qKf A.BadAmount "value" (qVar 3)) qNil)) (qCons (qLstF (qCons (qKf A.BadAmount "value" (qVar 4)) qNil)) qNil))) qNil))))) qNil)))
    (sSeq (sAsg (.nm 3) (qMk1 A.BadLink "what" (qVar 0)))
    (sSeq (sAsg (.nm 4) (qMk1 A.BadLink "what" (qVar 0)))
    (sSeq (sExpr (qBM "list" (mtL gAppend) (qVar 2) (qCons (qLstF (qCons (qC (.str "BadLink")) (qCons (qC (.str "BandError")) (qCons (qLstF (qCons (qVar 3) (qCons (qVar 4) qNil))) (qCons (qLstF (qCons (qLstF (qCons (qKf A.BadLink "what" (qVar 3)) qNil)) (qCons (qLstF (qCons (qKf A.BadLink "what" (qVar 4)) qNil)) qNil))) qNil))))) qNil)))
    (sSeq (sAsg (.nm 3) (qMk1 A.BadFlow "what" (qVar 0)))
    (sSeq (sAsg (.nm 4) (qMk1 A.BadFlow "what" (qVar 0)))
    (sSeq (sExpr (qBM "list" (mtL gAppend) (qVar 2) (qCons (qLstF (qCons (qC (.str "BadFlow")) (qCons (qC (.str "BandError")) (qCons (qLstF (qCons (qVar 3) (qCons (qVar 4) qNil))) (qCons (qLstF (qCons (qLstF (qCons (qKf A.BadFlow "what" (qVar 3)) qNil)) (qCons (qLstF (qCons (qKf A.BadFlow "what" (qVar 4)) qNil)) qNil))) qNil))))) qNil)))
    (sSeq (sAsg (.nm 3) (qMk1 A.BadAge "age" (qVar 0)))
    (sSeq (sAsg (.nm 4) (qMk1 A.BadAge "age" (qVar 0)))
    (sSeq (sExpr (qBM "list" (mtL gAppend) (qVar 2) (qCons (qLstF (qCons (qC (.str "BadAge")) (qCons (qC (.str "BandError")) (qCons (qLstF (qCons (qVar 3) (qCons (qVar 4) qNil))) (qCons (qLstF (qCons (qLstF (qCons (qKf A.BadAge "age" (qVar 3)) qNil)) (qCons (qLstF (qCons (qKf A.BadAge "age" (qVar 4)) qNil)) qNil))) qNil))))) qNil)))
    (sSeq (sAsg (.nm 3) (qMk1 A.BadPart "at" (qVar 0)))
    (sSeq (sAsg (.nm 4) (qMk1 A.BadPart "at" (qVar 0)))
    (sSeq (sExpr (qBM "list" (mtL gAppend) (qVar 2) (qCons (qLstF (qCons (qC (.str "BadPart")) (qCons (qC (.str "BandError")) (qCons (qLstF (qCons (qVar 3) (qCons (qVar 4) qNil))) (qCons (qLstF (qCons (qLstF (qCons (qKf A.BadPart "at" (qVar 3)) qNil)) (qCons (qLstF (qCons (qKf A.BadPart "at" (qVar 4)) qNil)) qNil))) qNil))))) qNil)))
    (sSeq (sAsg (.nm 3) (qMk2 A.TooMany "what" "count" (qVar 0) (qVar 1)))
    (sSeq (sAsg (.nm 4) (qMk2K A.TooMany "what" "count" (qVar 1) (qVar 0)))
    (sSeq (sExpr (qBM "list" (mtL gAppend) (qVar 2) (qCons (qLstF (qCons (qC (.str "TooMany")) (qCons (qC (.str "BandError")) (qCons (qLstF (qCons (qVar 3) (qCons (qVar 4) qNil))) (qCons (qLstF (qCons (qLstF (qCons (qKf A.TooMany "what" (qVar 3)) (qCons (qKf A.TooMany "count" (qVar 3)) qNil))) (qCons (qLstF (qCons (qKf A.TooMany "what" (qVar 4)) (qCons (qKf A.TooMany "count" (qVar 4)) qNil))) qNil))) qNil))))) qNil)))
    (sSeq (sAsg (.nm 3) (qMk1 A.DuplicateName "name" (qVar 0)))
    (sSeq (sAsg (.nm 4) (qMk1 A.DuplicateName "name" (qVar 0)))
    (sSeq (sExpr (qBM "list" (mtL gAppend) (qVar 2) (qCons (qLstF (qCons (qC (.str "DuplicateName")) (qCons (qC (.str "BandError")) (qCons (qLstF (qCons (qVar 3) (qCons (qVar 4) qNil))) (qCons (qLstF (qCons (qLstF (qCons (qKf A.DuplicateName "name" (qVar 3)) qNil)) (qCons (qLstF (qCons (qKf A.DuplicateName "name" (qVar 4)) qNil)) qNil))) qNil))))) qNil)))
    (sSeq (sAsg (.nm 3) (qMk1 A.Idle "link" (qVar 0)))
    (sSeq (sAsg (.nm 4) (qMk1 A.Idle "link" (qVar 0)))
    (sSeq (sExpr (qBM "list" (mtL gAppend) (qVar 2) (qCons (qLstF (qCons (qC (.str "Idle")) (qCons (qC (.str "BandError")) (qCons (qLstF (qCons (qVar 3) (qCons (qVar 4) qNil))) (qCons (qLstF (qCons (qLstF (qCons (qKf A.Idle "link" (qVar 3)) qNil)) (qCons (qLstF (qCons (qKf A.Idle "link" (qVar 4)) qNil)) qNil))) qNil))))) qNil)))
    (sSeq (sAsg (.nm 3) (qMk2 A.Overpromised "link" "over" (qVar 0) (qVar 1)))
    (sSeq (sAsg (.nm 4) (qMk2K A.Overpromised "link" "over" (qVar 1) (qVar 0)))
    (sSeq (sExpr (qBM "list" (mtL gAppend) (qVar 2) (qCons (qLstF (qCons (qC (.str "Overpromised")) (qCons (qC (.str "BandError")) (qCons (qLstF (qCons (qVar 3) (qCons (qVar 4) qNil))) (qCons (qLstF (qCons (qLstF (qCons (qKf A.Overpromised "link" (qVar 3)) (qCons (qKf A.Overpromised "over" (qVar 3)) qNil))) (qCons (qLstF (qCons (qKf A.Overpromised "link" (qVar 4)) (qCons (qKf A.Overpromised "over" (qVar 4)) qNil))) qNil))) qNil))))) qNil)))
    (sSeq (sAsg (.nm 3) (qMk2 A.Small "flow" "link" (qVar 0) (qVar 1)))
    (sSeq (sAsg (.nm 4) (qMk2K A.Small "flow" "link" (qVar 1) (qVar 0)))
    (sSeq (sExpr (qBM "list" (mtL gAppend) (qVar 2) (qCons (qLstF (qCons (qC (.str "Small")) (qCons (qC (.str "BandError")) (qCons (qLstF (qCons (qVar 3) (qCons (qVar 4) qNil))) (qCons (qLstF (qCons (qLstF (qCons (qKf A.Small "flow" (qVar 3)) (qCons (qKf A.Small "link" (qVar 3)) qNil))) (qCons (qLstF (qCons (qKf A.Small "flow" (qVar 4)) (qCons (qKf A.Small "link" (qVar 4)) qNil))) qNil))) qNil))))) qNil)))
    (sSeq (sAsg (.nm 3) (qMk2 A.BadText "line" "word" (qVar 0) (qVar 1)))
    (sSeq (sAsg (.nm 4) (qMk2K A.BadText "line" "word" (qVar 1) (qVar 0)))
    (sSeq (sExpr (qBM "list" (mtL gAppend) (qVar 2) (qCons (qLstF (qCons (qC (.str "BadText")) (qCons (qC (.str "BandError")) (qCons (qLstF (qCons (qVar 3) (qCons (qVar 4) qNil))) (qCons (qLstF (qCons (qLstF (qCons (qKf A.BadText "line" (qVar 3)) (qCons (qKf A.BadText "word" (qVar 3)) qNil))) (qCons (qLstF (qCons (qKf A.BadText "line" (qVar 4)) (qCons (qKf A.BadText "word" (qVar 4)) qNil))) qNil))) qNil))))) qNil)))
    (sRet (qVar 2))))))))))))))))))))))))))))))))))))
/-- _law_middle_made: 0 _law_x, 1 _law_y, 2 _law_rows, 3 _law_one, 4 _law_two -/
def qb_law_middle_made (A : Adr) : QS :=
  (sSeq (sAsg (.nm 2) (qLstM qNil))
    (sSeq (sAsg (.nm 3) (qMk1 A.BadManner "flow" (qVar 0)))
    (sSeq (sAsg (.nm 4) (qMk1 A.BadManner "flow" (qVar 0)))
    (sSeq (sExpr (qBM "list" (mtL gAppend) (qVar 2) (qCons (qLstF (qCons (qC (.str "BadManner")) (qCons (qC (.str "BandError")) (qCons (qLstF (qCons (qVar 3) (qCons (qVar 4) qNil))) (qCons (qLstF (qCons (qLstF (qCons (qKf A.BadManner "flow" (qVar 3)) qNil)) (qCons (qLstF (qCons (qKf A.BadManner "flow" (qVar 4)) qNil)) qNil))) qNil))))) qNil)))
    (sSeq (sAsg (.nm 3) (qMk1 A.BadCapacity "link" (qVar 0)))
    (sSeq (sAsg (.nm 4) (qMk1 A.BadCapacity "link" (qVar 0)))
    (sSeq (sExpr (qBM "list" (mtL gAppend) (qVar 2) (qCons (qLstF (qCons (qC (.str "BadCapacity")) (qCons (qC (.str "BandError")) (qCons (qLstF (qCons (qVar 3) (qCons (qVar 4) qNil))) (qCons (qLstF (qCons (qLstF (qCons (qKf A.BadCapacity "link" (qVar 3)) qNil)) (qCons (qLstF (qCons (qKf A.BadCapacity "link" (qVar 4)) qNil)) qNil))) qNil))))) qNil)))
    (sSeq (sAsg (.nm 3) (qMk1 A.BadSharing "name" (qVar 0)))
    (sSeq (sAsg (.nm 4) (qMk1 A.BadSharing "name" (qVar 0)))
    (sSeq (sExpr (qBM "list" (mtL gAppend) (qVar 2) (qCons (qLstF (qCons (qC (.str "BadSharing")) (qCons (qC (.str "BandError")) (qCons (qLstF (qCons (qVar 3) (qCons (qVar 4) qNil))) (qCons (qLstF (qCons (qLstF (qCons (qKf A.BadSharing "name" (qVar 3)) qNil)) (qCons (qLstF (qCons (qKf A.BadSharing "name" (qVar 4)) qNil)) qNil))) qNil))))) qNil)))
    (sSeq (sAsg (.nm 3) (qMk1 A.BadBand "link" (qVar 0)))
    (sSeq (sAsg (.nm 4) (qMk1 A.BadBand "link" (qVar 0)))
    (sSeq (sExpr (qBM "list" (mtL gAppend) (qVar 2) (qCons (qLstF (qCons (qC (.str "BadBand")) (qCons (qC (.str "BandError")) (qCons (qLstF (qCons (qVar 3) (qCons (qVar 4) qNil))) (qCons (qLstF (qCons (qLstF (qCons (qKf A.BadBand "link" (qVar 3)) qNil)) (qCons (qLstF (qCons (qKf A.BadBand "link" (qVar 4)) qNil)) qNil))) qNil))))) qNil)))
    (sSeq (sExpr (qBM "list" (mtL gAppend) (qVar 2) (qCons (qLstF (qCons (qC (.str "NotPlain")) (qCons (qC (.str "BandError")) (qCons (qLstF (qCons (qMk0 A.NotPlain) qNil)) (qCons (qLstF (qCons (qLstF qNil) qNil)) qNil))))) qNil)))
    (sSeq (sAsg (.nm 3) (qMk1 A.Future "tick" (qVar 0)))
    (sSeq (sAsg (.nm 4) (qMk1 A.Future "tick" (qVar 0)))
    (sSeq (sExpr (qBM "list" (mtL gAppend) (qVar 2) (qCons (qLstF (qCons (qC (.str "Future")) (qCons (qC (.str "BandError")) (qCons (qLstF (qCons (qVar 3) (qCons (qVar 4) qNil))) (qCons (qLstF (qCons (qLstF (qCons (qKf A.Future "tick" (qVar 3)) qNil)) (qCons (qLstF (qCons (qKf A.Future "tick" (qVar 4)) qNil)) qNil))) qNil))))) qNil)))
    (sSeq (sAsg (.nm 3) (qMk1 A.Short "amount" (qVar 0)))
    (sSeq (sAsg (.nm 4) (qMk1 A.Short "amount" (qVar 0)))
    (sSeq (sExpr (qBM "list" (mtL gAppend) (qVar 2) (qCons (qLstF (qCons (qC (.str "Short")) (qCons (qC (.str "BandError")) (qCons (qLstF (qCons (qVar 3) (qCons (qVar 4) qNil))) (qCons (qLstF (qCons (qLstF (qCons (qKf A.Short "amount" (qVar 3)) qNil)) (qCons (qLstF (qCons (qKf A.Short "amount" (qVar 4)) qNil)) qNil))) qNil))))) qNil)))
    (sSeq (sAsg (.nm 3) (qMk1 A.BadValue "channel" (qVar 0)))
    (sSeq (sAsg (.nm 4) (qMk1 A.BadValue "channel" (qVar 0)))
    (sSeq (sExpr (qBM "list" (mtL gAppend) (qVar 2) (qCons (qLstF (qCons (qC (.str "BadValue")) (qCons (qC (.str "BandError")) (qCons (qLstF (qCons (qVar 3) (qCons (qVar 4) qNil))) (qCons (qLstF (qCons (qLstF (qCons (qKf A.BadValue "channel" (qVar 3)) qNil)) (qCons (qLstF (qCons (qKf A.BadValue "channel" (qVar 4)) qNil)) qNil))) qNil))))) qNil)))
    (sSeq (sAsg (.nm 3) (qMk2 A.BadState "what" "at" (qVar 0) (qVar 1)))
    (sSeq (sAsg (.nm 4) (qMk2K A.BadState "what" "at" (qVar 1) (qVar 0)))
    (sSeq (sExpr (qBM "list" (mtL gAppend) (qVar 2) (qCons (qLstF (qCons (qC (.str "BadState")) (qCons (qC (.str "BandError")) (qCons (qLstF (qCons (qVar 3) (qCons (qVar 4) qNil))) (qCons (qLstF (qCons (qLstF (qCons (qKf A.BadState "what" (qVar 3)) (qCons (qKf A.BadState "at" (qVar 3)) qNil))) (qCons (qLstF (qCons (qKf A.BadState "what" (qVar 4)) (qCons (qKf A.BadState "at" (qVar 4)) qNil))) qNil))) qNil))))) qNil)))
    (sSeq (sAsg (.nm 3) (qMk1 A.BadCount "value" (qVar 0)))
    (sSeq (sAsg (.nm 4) (qMk1 A.BadCount "value" (qVar 0)))
    (sSeq (sExpr (qBM "list" (mtL gAppend) (qVar 2) (qCons (qLstF (qCons (qC (.str "BadCount")) (qCons (qC (.str "BandError")) (qCons (qLstF (qCons (qVar 3) (qCons (qVar 4) qNil))) (qCons (qLstF (qCons (qLstF (qCons (qKf A.BadCount "value" (qVar 3)) qNil)) (qCons (qLstF (qCons (qKf A.BadCount "value" (qVar 4)) qNil)) qNil))) qNil))))) qNil)))
    (sSeq (sAsg (.nm 3) (qMk1 A.BadDeed "at" (qVar 0)))
    (sSeq (sAsg (.nm 4) (qMk1 A.BadDeed "at" (qVar 0)))
    (sSeq (sExpr (qBM "list" (mtL gAppend) (qVar 2) (qCons (qLstF (qCons (qC (.str "BadDeed")) (qCons (qC (.str "BandError")) (qCons (qLstF (qCons (qVar 3) (qCons (qVar 4) qNil))) (qCons (qLstF (qCons (qLstF (qCons (qKf A.BadDeed "at" (qVar 3)) qNil)) (qCons (qLstF (qCons (qKf A.BadDeed "at" (qVar 4)) qNil)) qNil))) qNil))))) qNil)))
    (sRet (qVar 2))))))))))))))))))))))))))))))))))
/-- _law_last_ones: 0 _law_error, 1 _law_found -/
def qb_law_last_ones (A : Adr) : QS :=
  (sSeq (sAsg (.nm 1) (qLstM qNil))
    (sSeq (sIf (qB (qIsK (ycs A) [false, false, false, false, false, false, false, false, false, false, false, false, false, false, false, false, false, false, false, false, false, false, true, false, false, false, false, false, false, false, false] (qVar 0))) (sExpr (qBM "list" (mtL gAppend) (qVar 1) (qCons (qC (.str "UnknownName")) qNil))) sNext)
    (sSeq (sIf (qB (qIsK (ycs A) [false, false, false, false, false, false, false, false, false, false, false, false, false, false, false, false, false, false, false, false, false, false, false, true, false, false, false, false, false, false, false] (qVar 0))) (sExpr (qBM "list" (mtL gAppend) (qVar 1) (qCons (qC (.str "UnknownChannel")) qNil))) sNext)
    (sSeq (sIf (qB (qIsK (ycs A) [false, false, false, false, false, false, false, false, false, false, false, false, false, false, false, false, false, false, false, false, false, false, false, false, true, false, false, false, false, false, false] (qVar 0))) (sExpr (qBM "list" (mtL gAppend) (qVar 1) (qCons (qC (.str "UnknownHop")) qNil))) sNext)
    (sSeq (sIf (qB (qIsK (ycs A) [false, false, false, false, false, false, false, false, false, false, false, false, false, false, false, false, false, false, false, false, false, false, false, false, false, true, false, false, false, false, false] (qVar 0))) (sExpr (qBM "list" (mtL gAppend) (qVar 1) (qCons (qC (.str "NoSuchLetter")) qNil))) sNext)
    (sSeq (sIf (qB (qIsK (ycs A) [false, false, false, false, false, false, false, false, false, false, false, false, false, false, false, false, false, false, false, false, false, false, false, false, false, false, true, false, false, false, false] (qVar 0))) (sExpr (qBM "list" (mtL gAppend) (qVar 1) (qCons (qC (.str "NoSuchTick")) qNil))) sNext)
    (sSeq (sIf (qB (qIsK (ycs A) [false, false, false, false, false, false, false, false, false, false, false, false, false, false, false, false, false, false, false, false, false, false, false, false, false, false, false, true, false, false, false] (qVar 0))) (sExpr (qBM "list" (mtL gAppend) (qVar 1) (qCons (qC (.str "Started")) qNil))) sNext)
    (sSeq (sIf (qB (qIsK (ycs A) [false, false, false, false, false, false, false, false, false, false, false, false, false, false, false, false, false, false, false, false, false, false, false, false, false, false, false, false, true, false, false] (qVar 0))) (sExpr (qBM "list" (mtL gAppend) (qVar 1) (qCons (qC (.str "NotStrange")) qNil))) sNext)
    (sSeq (sIf (qB (qIsK (ycs A) [false, false, false, false, false, false, false, false, false, false, false, false, false, false, false, false, false, false, false, false, false, false, false, false, false, false, false, false, false, true, false] (qVar 0))) (sExpr (qBM "list" (mtL gAppend) (qVar 1) (qCons (qC (.str "NotShaky")) qNil))) sNext)
    (sSeq (sIf (qB (qIsK (ycs A) [false, false, false, false, false, false, false, false, false, false, false, false, false, false, false, false, false, false, false, false, false, false, false, false, false, false, false, false, false, false, true] (qVar 0))) (sExpr (qBM "list" (mtL gAppend) (qVar 1) (qCons (qC (.str "Unseen")) qNil))) sNext)
    (sRet (qVar 1))))))))))))
/-- _law_middle_ones: 0 _law_error, 1 _law_found -/
def qb_law_middle_ones (A : Adr) : QS :=
  (sSeq (sAsg (.nm 1) (qLstM qNil))
    (sSeq (sIf (qB (qIsK (ycs A) [false, false, false, false, false, false, false, false, false, false, false, true, false, false, false, false, false, false, false, false, false, false, false, false, false, false, false, false, false, false, false] (qVar 0))) (sExpr (qBM "list" (mtL gAppend) (qVar 1) (qCons (qC (.str "BadManner")) qNil))) sNext)
    (sSeq (sIf (qB (qIsK (ycs A) [false, false, false, false, false, false, false, false, false, false, false, false, true, false, false, false, false, false, false, false, false, false, false, false, false, false, false, false, false, false, false] (qVar 0))) (sExpr (qBM "list" (mtL gAppend) (qVar 1) (qCons (qC (.str "BadCapacity")) qNil))) sNext)
    (sSeq (sIf (qB (qIsK (ycs A) [false, false, false, false, false, false, false, false, false, false, false, false, false, true, false, false, false, false, false, false, false, false, false, false, false, false, false, false, false, false, false] (qVar 0))) (sExpr (qBM "list" (mtL gAppend) (qVar 1) (qCons (qC (.str "BadSharing")) qNil))) sNext)
    (sSeq (sIf (qB (qIsK (ycs A) [false, false, false, false, false, false, false, false, false, false, false, false, false, false, true, false, false, false, false, false, false, false, false, false, false, false, false, false, false, false, false] (qVar 0))) (sExpr (qBM "list" (mtL gAppend) (qVar 1) (qCons (qC (.str "BadBand")) qNil))) sNext)
    (sSeq (sIf (qB (qIsK (ycs A) [false, false, false, false, false, false, false, false, false, false, false, false, false, false, false, true, false, false, false, false, false, false, false, false, false, false, false, false, false, false, false] (qVar 0))) (sExpr (qBM "list" (mtL gAppend) (qVar 1) (qCons (qC (.str "NotPlain")) qNil))) sNext)
    (sSeq (sIf (qB (qIsK (ycs A) [false, false, false, false, false, false, false, false, false, false, false, false, false, false, false, false, true, false, false, false, false, false, false, false, false, false, false, false, false, false, false] (qVar 0))) (sExpr (qBM "list" (mtL gAppend) (qVar 1) (qCons (qC (.str "Future")) qNil))) sNext)
    (sSeq (sIf (qB (qIsK (ycs A) [false, false, false, false, false, false, false, false, false, false, false, false, false, false, false, false, false, true, false, false, false, false, false, false, false, false, false, false, false, false, false] (qVar 0))) (sExpr (qBM "list" (mtL gAppend) (qVar 1) (qCons (qC (.str "Short")) qNil))) sNext)
    (sSeq (sIf (qB (qIsK (ycs A) [false, false, false, false, false, false, false, false, false, false, false, false, false, false, false, false, false, false, true, false, false, false, false, false, false, false, false, false, false, false, false] (qVar 0))) (sExpr (qBM "list" (mtL gAppend) (qVar 1) (qCons (qC (.str "BadValue")) qNil))) sNext)
    (sSeq (sIf (qB (qIsK (ycs A) [false, false, false, false, false, false, false, false, false, false, false, false, false, false, false, false, false, false, false, true, false, false, false, false, false, false, false, false, false, false, false] (qVar 0))) (sExpr (qBM "list" (mtL gAppend) (qVar 1) (qCons (qC (.str "BadState")) qNil))) sNext)
    (sSeq (sIf (qB (qIsK (ycs A) [false, false, false, false, false, false, false, false, false, false, false, false, false, false, false, false, false, false, false, false, true, false, false, false, false, false, false, false, false, false, false] (qVar 0))) (sExpr (qBM "list" (mtL gAppend) (qVar 1) (qCons (qC (.str "BadCount")) qNil))) sNext)
    (sSeq (sIf (qB (qIsK (ycs A) [false, false, false, false, false, false, false, false, false, false, false, false, false, false, false, false, false, false, false, false, false, true, false, false, false, false, false, false, false, false, false] (qVar 0))) (sExpr (qBM "list" (mtL gAppend) (qVar 1) (qCons (qC (.str "BadDeed")) qNil))) sNext)
    (sRet (qVar 1))))))))))))))
/-- _law_first_ones: 0 _law_error, 1 _law_found -/
def qb_law_first_ones (A : Adr) : QS :=
  (sSeq (sAsg (.nm 1) (qLstM qNil))
    (sSeq (sIf (qB (qIsK (ycs A) [true, false, false, false, false, false, false, false, false, false, false, false, false, false, false, false, false, false, false, false, false, false, false, false, false, false, false, false, false, false, false] (qVar 0))) (sExpr (qBM "list" (mtL gAppend) (qVar 1) (qCons (qC (.str "BadAmount")) qNil))) sNext)
    (sSeq (sIf (qB (qIsK (ycs A) [false, true, false, false, false, false, false, false, false, false, false, false, false, false, false, false, false, false, false, false, false, false, false, false, false, false, false, false, false, false, false] (qVar 0))) (sExpr (qBM "list" (mtL gAppend) (qVar 1) (qCons (qC (.str "BadLink")) qNil))) sNext)
    (sSeq (sIf (qB (qIsK (ycs A) [false, false, true, false, false, false, false, false, false, false, false, false, false, false, false, false, false, false, false, false, false, false, false, false, false, false, false, false, false, false, false] (qVar 0))) (sExpr (qBM "list" (mtL gAppend) (qVar 1) (qCons (qC (.str "BadFlow")) qNil))) sNext)
    (sSeq (sIf (qB (qIsK (ycs A) [false, false, false, true, false, false, false, false, false, false, false, false, false, false, false, false, false, false, false, false, false, false, false, false, false, false, false, false, false, false, false] (qVar 0))) (sExpr (qBM "list" (mtL gAppend) (qVar 1) (qCons (qC (.str "BadAge")) qNil))) sNext)
    (sSeq (sIf (qB (qIsK (ycs A) [false, false, false, false, true, false, false, false, false, false, false, false, false, false, false, false, false, false, false, false, false, false, false, false, false, false, false, false, false, false, false] (qVar 0))) (sExpr (qBM "list" (mtL gAppend) (qVar 1) (qCons (qC (.str "BadPart")) qNil))) sNext)
    (sSeq (sIf (qB (qIsK (ycs A) [false, false, false, false, false, true, false, false, false, false, false, false, false, false, false, false, false, false, false, false, false, false, false, false, false, false, false, false, false, false, false] (qVar 0))) (sExpr (qBM "list" (mtL gAppend) (qVar 1) (qCons (qC (.str "TooMany")) qNil))) sNext)
    (sSeq (sIf (qB (qIsK (ycs A) [false, false, false, false, false, false, true, false, false, false, false, false, false, false, false, false, false, false, false, false, false, false, false, false, false, false, false, false, false, false, false] (qVar 0))) (sExpr (qBM "list" (mtL gAppend) (qVar 1) (qCons (qC (.str "DuplicateName")) qNil))) sNext)
    (sSeq (sIf (qB (qIsK (ycs A) [false, false, false, false, false, false, false, true, false, false, false, false, false, false, false, false, false, false, false, false, false, false, false, false, false, false, false, false, false, false, false] (qVar 0))) (sExpr (qBM "list" (mtL gAppend) (qVar 1) (qCons (qC (.str "Idle")) qNil))) sNext)
    (sSeq (sIf (qB (qIsK (ycs A) [false, false, false, false, false, false, false, false, true, false, false, false, false, false, false, false, false, false, false, false, false, false, false, false, false, false, false, false, false, false, false] (qVar 0))) (sExpr (qBM "list" (mtL gAppend) (qVar 1) (qCons (qC (.str "Overpromised")) qNil))) sNext)
    (sSeq (sIf (qB (qIsK (ycs A) [false, false, false, false, false, false, false, false, false, true, false, false, false, false, false, false, false, false, false, false, false, false, false, false, false, false, false, false, false, false, false] (qVar 0))) (sExpr (qBM "list" (mtL gAppend) (qVar 1) (qCons (qC (.str "Small")) qNil))) sNext)
    (sSeq (sIf (qB (qIsK (ycs A) [false, false, false, false, false, false, false, false, false, false, true, false, false, false, false, false, false, false, false, false, false, false, false, false, false, false, false, false, false, false, false] (qVar 0))) (sExpr (qBM "list" (mtL gAppend) (qVar 1) (qCons (qC (.str "BadText")) qNil))) sNext)
    (sRet (qVar 1))))))))))))))
/-- _law_known: 0 _law_error, 1 _law_found -/
def qb_law_known (A : Adr) : QS :=
  (sSeq (sAsg (.nm 1) (qLstM qNil))
    (sSeq (sIf (qB (qIsK (ycs A) [true, true, true, true, true, true, true, true, true, true, true, true, true, true, true, true, true, true, true, true, true, true, false, false, false, false, false, false, false, false, false] (qVar 0))) (sExpr (qBM "list" (mtL gAppend) (qVar 1) (qCons (qC (.str "BandError")) qNil))) sNext)
    (sSeq (sIf (qB (qIsK (ycs A) [false, false, false, false, false, false, false, false, false, false, false, false, false, false, false, false, false, false, false, false, false, false, true, true, true, true, true, false, false, false, false] (qVar 0))) (sExpr (qBM "list" (mtL gAppend) (qVar 1) (qCons (qC (.str "Missing")) qNil))) sNext)
    (sSeq (sIf (qB (qIsK (ycs A) [false, false, false, false, false, false, false, false, false, false, false, false, false, false, false, false, false, false, false, false, false, false, false, false, false, false, false, true, true, true, true] (qVar 0))) (sExpr (qBM "list" (mtL gAppend) (qVar 1) (qCons (qC (.str "Refused")) qNil))) sNext)
    (sSeq (sIf (qB (qIsK (ycs A) [true, true, true, true, true, true, true, true, true, true, true, true, true, true, true, true, true, true, true, true, true, true, false, false, false, false, false, false, false, false, false] (qVar 0))) (sExpr (qBM "list" (mtL gAppend) (qVar 1) (qCons (qC (.str "ValueError")) qNil))) sNext)
    (sSeq (sIf (qB (qIsK (ycs A) [false, false, false, false, false, false, false, false, false, false, false, false, false, false, false, false, false, false, false, false, false, false, true, true, true, true, true, false, false, false, false] (qVar 0))) (sExpr (qBM "list" (mtL gAppend) (qVar 1) (qCons (qC (.str "LookupError")) qNil))) sNext)
    (sSeq (sIf (qB (qIsK (ycs A) [false, false, false, false, false, false, false, false, false, false, false, false, false, false, false, false, false, false, false, false, false, false, false, false, false, false, false, true, true, true, true] (qVar 0))) (sExpr (qBM "list" (mtL gAppend) (qVar 1) (qCons (qC (.str "RuntimeError")) qNil))) sNext)
    (sRet (qOp qAdd (qOp qAdd (qOp qAdd (qVar 1) (qFreeze (qCall (sp_law_first_ones A) (qCons (qVar 0) qNil)))) (qFreeze (qCall (sp_law_middle_ones A) (qCons (qVar 0) qNil)))) (qFreeze (qCall (sp_law_last_ones A) (qCons (qVar 0) qNil))))))))))))
/-- _law_rows_so: 0 _law_rows, 1 _law_x, 2 _law_y, 3 _law_above, 4 _law_label, 5 _law_base, 6 _law_made, 7 _law_told, 8 _law_error, 9 _law_got -/
def qb_law_rows_so (A : Adr) : QS :=
  (sSeq (sAsg (.nm 3) (qDisp [((qC (.str "BandError")), (qC (.str "ValueError"))), ((qC (.str "Missing")), (qC (.str "LookupError"))), ((qC (.str "Refused")), (qC (.str "RuntimeError")))]))
    (sSeq (sFor (iLst (qVar 0)) (.tp [(.nm 4), (.nm 5), (.nm 6), (.nm 7)]) (sFor (iZipD (qCons (qVar 6) (qCons (qVar 7) qNil))) (.tp [(.nm 8), (.nm 9)]) (sSeq (sIf (qNot (qB (qCall (sp_law_like 6 A) (qCons (qFreeze (qCB bSortS (qCons (qCall (sp_law_known A) (qCons (qVar 8) qNil)) qNil))) (qCons (qFreeze (qCB bSortS (qCons (qLstF (qCons (qVar 4) (qCons (qVar 5) (qCons (qOp vIx (qVar 3) (qVar 5)) qNil)))) qNil))) qNil))))) (sRet (qC (.bl false))) sNext)
    (sIf (qNot (qB (qCall (sp_law_like 6 A) (qCons (qVar 9) (qCons (qSlL (qLstF (qCons (qVar 1) (qCons (qVar 2) qNil))) qNoPart (qPart (qCB bLen (qCons (qVar 9) qNil)))) qNil))))) (sRet (qC (.bl false))) sNext))))
    (sRet (qC (.bl true)))))
/-- _law_thrown, where it may raise: 0 _law_x -/
def qbx_law_thrown (A : Adr) : DXs → QS := fun Ψ =>
  (sRaise1 A.Short "amount" (qVar 0) Ψ)
/-- _law_missed, where it may raise: 0 _law_x -/
def qbx_law_missed (A : Adr) : DXs → QS := fun Ψ =>
  (sRaise1 A.UnknownHop "hop" (qVar 0) Ψ)
/-- _law_refused, where it may raise: 0 _law_x -/
def qbx_law_refused (A : Adr) : DXs → QS := fun Ψ =>
  (sRaise1 A.Started "tick" (qVar 0) Ψ)
/-- law: 0 _law_script, 1 _law_bag_here, 2 _law_turn, 3 _law_x, 4 _law_y, 5 _law_first, 6 _law_again, 7 _law_one, 8 _law_two, 9 _law_three -/
def qb_law (A : Adr) : QS :=
  (sSeq (sAsg (.nm 1) (qCall (sp_law_bag A) (qCons (qVar 0) qNil)))
    (sSeq (sFor (iRange1 (qCons (qC (.int 4)) qNil)) (.nm 2) (sSeq (sAsg (.nm 3) (qCall (sp_law_of A) (qCons (qVar 1) (qCons (qLstF (qCons (qCall (sp_law_odd A) (qCons (qVar 1) qNil)) (qCons (qCall (sp_law_word A) (qCons (qVar 1) qNil)) (qCons (qCall (sp_law_amount A) (qCons (qVar 1) qNil)) qNil)))) qNil))))
    (sSeq (sAsg (.nm 4) (qCall (sp_law_of A) (qCons (qVar 1) (qCons (qLstF (qCons (qCall (sp_law_odd A) (qCons (qVar 1) qNil)) (qCons (qCall (sp_law_draw A) (qCons (qVar 1) (qCons (qC (.int 100)) qNil))) (qCons (qVar 3) qNil)))) qNil))))
    (sSeq (sAsg (.nm 5) (qOp qAdd (qOp qAdd (qFreeze (qCall (sp_law_first_made A) (qCons (qVar 3) (qCons (qVar 4) qNil)))) (qFreeze (qCall (sp_law_middle_made A) (qCons (qVar 3) (qCons (qVar 4) qNil))))) (qFreeze (qCall (sp_law_last_made A) (qCons (qVar 3) (qCons (qVar 4) qNil))))))
    (sSeq (sAsg (.nm 6) (qOp qAdd (qOp qAdd (qFreeze (qCall (sp_law_first_made A) (qCons (qVar 4) (qCons (qVar 3) qNil)))) (qFreeze (qCall (sp_law_middle_made A) (qCons (qVar 4) (qCons (qVar 3) qNil))))) (qFreeze (qCall (sp_law_last_made A) (qCons (qVar 4) (qCons (qVar 3) qNil))))))
    (sSeq (sIf (qOr (qB (qOp vNe (qCB bLen (qCons (qVar 5) qNil)) (qC (.int 31)))) (qOr (qNot (qB (qCall (sp_law_rows_so A) (qCons (qVar 6) (qCons (qVar 4) (qCons (qVar 3) qNil)))))) (qNot (qB (qCall (sp_law_rows_so A) (qCons (qVar 5) (qCons (qVar 3) (qCons (qVar 4) qNil)))))))) (sRet (qC (.bl false))) sNext)
    (sSeq (sAsg (.nm 7) (qTak A.tb_law (lamq "law") [(A.Short, 0), (A.UnknownHop, 1), (A.Started, 2)] (zCall (spx_law_thrown A) (qCons (qVar 3) qNil)) (qss_law_taken A) (qr_law_taken A)))
    (sSeq (sAsg (.nm 8) (qTak A.tb_law (lamq "law") [(A.Short, 0), (A.UnknownHop, 1), (A.Started, 2)] (zCall (spx_law_missed A) (qCons (qVar 3) qNil)) (qss_law_taken A) (qr_law_taken A)))
    (sSeq (sAsg (.nm 9) (qTak A.tb_law (lamq "law") [(A.Short, 0), (A.UnknownHop, 1), (A.Started, 2)] (zCall (spx_law_refused A) (qCons (qVar 3) qNil)) (qss_law_taken A) (qr_law_taken A)))
    (sSeq (sIf (qNot (qB (qCall (sp_law_like 6 A) (qCons (qLstF (qCons (qOp vIx (qVar 7) (qC (.int 0))) (qCons (qOp vIx (qVar 8) (qC (.int 0))) (qCons (qOp vIx (qVar 9) (qC (.int 0))) qNil)))) (qCons (qLstF (qCons (qC (.str "BandError")) (qCons (qC (.str "Missing")) (qCons (qC (.str "Refused")) qNil)))) qNil))))) (sRet (qC (.bl false))) sNext)
    (sIf (qNot (qB (qCall (sp_law_like 6 A) (qCons (qLstF (qCons (qKf A.Short "amount" (qOp vIx (qVar 7) (qC (.int 1)))) (qCons (qKf A.UnknownHop "hop" (qOp vIx (qVar 8) (qC (.int 1)))) (qCons (qKf A.Started "tick" (qOp vIx (qVar 9) (qC (.int 1)))) qNil)))) (qCons (qLstF (qCons (qVar 3) (qCons (qVar 3) (qCons (qVar 3) qNil)))) qNil))))) (sRet (qC (.bl false))) sNext)))))))))))
    (sRet (qC (.bl true)))))
end K70
end
section
namespace K70
open PySem PySem.Spec PyProof.Rows L2 L3
theorem len_law_bag (A : Adr) : ∀ ds m Φ, sp_law_bag A ds m Φ → ds.length = 1 := C05.len_law_bag
theorem rd_law_bag (A : Adr) : ∀ ds m Φ, sp_law_bag A ds m Φ → qb_law_bag A (bodyW Φ) (begin_ 3 ds) m := C05.rd_law_bag
theorem len_law_draw (A : Adr) : ∀ ds m Φ, sp_law_draw A ds m Φ → ds.length = 2 := C05.len_law_draw
theorem rd_law_draw (A : Adr) : ∀ ds m Φ, sp_law_draw A ds m Φ → qb_law_draw A (bodyW Φ) (begin_ 4 ds) m := C05.rd_law_draw
theorem len_law_of (A : Adr) : ∀ ds m Φ, sp_law_of A ds m Φ → ds.length = 2 := QA.len_law_of
theorem rd_law_of (A : Adr) : ∀ ds m Φ, sp_law_of A ds m Φ → qb_law_of A (bodyW Φ) (begin_ 2 ds) m := QA.rd_law_of
theorem len_law_like (n : Nat) (A : Adr) : ∀ ds m Φ, sp_law_like n A ds m Φ → ds.length = 2 := VL.len_law_like n
theorem rd_law_like (n : Nat) (A : Adr) : ∀ ds m Φ, sp_law_like (n + 1) A ds m Φ → qb_law_like n A (bodyW Φ) (begin_ 4 ds) m := VL.rd_law_like n
theorem len_law_odd (A : Adr) : ∀ ds m Φ, sp_law_odd A ds m Φ → ds.length = 1 := QA.len_law_odd
theorem rd_law_odd (A : Adr) : ∀ ds m Φ, sp_law_odd A ds m Φ → qb_law_odd A (bodyW Φ) (begin_ 2 ds) m := QA.rd_law_odd
theorem len_law_word (A : Adr) : ∀ ds m Φ, sp_law_word A ds m Φ → ds.length = 1 := QG.len_law_word
theorem rd_law_word (A : Adr) : ∀ ds m Φ, sp_law_word A ds m Φ → qb_law_word A (bodyW Φ) (begin_ 3 ds) m := QG.rd_law_word
theorem len_law_pair (A : Adr) : ∀ ds m Φ, sp_law_pair A ds m Φ → ds.length = 2 := C05.len_law_pair
theorem rd_law_pair (A : Adr) : ∀ ds m Φ, sp_law_pair A ds m Φ → qb_law_pair A (bodyW Φ) (begin_ 4 ds) m := C05.rd_law_pair
theorem len_law_wide (A : Adr) : ∀ ds m Φ, sp_law_wide A ds m Φ → ds.length = 2 := C05.len_law_wide
theorem rd_law_wide (A : Adr) : ∀ ds m Φ, sp_law_wide A ds m Φ → qb_law_wide A (bodyW Φ) (begin_ 5 ds) m := C05.rd_law_wide
end K70
end
section
namespace K70
open PySem PySem.Spec PyProof.Rows L2 L3 L4 LF VL
open Rat (divInt)
open C13 (BagP)
open C05 (k_pow p10 p4 p9 sz_div Sz)
local macro_rules | `(tactic| walk_at "st") => `(tactic| repeat (first
  | (with_reducible refine k_var (by with_unfolding_all rfl) ?_)
  | (with_reducible refine k_seq ?_)
  | (with_reducible refine k_cons ?_)
  | (with_reducible refine k_nil ?_)
  | (with_reducible refine k_c ?_)
  | (with_reducible refine k_op ?_)
  | (with_reducible refine k_asg ?_)
  | (with_reducible refine k_call ?_)
  | (with_reducible refine k_cb ?_)
  | (with_reducible refine k_i0 ?_)
  | (with_reducible refine k_addI ?_)
  | (with_reducible refine k_B ?_)
  | (with_reducible refine k_bk ?_)
  | (with_reducible refine k_if ?_)
  | (with_reducible refine k_ret ?_)
  | (with_reducible refine k_expr ?_)
  | (with_reducible refine k_next ?_)
  | (with_reducible refine k_not ?_)
  | (with_reducible refine k_and ?_)
  | (with_reducible refine k_or ?_)
  | (with_reducible refine k_ift ?_)
  | (with_reducible refine k_iff ?_)
  | (with_reducible refine k_ifnt ?_)
  | (with_reducible refine k_ifnf ?_)
  | (with_reducible refine k_fz ?_)
  | (with_reducible refine k_lc ?_)
  | (with_reducible refine k_dc ?_)
  | (with_reducible refine k_for ?_)
  | (with_reducible refine k_rng ?_)
  | (with_reducible refine k_iL ?_)
  | (with_reducible refine k_iLl ?_)
  | (with_reducible refine k_iT ?_)
  | (with_reducible refine k_iTt ?_)
  | (with_reducible refine k_zip ?_)
  | (with_reducible refine k_asgp ?_)
  | (with_reducible refine k_atn ?_)
  | (with_reducible refine k_par ?_)
  | (with_reducible refine k_parI ?_)
  | (with_reducible refine k_par3 ?_)
  | (with_reducible refine k_par3I ?_)
  | (with_reducible refine k_sub ?_)
  | (with_reducible refine k_andV ?_)
  | (with_reducible refine k_orV ?_)
  | (with_reducible refine k_notV ?_)
  | (with_reducible refine k_ifE ?_)
  | (with_reducible refine k_chain ?_)
  | (with_reducible refine k_am0 ?_)
  | (with_reducible refine k_am1 ?_)
  | (with_reducible refine k_int ?_)
  | (with_reducible refine k_eqI ?_)
  | (with_reducible refine k_neI ?_)
  | (with_reducible refine k_eqB ?_)
  | (with_reducible refine k_neB ?_)
  | (with_reducible refine k_iaddI ?_)
  | (with_reducible refine k_lenT ?_)
  | (with_reducible refine k_lenL ?_)
  | (with_reducible refine k_tru ?_)
  | (with_reducible refine k_cont ?_)
  | (with_reducible refine k_brk ?_)
  | (with_reducible refine k_retN ?_)
  | (with_reducible refine k_callK ?_)
  | (with_reducible refine k_callS1 ?_)
  | (with_reducible refine k_star ?_)
  | (with_reducible refine k_itL ?_)
  | (with_reducible refine k_itT ?_)
  | (with_reducible refine k_isi ?_)
  | (with_reducible refine k_isiT ?_)
  | (with_reducible refine k_bm ?_)
  | (with_reducible refine k_tup ?_)
  | (with_reducible refine k_lstF ?_)
  | (with_reducible refine k_lstM ?_)
  | (with_reducible refine k_aug (by with_unfolding_all rfl) ?_)
  | (with_reducible refine k_iSv (by with_unfolding_all rfl) ?_)
  | (with_reducible refine k_ixt (by with_unfolding_all rfl) ?_)
  | (with_reducible refine k_at (by with_unfolding_all rfl) ?_)
  | (with_reducible refine k_fzn ‹_› ?_)
  | (refine And.intro (by exact sz (by simp <;> omega)) ?_)
  | fail))
theorem len_law_great (A : Adr) : ∀ ds m Φ, sp_law_great A ds m Φ → ds.length = 1 := by rintro _ _ _ ⟨_, rfl, _⟩; rfl
theorem len_law_amount (A : Adr) : ∀ ds m Φ, sp_law_amount A ds m Φ → ds.length = 1 := by rintro _ _ _ ⟨_, rfl, _⟩; rfl
theorem rd_law_great (A : Adr) : ∀ ds m Φ, sp_law_great A ds m Φ → qb_law_great A (bodyW Φ) (begin_ 4 ds) m := by
  rintro _ m Φ ⟨b, rfl, hb, k⟩
  have c10 : CPow 10 10 := ⟨by decide, by decide, by decide⟩
  have c4 : CPow 10 4 := ⟨by decide, by decide, by decide⟩
  unfold qb_law_great
  walk_at "st"
  refine ⟨b, 10, rfl, hb, by decide, fun x x0 x1 => ?_⟩
  walk_at "st"
  refine ⟨b, 10, rfl, hb, by decide, fun y y0 y1 => ?_⟩
  walk_at "st"
  refine ⟨b, 10, rfl, hb, by decide, fun z z0 z1 => ?_⟩
  have x1 : x < 10000000000 := x1
  have y1 : y < 10000000000 := y1
  have z1 : z < 10000000000 := z1
  walk_at "st"
  refine k_pow c10 fun n1 e1 => ?_
  rw [p10] at e1
  refine k_ic (cm_r (by omega) (by omega)) ?_
  walk_at "st"
  refine k_pow c10 fun n2 e2 => ?_
  rw [p10] at e2
  refine k_ic (cm_r (by omega) (by omega)) ?_
  walk_at "st"
  refine k_pow c10 fun n3 e3 => ?_
  rw [p10] at e3
  refine k_ic (cm_r (by omega) (by omega)) ?_
  walk_at "st"
  refine k_pow c10 fun n4 e4 => ?_
  rw [p10] at e4
  refine k_ic (cm_r (by omega) (by omega)) ?_
  walk_at "st"
  refine k_pow c10 fun n5 e5 => ?_
  rw [p10] at e5
  refine k_ic (cm_r (by omega) (by omega)) ?_
  walk_at "st"
  refine k_pow c4 fun n6 e6 => ?_
  rw [p4] at e6
  refine k_ic (cm_r (by omega) (by omega)) ?_
  walk_at "st"
  refine k_pow c4 fun n7 e7 => ?_
  rw [p4] at e7
  walk_at "st"
  refine ⟨b, n7, rfl, hb, by omega, by omega, fun d d0 d1 => ?_⟩
  walk_at "st"
  refine .inl ⟨b, _, hb, by simp, by simp, .inl rfl, fun v hv => ?_⟩
  subst e1 e2 e3 e4 e5 e6 e7
  simp only [List.mem_cons, List.not_mem_nil, or_false] at hv
  rcases hv with rfl | rfl | rfl | rfl
  · exact wk_at (k _ x0 (by omega))
  · exact wk_at (k _ (by omega) (by omega))
  · exact wk_at (k _ (by omega) (by omega))
  · exact wk_at (k _ (by omega) (by omega))
theorem rd_law_amount (A : Adr) : ∀ ds m Φ, sp_law_amount A ds m Φ → qb_law_amount A (bodyW Φ) (begin_ 2 ds) m := by
  rintro _ m Φ ⟨b, rfl, hb, k⟩
  have wl : ∀ {w : Int}, 0 < w → w < 10 ^ 35 → w.natAbs.log2 < 9000 := fun {w} h0 h1 => by
    have := log2_le (show w.natAbs ≤ 10 ^ 35 by omega)
    have c2 : Nat.log2 (10 ^ 35) < 120 := by decide
    exact Nat.lt_of_le_of_lt this (by omega)
  unfold qb_law_amount
  walk_at "st"
  refine ⟨b, _, rfl, hb, by omega, by omega, fun sh s0 s1 => ?_⟩
  walk_at "st"
  refine qif (fun h => ?_) (fun h => ?_)
  · walk_at "st"
    refine .inl ⟨b, _, hb, by simp, by simp, .inl rfl, fun x hx => ?_⟩
    obtain ⟨t, w, rfl, h0, h1, w0, w1, hg⟩ : ∃ t w : Int, x = .tup [.int t, .int w] ∧ 0 ≤ t ∧ t < 10 ^ 34 ∧ 0 < w ∧ w < 10 ^ 35 ∧ (1 : Int) = (Int.gcd t w : Nat) := by
      simp only [List.mem_cons, List.not_mem_nil, or_false] at hx
      rcases hx with rfl | rfl | rfl | rfl | rfl | rfl | rfl | rfl | rfl
      · exact ⟨0, 1, rfl, by decide, by decide, by decide, by decide, by decide⟩
      · exact ⟨1, 1, rfl, by decide, by decide, by decide, by decide, by decide⟩
      · exact ⟨1000, 1, rfl, by decide, by decide, by decide, by decide, by decide⟩
      · exact ⟨1, 12, rfl, by decide, by decide, by decide, by decide, by decide⟩
      · exact ⟨999, 1, rfl, by decide, by decide, by decide, by decide, by decide⟩
      · exact ⟨1001, 1, rfl, by decide, by decide, by decide, by decide, by decide⟩
      · exact ⟨12001, 12, rfl, by decide, by decide, by decide, by decide, by decide⟩
      · exact ⟨1, 13, rfl, by decide, by decide, by decide, by decide, by decide⟩
      · exact ⟨2, 1, rfl, by decide, by decide, by decide, by decide, by decide⟩
    have e := am_low (g := 1) w0 hg
    rw [Int.ediv_one, Int.ediv_one] at e
    rw [e]
    exact wk_at (k _ (sz_div h0 h1 w0 w1))
  walk_at "st"
  refine qif (fun h => ?_) (fun h => ?_)
  · walk_at "st"
    refine ⟨b, _, rfl, hb, by omega, by omega, fun t t0 t1 => ?_⟩
    walk_at "st"
    refine ⟨b, _, rfl, hb, by omega, by omega, fun w w0 w1 => ?_⟩
    walk_at "st"
    exact ⟨t, 1 + w, rfl, t0, by omega, wl (by omega) (by omega), wk_at (k _ (sz_div t0 (by omega) (by omega) (by omega)))⟩
  walk_at "st"
  refine qif (fun h => ?_) (fun h => ?_)
  · walk_at "st"
    refine ⟨b, 9, rfl, hb, by decide, fun t t0 t1 => ?_⟩
    have t1 : t < 1000000000 := t1
    walk_at "st"
    refine k_pow ⟨by decide, by decide, by decide⟩ fun n e => ?_
    rw [p9] at e
    walk_at "st"
    refine ⟨b, n - 1, rfl, hb, by omega, by omega, fun w w0 w1 => ?_⟩
    walk_at "st"
    exact ⟨t, 1 + w, rfl, t0, by omega, wl (by omega) (by omega), wk_at (k _ (sz_div t0 (by omega) (by omega) (by omega)))⟩
  walk_at "st"
  refine qif (fun h => ?_) (fun h => ?_)
  · walk_at "st"
    refine ⟨b, rfl, hb, fun t t0 t1 => ?_⟩
    walk_at "st"
    refine ⟨b, _, rfl, hb, by omega, by omega, fun w w0 w1 => ?_⟩
    walk_at "st"
    exact ⟨t, 1 + w, rfl, t0, by omega, wl (by omega) (by omega), wk_at (k _ (sz_div t0 t1 (by omega) (by omega)))⟩
  walk_at "st"
  refine ⟨b, rfl, hb, fun t t0 t1 => ?_⟩
  walk_at "st"
  refine ⟨b, rfl, hb, fun w w0 w1 => ?_⟩
  walk_at "st"
  show sp_law_pair A [.int t, .int (if w > 1 then w else 1)] m _
  have hw : 0 < (if w > 1 then w else 1) ∧ (if w > 1 then w else 1) < 10 ^ 35 := by split <;> omega
  exact ⟨t, _, rfl, t0, hw.1, wl hw.1 hw.2, wk_at (k _ (sz_div t0 t1 hw.1 hw.2))⟩
end K70
end
section
namespace K70
open PySem PySem.Spec PyProof.Rows L2 L3 L4 VL
open C13 (BagP)
local macro_rules | `(tactic| walk_at "st") => `(tactic| repeat (first
  | (with_reducible refine k_var (by with_unfolding_all rfl) ?_)
  | (with_reducible refine k_seq ?_)
  | (with_reducible refine k_cons ?_)
  | (with_reducible refine k_nil ?_)
  | (with_reducible refine k_c ?_)
  | (with_reducible refine k_op ?_)
  | (with_reducible refine k_asg ?_)
  | (with_reducible refine k_call ?_)
  | (with_reducible refine k_cb ?_)
  | (with_reducible refine k_i0 ?_)
  | (with_reducible refine k_addI ?_)
  | (with_reducible refine k_B ?_)
  | (with_reducible refine k_bk ?_)
  | (with_reducible refine k_if ?_)
  | (with_reducible refine k_ret ?_)
  | (with_reducible refine k_expr ?_)
  | (with_reducible refine k_next ?_)
  | (with_reducible refine k_not ?_)
  | (with_reducible refine k_and ?_)
  | (with_reducible refine k_or ?_)
  | (with_reducible refine k_ift ?_)
  | (with_reducible refine k_iff ?_)
  | (with_reducible refine k_ifnt ?_)
  | (with_reducible refine k_ifnf ?_)
  | (with_reducible refine k_fz ?_)
  | (with_reducible refine k_lc ?_)
  | (with_reducible refine k_dc ?_)
  | (with_reducible refine k_for ?_)
  | (with_reducible refine k_rng ?_)
  | (with_reducible refine k_iL ?_)
  | (with_reducible refine k_iLl ?_)
  | (with_reducible refine k_iT ?_)
  | (with_reducible refine k_iTt ?_)
  | (with_reducible refine k_zip ?_)
  | (with_reducible refine k_asgp ?_)
  | (with_reducible refine k_atn ?_)
  | (with_reducible refine k_par ?_)
  | (with_reducible refine k_parI ?_)
  | (with_reducible refine k_par3 ?_)
  | (with_reducible refine k_par3I ?_)
  | (with_reducible refine k_sub ?_)
  | (with_reducible refine k_andV ?_)
  | (with_reducible refine k_orV ?_)
  | (with_reducible refine k_notV ?_)
  | (with_reducible refine k_ifE ?_)
  | (with_reducible refine k_chain ?_)
  | (with_reducible refine k_am0 ?_)
  | (with_reducible refine k_am1 ?_)
  | (with_reducible refine k_int ?_)
  | (with_reducible refine k_eqI ?_)
  | (with_reducible refine k_neI ?_)
  | (with_reducible refine k_eqB ?_)
  | (with_reducible refine k_neB ?_)
  | (with_reducible refine k_iaddI ?_)
  | (with_reducible refine k_lenT ?_)
  | (with_reducible refine k_lenL ?_)
  | (with_reducible refine k_tru ?_)
  | (with_reducible refine k_cont ?_)
  | (with_reducible refine k_brk ?_)
  | (with_reducible refine k_retN ?_)
  | (with_reducible refine k_callK ?_)
  | (with_reducible refine k_callS1 ?_)
  | (with_reducible refine k_star ?_)
  | (with_reducible refine k_itL ?_)
  | (with_reducible refine k_itT ?_)
  | (with_reducible refine k_isi ?_)
  | (with_reducible refine k_isiT ?_)
  | (with_reducible refine k_bm ?_)
  | (with_reducible refine k_tup ?_)
  | (with_reducible refine k_lstF ?_)
  | (with_reducible refine k_lstM ?_)
  | (with_reducible refine k_aug (by with_unfolding_all rfl) ?_)
  | (with_reducible refine k_iSv (by with_unfolding_all rfl) ?_)
  | (with_reducible refine k_ixt (by with_unfolding_all rfl) ?_)
  | (with_reducible refine k_at (by with_unfolding_all rfl) ?_)
  | (with_reducible refine k_fzn ‹_› ?_)
  | (refine And.intro (by exact sz (by simp <;> omega)) ?_)
  | fail))
theorem cut31 {P : Nat → Prop} (h0 : P 0) (h1 : P 1) (h2 : P 2) (h3 : P 3) (h4 : P 4) (h5 : P 5) (h6 : P 6) (h7 : P 7) (h8 : P 8) (h9 : P 9) (h10 : P 10) (h11 : P 11) (h12 : P 12) (h13 : P 13) (h14 : P 14) (h15 : P 15) (h16 : P 16) (h17 : P 17) (h18 : P 18) (h19 : P 19) (h20 : P 20) (h21 : P 21) (h22 : P 22) (h23 : P 23) (h24 : P 24) (h25 : P 25) (h26 : P 26) (h27 : P 27) (h28 : P 28) (h29 : P 29) (h30 : P 30) : ∀ i, i < 31 → P i
  | 0, _ => h0
  | 1, _ => h1
  | 2, _ => h2
  | 3, _ => h3
  | 4, _ => h4
  | 5, _ => h5
  | 6, _ => h6
  | 7, _ => h7
  | 8, _ => h8
  | 9, _ => h9
  | 10, _ => h10
  | 11, _ => h11
  | 12, _ => h12
  | 13, _ => h13
  | 14, _ => h14
  | 15, _ => h15
  | 16, _ => h16
  | 17, _ => h17
  | 18, _ => h18
  | 19, _ => h19
  | 20, _ => h20
  | 21, _ => h21
  | 22, _ => h22
  | 23, _ => h23
  | 24, _ => h24
  | 25, _ => h25
  | 26, _ => h26
  | 27, _ => h27
  | 28, _ => h28
  | 29, _ => h29
  | 30, _ => h30
  | n + 31, h => absurd h (by omega)
theorem Hold.new {A : Adr} {m : Mem} {i : Nat} {e p : Addr} {o : AO} (h : Hold A m i e) (hp : m p = none) : Hold A (mset m p o) i e := h.keep fun a o e _ => by rw [mset_ne (mne e hp)]; exact e
theorem one_len {b : Bool} {z : D} {l : List D} {n : Nat} (h : l.length ≤ n) : (l ++ if b = true then [z] else []).length ≤ n + 1 := by
  rw [List.length_append]; split <;> simp <;> omega
theorem if_len {c : Prop} [Decidable c] {z : D} : (if c then [z] else []).length ≤ 1 := by split <;> simp
theorem app_len {l l' : List D} {a : Nat} (h : l.length ≤ a) (h' : l'.length ≤ 1) : (l ++ l').length ≤ a + 1 := by rw [List.length_append]; omega
theorem add_len {l l' : List D} {a : Nat} (h : l.length ≤ a) (h' : l'.length ≤ 1) (ha : a + 1 ≤ sizeLine) : l.length + l'.length ≤ sizeLine := by omega
/-- one look: is it of this class? -/
theorem blk_one {A : Adr} {e p : Addr} {i : Nat} {tb : List Bool} {z : Str} {R : QS} {E : DE} {m : Mem} {acc : List D} (h : Hold A m i e) (hp : m p = none) (hl : acc.length ≤ 40)
    (k : R E [some (.ref e), some (.ref p)] (mset m p (.lst (acc ++ if tb.getD i false = true then [.str z] else [])))) :
    sSeq (sIf (qB (qIsK (ycs A) tb (qVar 0))) (sExpr (qBM "list" (mtL gAppend) (qVar 1) (qCons (qC (.str z)) qNil))) sNext) R E [some (.ref e), some (.ref p)] (mset m p (.lst acc)) := by
  have hl : acc.length < sizeLine := Nat.lt_of_le_of_lt hl (by decide)
  obtain ⟨C, od, h1, h2, h3⟩ := h.new (o := .lst acc) hp
  refine ⟨i, C, od, h1, h2, h3, qif (fun ht => ?_) (fun hf => ?_)⟩
  · rw [ht, if_pos rfl] at k
    walk_at "st"
    refine ⟨k_tyL mset_same, k_cons (k_c (k_nil (k_app mset_same hl ?_)))⟩
    rw [mset_mset]
    exact k
  · rw [hf, if_neg Bool.false_ne_true, List.append_nil] at k
    exact k
theorem len_ones {lo hi : Nat} {A : Adr} : ∀ ds m Φ, ones lo hi A ds m Φ → ds.length = 1 := by rintro _ _ _ ⟨_, _, rfl, _⟩; rfl
theorem len_law_first_ones (A : Adr) : ∀ ds m Φ, sp_law_first_ones A ds m Φ → ds.length = 1 := len_ones
theorem len_law_middle_ones (A : Adr) : ∀ ds m Φ, sp_law_middle_ones A ds m Φ → ds.length = 1 := len_ones
theorem len_law_last_ones (A : Adr) : ∀ ds m Φ, sp_law_last_ones A ds m Φ → ds.length = 1 := len_ones
theorem rd_law_first_ones (A : Adr) : ∀ ds m Φ, sp_law_first_ones A ds m Φ → qb_law_first_ones A (bodyW Φ) (begin_ 2 ds) m := by
  rintro _ m Φ ⟨e, i, rfl, hi, h, k⟩
  unfold qb_law_first_ones
  walk_at "st"
  refine fun p hp => ?_
  repeat (refine blk_one h hp (by (repeat (refine one_len ?_)); exact Nat.zero_le _) ?_)
  walk_at "st"
  refine wk_at (Eq.subst (motive := fun l => Φ (.ref p) (mset m p (.lst l))) ?_ (k p hp))
  clear k h
  revert i
  exact cut31 rfl rfl rfl rfl rfl rfl rfl rfl rfl rfl rfl rfl rfl rfl rfl rfl rfl rfl rfl rfl rfl rfl rfl rfl rfl rfl rfl rfl rfl rfl rfl
theorem rd_law_middle_ones (A : Adr) : ∀ ds m Φ, sp_law_middle_ones A ds m Φ → qb_law_middle_ones A (bodyW Φ) (begin_ 2 ds) m := by
  rintro _ m Φ ⟨e, i, rfl, hi, h, k⟩
  unfold qb_law_middle_ones
  walk_at "st"
  refine fun p hp => ?_
  repeat (refine blk_one h hp (by (repeat (refine one_len ?_)); exact Nat.zero_le _) ?_)
  walk_at "st"
  refine wk_at (Eq.subst (motive := fun l => Φ (.ref p) (mset m p (.lst l))) ?_ (k p hp))
  clear k h
  revert i
  exact cut31 rfl rfl rfl rfl rfl rfl rfl rfl rfl rfl rfl rfl rfl rfl rfl rfl rfl rfl rfl rfl rfl rfl rfl rfl rfl rfl rfl rfl rfl rfl rfl
theorem rd_law_last_ones (A : Adr) : ∀ ds m Φ, sp_law_last_ones A ds m Φ → qb_law_last_ones A (bodyW Φ) (begin_ 2 ds) m := by
  rintro _ m Φ ⟨e, i, rfl, hi, h, k⟩
  unfold qb_law_last_ones
  walk_at "st"
  refine fun p hp => ?_
  repeat (refine blk_one h hp (by (repeat (refine one_len ?_)); exact Nat.zero_le _) ?_)
  walk_at "st"
  refine wk_at (Eq.subst (motive := fun l => Φ (.ref p) (mset m p (.lst l))) ?_ (k p hp))
  clear k h
  revert i
  exact cut31 rfl rfl rfl rfl rfl rfl rfl rfl rfl rfl rfl rfl rfl rfl rfl rfl rfl rfl rfl rfl rfl rfl rfl rfl rfl rfl rfl rfl rfl rfl rfl
theorem len_law_known (A : Adr) : ∀ ds m Φ, sp_law_known A ds m Φ → ds.length = 1 := by rintro _ _ _ ⟨_, _, rfl, _⟩; rfl
theorem rd_law_known (A : Adr) : ∀ ds m Φ, sp_law_known A ds m Φ → qb_law_known A (bodyW Φ) (begin_ 2 ds) m := by
  rintro _ m Φ ⟨e, i, rfl, hi, h, k⟩
  unfold qb_law_known
  walk_at "st"
  refine fun p hp => ?_
  repeat (refine blk_one h hp (by (repeat (refine one_len ?_)); exact Nat.zero_le _) ?_)
  walk_at "st"
  refine ⟨e, i, rfl, hi, h.new hp, fun p1 hp1 => ?_⟩
  refine k_fzn hp1 ?_
  refine ⟨_, mset_same, add_len (a := 40) (by (repeat (refine one_len ?_)); exact Nat.zero_le _) if_len (by decide), ?_⟩
  walk_at "st"
  refine ⟨e, i, rfl, hi, h.new hp, fun p2 hp2 => ?_⟩
  refine k_fzn hp2 ?_
  refine ⟨add_len (a := 41) (app_len (a := 40) (by (repeat (refine one_len ?_)); exact Nat.zero_le _) if_len) if_len (by decide), ?_⟩
  walk_at "st"
  refine ⟨e, i, rfl, hi, h.new hp, fun p3 hp3 => ?_⟩
  refine k_fzn hp3 ?_
  refine ⟨add_len (a := 42) (app_len (a := 41) (app_len (a := 40) (by (repeat (refine one_len ?_)); exact Nat.zero_le _) if_len) if_len) if_len (by decide), ?_⟩
  refine ⟨m, MLe.drop hp, Eq.subst (motive := fun l => Φ (.lst l) m) ?_ k⟩
  clear k h hp1 hp2 hp3
  revert i
  exact cut31 rfl rfl rfl rfl rfl rfl rfl rfl rfl rfl rfl rfl rfl rfl rfl rfl rfl rfl rfl rfl rfl rfl rfl rfl rfl rfl rfl rfl rfl rfl rfl
theorem lenx_1 {C : Addr} {f : Str} : ∀ ds m Φ Ψ, spx1 C f ds m Φ Ψ → ds.length = 1 := by rintro _ _ _ _ ⟨_, rfl, _⟩; rfl
theorem lenx_law_thrown (A : Adr) : ∀ ds m Φ Ψ, spx_law_thrown A ds m Φ Ψ → ds.length = 1 := lenx_1
theorem lenx_law_missed (A : Adr) : ∀ ds m Φ Ψ, spx_law_missed A ds m Φ Ψ → ds.length = 1 := lenx_1
theorem lenx_law_refused (A : Adr) : ∀ ds m Φ Ψ, spx_law_refused A ds m Φ Ψ → ds.length = 1 := lenx_1
theorem rdx_law_thrown (A : Adr) : ∀ ds m Φ Ψ, spx_law_thrown A ds m Φ Ψ → qbx_law_thrown A (fun cls od _ m => ∃ m', MLe m m' ∧ Ψ cls od m') (bodyW Φ) (begin_ 1 ds) m := by
  rintro _ m Φ Ψ ⟨x, rfl, k⟩
  exact fun d hd => ⟨_, MLe.refl _, k d hd⟩
theorem rdx_law_missed (A : Adr) : ∀ ds m Φ Ψ, spx_law_missed A ds m Φ Ψ → qbx_law_missed A (fun cls od _ m => ∃ m', MLe m m' ∧ Ψ cls od m') (bodyW Φ) (begin_ 1 ds) m := by
  rintro _ m Φ Ψ ⟨x, rfl, k⟩
  exact fun d hd => ⟨_, MLe.refl _, k d hd⟩
theorem rdx_law_refused (A : Adr) : ∀ ds m Φ Ψ, spx_law_refused A ds m Φ Ψ → qbx_law_refused A (fun cls od _ m => ∃ m', MLe m m' ∧ Ψ cls od m') (bodyW Φ) (begin_ 1 ds) m := by
  rintro _ m Φ Ψ ⟨x, rfl, k⟩
  exact fun d hd => ⟨_, MLe.refl _, k d hd⟩
end K70
end
section
namespace K70
open PySem PySem.Spec PyProof.Rows L2 L3 L4 VL
open C13 (BagP)
local macro_rules | `(tactic| walk_at "st") => `(tactic| repeat (first
  | (with_reducible refine k_var (by with_unfolding_all rfl) ?_)
  | (with_reducible refine k_seq ?_)
  | (with_reducible refine k_cons ?_)
  | (with_reducible refine k_nil ?_)
  | (with_reducible refine k_c ?_)
  | (with_reducible refine k_op ?_)
  | (with_reducible refine k_asg ?_)
  | (with_reducible refine k_call ?_)
  | (with_reducible refine k_cb ?_)
  | (with_reducible refine k_i0 ?_)
  | (with_reducible refine k_addI ?_)
  | (with_reducible refine k_B ?_)
  | (with_reducible refine k_bk ?_)
  | (with_reducible refine k_if ?_)
  | (with_reducible refine k_ret ?_)
  | (with_reducible refine k_expr ?_)
  | (with_reducible refine k_next ?_)
  | (with_reducible refine k_not ?_)
  | (with_reducible refine k_and ?_)
  | (with_reducible refine k_or ?_)
  | (with_reducible refine k_ift ?_)
  | (with_reducible refine k_iff ?_)
  | (with_reducible refine k_ifnt ?_)
  | (with_reducible refine k_ifnf ?_)
  | (with_reducible refine k_fz ?_)
  | (with_reducible refine k_lc ?_)
  | (with_reducible refine k_dc ?_)
  | (with_reducible refine k_for ?_)
  | (with_reducible refine k_rng ?_)
  | (with_reducible refine k_iL ?_)
  | (with_reducible refine k_iLl ?_)
  | (with_reducible refine k_iT ?_)
  | (with_reducible refine k_iTt ?_)
  | (with_reducible refine k_zip ?_)
  | (with_reducible refine k_asgp ?_)
  | (with_reducible refine k_atn ?_)
  | (with_reducible refine k_par ?_)
  | (with_reducible refine k_parI ?_)
  | (with_reducible refine k_par3 ?_)
  | (with_reducible refine k_par3I ?_)
  | (with_reducible refine k_sub ?_)
  | (with_reducible refine k_andV ?_)
  | (with_reducible refine k_orV ?_)
  | (with_reducible refine k_notV ?_)
  | (with_reducible refine k_ifE ?_)
  | (with_reducible refine k_chain ?_)
  | (with_reducible refine k_am0 ?_)
  | (with_reducible refine k_am1 ?_)
  | (with_reducible refine k_int ?_)
  | (with_reducible refine k_eqI ?_)
  | (with_reducible refine k_neI ?_)
  | (with_reducible refine k_eqB ?_)
  | (with_reducible refine k_neB ?_)
  | (with_reducible refine k_iaddI ?_)
  | (with_reducible refine k_lenT ?_)
  | (with_reducible refine k_lenL ?_)
  | (with_reducible refine k_tru ?_)
  | (with_reducible refine k_cont ?_)
  | (with_reducible refine k_brk ?_)
  | (with_reducible refine k_retN ?_)
  | (with_reducible refine k_callK ?_)
  | (with_reducible refine k_callS1 ?_)
  | (with_reducible refine k_star ?_)
  | (with_reducible refine k_itL ?_)
  | (with_reducible refine k_itT ?_)
  | (with_reducible refine k_isi ?_)
  | (with_reducible refine k_isiT ?_)
  | (with_reducible refine k_bm ?_)
  | (with_reducible refine k_tup ?_)
  | (with_reducible refine k_lstF ?_)
  | (with_reducible refine k_lstM ?_)
  | (with_reducible refine k_aug (by with_unfolding_all rfl) ?_)
  | (with_reducible refine k_iSv (by with_unfolding_all rfl) ?_)
  | (with_reducible refine k_ixt (by with_unfolding_all rfl) ?_)
  | (with_reducible refine k_at (by with_unfolding_all rfl) ?_)
  | (with_reducible refine k_fzn ‹_› ?_)
  | (refine And.intro (by exact sz (by simp <;> omega)) ?_)
  | fail))
/-- the rows that are made so far -/
structure RI (A : Adr) (x y : D) (m0 : Mem) (p : Addr) (m : Mem) (acc : List D) : Prop where
  gr : Grows m0 (mdel m p)
  at_ : m p = some (.lst acc)
  rows : ∀ row ∈ acc, RowOk A x y m row
section
variable {A : Adr} {x y : D} {m0 m m' : Mem} {p : Addr} {acc : List D}
theorem RI.grow (I : RI A x y m0 p m acc) (g : Grows m m') : RI A x y m0 p m' acc := by
  refine ⟨fun a o _ e => ?_, g.at I.at_, fun row hr => (I.rows row hr).keep fun a o e _ => g.at e⟩
  have h := I.gr.at e
  have ne : a ≠ p := fun z => by rw [z, mdel_same] at h; cases h
  rw [mdel_ne ne] at h ⊢
  exact g.at h
theorem RI.push {row : D} (I : RI A x y m0 p m acc) (r : RowOk A x y m row) : RI A x y m0 p (mset m p (.lst (acc ++ [row]))) (acc ++ [row]) := by
  have nx : ∀ (a : Addr) (o : AO), m a = some o → (∃ c d, o = .exc a c d) ∨ (∃ ys, o = .xd ys) → mset m p (.lst (acc ++ [row])) a = some o := fun a o e h => by
    rw [mset_ne]; exact e
    rintro rfl
    rw [I.at_] at e
    cases e
    rcases h with ⟨_, _, z⟩ | ⟨_, z⟩ <;> cases z
  refine ⟨fun a o _ e => ?_, mset_same, fun r' hr => ?_⟩
  · have h := I.gr.at e
    have ne : a ≠ p := fun z => by rw [z, mdel_same] at h; cases h
    rw [mdel_ne ne] at h ⊢
    rw [mset_ne ne]; exact h
  · rcases List.mem_append.mp hr with hr | hr
    · exact (I.rows r' hr).keep nx
    · rw [List.mem_singleton.mp hr]; exact r.keep nx
theorem grow2 {a b : Addr} {o u : AO} (ha : m a = none) (hb : m b = none) (hn : b ≠ a) : Grows m (mset (mset m b o) a u) :=
  ((Keeps.refl m).new hb).new (by rw [mset_ne hn.symm]; exact ha)
theorem k_mk1 {C : Addr} {f : Str} {s : DSt} {Φ : DK} {j : Nat} {d : D} (h : look s j = some d) (k : mkX C [(f, d)] m Φ) : qMk1 C f (qVar j) s m Φ := by
  unfold qMk1 qVar; rw [h]; exact k
theorem k_kf {C : Addr} {n : Str} {s : DSt} {Φ : DK} {j : Nat} {a dd : Addr} {fs : List (Str × D)} {d : D} (h : look s j = some (.ref a)) (h1 : m a = some (.exc a (.ref C) (some dd))) (h2 : m dd = some (.xd fs)) (h3 : fs.lookup n = some d) (k : Φ d m) : qKf C n (qVar j) s m Φ := by
  unfold qKf qVar; rw [h]; exact ⟨dd, fs, d, h1, h2, h3, k⟩
theorem len40 (h : acc.length ≤ 40) : acc.length < sizeLine := Nat.lt_of_le_of_lt h (by decide)
theorem made1 {C : Addr} {f z b : Str} {i : Nat} {R : QS} {E : DE} {c3 c4 : Option D} (hC : (ycs A)[i]? = some C) (hi : i < 31) (hn : nf i = 1) (hz : nm i = z) (hb : bas i = b) (hl : acc.length ≤ 40) (I : RI A x y m0 p m acc)
    (k : ∀ (m' : Mem) (c3' c4' : Option D) (row : D), RI A x y m0 p m' (acc ++ [row]) → R E [some x, some y, some (.ref p), c3', c4'] m') :
    sSeq (sAsg (.nm 3) (qMk1 C f (qVar 0))) (sSeq (sAsg (.nm 4) (qMk1 C f (qVar 0))) (sSeq (sExpr (qBM "list" (mtL gAppend) (qVar 2) (qCons (qLstF (qCons (qC (.str z)) (qCons (qC (.str b)) (qCons (qLstF (qCons (qVar 3) (qCons (qVar 4) qNil))) (qCons (qLstF (qCons (qLstF (qCons (qKf C f (qVar 3)) qNil)) (qCons (qLstF (qCons (qKf C f (qVar 4)) qNil)) qNil))) qNil))))) qNil))) R)) E [some x, some y, some (.ref p), c3, c4] m := by
  walk_at "st"
  refine k_mk1 rfl fun a u ha hu hau => ?_
  have g1 := grow2 (o := .xd [(f, x)]) (u := .exc a (.ref C) (some u)) ha hu hau
  have a1 : mset (mset m u (.xd [(f, x)])) a (.exc a (.ref C) (some u)) a = some (.exc a (.ref C) (some u)) := mset_same
  have u1 : mset (mset m u (.xd [(f, x)])) a (.exc a (.ref C) (some u)) u = some (.xd [(f, x)]) := by rw [mset_ne hau, mset_same]
  generalize mset (mset m u (.xd [(f, x)])) a (.exc a (.ref C) (some u)) = m1 at g1 a1 u1
  walk_at "st"
  refine k_mk1 rfl fun a' u' ha' hu' hau' => ?_
  have g2 := grow2 (o := .xd [(f, x)]) (u := .exc a' (.ref C) (some u')) ha' hu' hau'
  have a2 : mset (mset m1 u' (.xd [(f, x)])) a' (.exc a' (.ref C) (some u')) a' = some (.exc a' (.ref C) (some u')) := mset_same
  have u2 : mset (mset m1 u' (.xd [(f, x)])) a' (.exc a' (.ref C) (some u')) u' = some (.xd [(f, x)]) := by rw [mset_ne hau', mset_same]
  generalize mset (mset m1 u' (.xd [(f, x)])) a' (.exc a' (.ref C) (some u')) = m2 at g2 a2 u2
  have I2 := I.grow (g1.trans g2)
  have l1 : [(f, x)].lookup f = some x := by simp [List.lookup]
  walk_at "st"
  refine ⟨k_tyL I2.at_, ?_⟩
  walk_at "st"
  refine k_kf rfl (g2.at a1) (g2.at u1) l1 ?_
  walk_at "st"
  refine k_kf rfl a2 u2 l1 ?_
  walk_at "st"
  refine k_app I2.at_ (len40 hl) ?_
  refine k _ _ _ _ (I2.push ⟨i, [a, a'], hi, ?_, Nat.le_refl 2, fun e he => ?_⟩)
  · rw [hn, hz, hb]; rfl
  · simp only [List.mem_cons, List.not_mem_nil, or_false] at he
    rcases he with rfl | rfl
    · exact ⟨C, some u, hC, g2.at a1, .inr ⟨u, _, rfl, g2.at u1⟩⟩
    · exact ⟨C, some u', hC, a2, .inr ⟨u', _, rfl, u2⟩⟩
theorem k_mk2 {C : Addr} {f g : Str} {s : DSt} {Φ : DK} {j j' : Nat} {d e : D} (h : look s j = some d) (h' : look s j' = some e) (k : mkX C [(g, e), (f, d)] m Φ) : qMk2 C f g (qVar j) (qVar j') s m Φ := by
  unfold qMk2 qVar; rw [h]; show match look s j' with | some e => _ | none => _; rw [h']; exact k
theorem k_mk2K {C : Addr} {f g : Str} {s : DSt} {Φ : DK} {j j' : Nat} {d e : D} (h : look s j = some d) (h' : look s j' = some e) (k : mkX C [(g, e), (f, d)] m Φ) : qMk2K C f g (qVar j') (qVar j) s m Φ := by
  unfold qMk2K qVar; rw [h']; show match look s j with | some e => _ | none => _; rw [h]; exact k
theorem made2 {C : Addr} {f g z b : Str} {i : Nat} {R : QS} {E : DE} {c3 c4 : Option D} (hC : (ycs A)[i]? = some C) (hi : i < 31) (hn : nf i = 2) (hz : nm i = z) (hb : bas i = b) (hfg : (f == g) = false) (hl : acc.length ≤ 40) (I : RI A x y m0 p m acc)
    (k : ∀ (m' : Mem) (c3' c4' : Option D) (row : D), RI A x y m0 p m' (acc ++ [row]) → R E [some x, some y, some (.ref p), c3', c4'] m') :
    sSeq (sAsg (.nm 3) (qMk2 C f g (qVar 0) (qVar 1))) (sSeq (sAsg (.nm 4) (qMk2K C f g (qVar 1) (qVar 0))) (sSeq (sExpr (qBM "list" (mtL gAppend) (qVar 2) (qCons (qLstF (qCons (qC (.str z)) (qCons (qC (.str b)) (qCons (qLstF (qCons (qVar 3) (qCons (qVar 4) qNil))) (qCons (qLstF (qCons (qLstF (qCons (qKf C f (qVar 3)) (qCons (qKf C g (qVar 3)) qNil))) (qCons (qLstF (qCons (qKf C f (qVar 4)) (qCons (qKf C g (qVar 4)) qNil))) qNil))) qNil))))) qNil))) R)) E [some x, some y, some (.ref p), c3, c4] m := by
  walk_at "st"
  refine k_mk2 rfl rfl fun a u ha hu hau => ?_
  have g1 := grow2 (o := .xd [(g, y), (f, x)]) (u := .exc a (.ref C) (some u)) ha hu hau
  have a1 : mset (mset m u (.xd [(g, y), (f, x)])) a (.exc a (.ref C) (some u)) a = some (.exc a (.ref C) (some u)) := mset_same
  have u1 : mset (mset m u (.xd [(g, y), (f, x)])) a (.exc a (.ref C) (some u)) u = some (.xd [(g, y), (f, x)]) := by rw [mset_ne hau, mset_same]
  generalize mset (mset m u (.xd [(g, y), (f, x)])) a (.exc a (.ref C) (some u)) = m1 at g1 a1 u1
  walk_at "st"
  refine k_mk2K rfl rfl fun a' u' ha' hu' hau' => ?_
  have g2 := grow2 (o := .xd [(g, y), (f, x)]) (u := .exc a' (.ref C) (some u')) ha' hu' hau'
  have a2 : mset (mset m1 u' (.xd [(g, y), (f, x)])) a' (.exc a' (.ref C) (some u')) a' = some (.exc a' (.ref C) (some u')) := mset_same
  have u2 : mset (mset m1 u' (.xd [(g, y), (f, x)])) a' (.exc a' (.ref C) (some u')) u' = some (.xd [(g, y), (f, x)]) := by rw [mset_ne hau', mset_same]
  generalize mset (mset m1 u' (.xd [(g, y), (f, x)])) a' (.exc a' (.ref C) (some u')) = m2 at g2 a2 u2
  have I2 := I.grow (g1.trans g2)
  have l1 : [(g, y), (f, x)].lookup f = some x := by simp [List.lookup, hfg]
  have l2 : [(g, y), (f, x)].lookup g = some y := by simp [List.lookup]
  walk_at "st"
  refine ⟨k_tyL I2.at_, ?_⟩
  walk_at "st"
  refine k_kf rfl (g2.at a1) (g2.at u1) l1 ?_
  walk_at "st"
  refine k_kf rfl (g2.at a1) (g2.at u1) l2 ?_
  walk_at "st"
  refine k_kf rfl a2 u2 l1 ?_
  walk_at "st"
  refine k_kf rfl a2 u2 l2 ?_
  walk_at "st"
  refine k_app I2.at_ (len40 hl) ?_
  refine k _ _ _ _ (I2.push ⟨i, [a, a'], hi, ?_, Nat.le_refl 2, fun e he => ?_⟩)
  · rw [hn, hz, hb]; rfl
  · simp only [List.mem_cons, List.not_mem_nil, or_false] at he
    rcases he with rfl | rfl
    · exact ⟨C, some u, hC, g2.at a1, .inr ⟨u, _, rfl, g2.at u1⟩⟩
    · exact ⟨C, some u', hC, a2, .inr ⟨u', _, rfl, u2⟩⟩
theorem made0 {C : Addr} {z b : Str} {i : Nat} {R : QS} {E : DE} {c3 c4 : Option D} (hC : (ycs A)[i]? = some C) (hi : i < 31) (hn : nf i = 0) (hz : nm i = z) (hb : bas i = b) (hl : acc.length ≤ 40) (I : RI A x y m0 p m acc)
    (k : ∀ (m' : Mem) (c3' c4' : Option D) (row : D), RI A x y m0 p m' (acc ++ [row]) → R E [some x, some y, some (.ref p), c3', c4'] m') :
    sSeq (sExpr (qBM "list" (mtL gAppend) (qVar 2) (qCons (qLstF (qCons (qC (.str z)) (qCons (qC (.str b)) (qCons (qLstF (qCons (qMk0 C) qNil)) (qCons (qLstF (qCons (qLstF qNil) qNil)) qNil))))) qNil))) R E [some x, some y, some (.ref p), c3, c4] m := by
  walk_at "st"
  refine ⟨k_tyL I.at_, ?_⟩
  walk_at "st"
  refine fun a ha => ?_
  have g1 : Grows m (mset m a (.exc a (.ref C) none)) := (Keeps.refl m).new ha
  have a1 : mset m a (.exc a (.ref C) none) a = some (.exc a (.ref C) none) := mset_same
  generalize mset m a (.exc a (.ref C) none) = m1 at g1 a1
  have I2 := I.grow g1
  walk_at "st"
  refine k_app I2.at_ (len40 hl) ?_
  refine k _ _ _ _ (I2.push ⟨i, [a], hi, ?_, by show 1 ≤ 2; decide, fun e he => ?_⟩)
  · rw [hn, hz, hb]; rfl
  · rw [List.mem_singleton.mp he]
    exact ⟨C, none, hC, a1, .inl rfl⟩
theorem mset_mdel {o : AO} (h : m p = some o) : mset (mdel m p) p o = m := by
  funext b; unfold mset mdel; split
  · rename_i e; rw [e, h]
  · rfl
theorem made_end {n : Nat} {Φ : DK} (I : RI A x y m0 p m acc) (hl : acc.length = n) (k : ∀ m' rows p, Grows m0 m' → m' p = none → rows.length = n → (∀ row ∈ rows, RowOk A x y m' row) → Φ (.ref p) (mset m' p (.lst rows))) : Φ (.ref p) m := by
  have h := k (mdel m p) acc p I.gr mdel_same hl fun row hr => (I.rows row hr).keep fun a o e h => by
    rw [mdel_ne]; exact e
    rintro rfl
    rw [I.at_] at e
    cases e
    rcases h with ⟨_, _, z⟩ | ⟨_, z⟩ <;> cases z
  rw [mset_mdel I.at_] at h
  exact h
theorem RI.start (hp : m0 p = none) : RI A x y m0 p (mset m0 p (.lst [])) [] := ⟨by rw [mdel_mset hp]; exact Keeps.refl m0, mset_same, fun _ h => nomatch h⟩
end
theorem len_made {n : Nat} {A : Adr} : ∀ ds m Φ, made n A ds m Φ → ds.length = 2 := by rintro _ _ _ ⟨_, _, rfl, _⟩; rfl
theorem len_law_first_made (A : Adr) : ∀ ds m Φ, sp_law_first_made A ds m Φ → ds.length = 2 := len_made
theorem len_law_middle_made (A : Adr) : ∀ ds m Φ, sp_law_middle_made A ds m Φ → ds.length = 2 := len_made
theorem len_law_last_made (A : Adr) : ∀ ds m Φ, sp_law_last_made A ds m Φ → ds.length = 2 := len_made
theorem rd_law_first_made (A : Adr) : ∀ ds m Φ, sp_law_first_made A ds m Φ → qb_law_first_made A (bodyW Φ) (begin_ 5 ds) m := by
  rintro _ m Φ ⟨x, y, rfl, k⟩
  unfold qb_law_first_made
  walk_at "st"
  refine fun p hp => ?_
  have I := RI.start (A := A) (x := x) (y := y) hp
  refine made1 (i := 0) rfl (by decide) rfl rfl rfl (Nat.le_of_ble_eq_true rfl) I fun m0 c d0 r0 I => ?_
  refine made1 (i := 1) rfl (by decide) rfl rfl rfl (Nat.le_of_ble_eq_true rfl) I fun m1 c d1 r1 I => ?_
  refine made1 (i := 2) rfl (by decide) rfl rfl rfl (Nat.le_of_ble_eq_true rfl) I fun m2 c d2 r2 I => ?_
  refine made1 (i := 3) rfl (by decide) rfl rfl rfl (Nat.le_of_ble_eq_true rfl) I fun m3 c d3 r3 I => ?_
  refine made1 (i := 4) rfl (by decide) rfl rfl rfl (Nat.le_of_ble_eq_true rfl) I fun m4 c d4 r4 I => ?_
  refine made2 (i := 5) rfl (by decide) rfl rfl rfl (by decide) (Nat.le_of_ble_eq_true rfl) I fun m5 c d5 r5 I => ?_
  refine made1 (i := 6) rfl (by decide) rfl rfl rfl (Nat.le_of_ble_eq_true rfl) I fun m6 c d6 r6 I => ?_
  refine made1 (i := 7) rfl (by decide) rfl rfl rfl (Nat.le_of_ble_eq_true rfl) I fun m7 c d7 r7 I => ?_
  refine made2 (i := 8) rfl (by decide) rfl rfl rfl (by decide) (Nat.le_of_ble_eq_true rfl) I fun m8 c d8 r8 I => ?_
  refine made2 (i := 9) rfl (by decide) rfl rfl rfl (by decide) (Nat.le_of_ble_eq_true rfl) I fun m9 c d9 r9 I => ?_
  refine made2 (i := 10) rfl (by decide) rfl rfl rfl (by decide) (Nat.le_of_ble_eq_true rfl) I fun m10 c d10 r10 I => ?_
  exact wk_at (made_end I rfl k)
theorem rd_law_middle_made (A : Adr) : ∀ ds m Φ, sp_law_middle_made A ds m Φ → qb_law_middle_made A (bodyW Φ) (begin_ 5 ds) m := by
  rintro _ m Φ ⟨x, y, rfl, k⟩
  unfold qb_law_middle_made
  walk_at "st"
  refine fun p hp => ?_
  have I := RI.start (A := A) (x := x) (y := y) hp
  refine made1 (i := 11) rfl (by decide) rfl rfl rfl (Nat.le_of_ble_eq_true rfl) I fun m11 c d11 r11 I => ?_
  refine made1 (i := 12) rfl (by decide) rfl rfl rfl (Nat.le_of_ble_eq_true rfl) I fun m12 c d12 r12 I => ?_
  refine made1 (i := 13) rfl (by decide) rfl rfl rfl (Nat.le_of_ble_eq_true rfl) I fun m13 c d13 r13 I => ?_
  refine made1 (i := 14) rfl (by decide) rfl rfl rfl (Nat.le_of_ble_eq_true rfl) I fun m14 c d14 r14 I => ?_
  refine made0 (i := 15) rfl (by decide) rfl rfl rfl (Nat.le_of_ble_eq_true rfl) I fun m15 c d15 r15 I => ?_
  refine made1 (i := 16) rfl (by decide) rfl rfl rfl (Nat.le_of_ble_eq_true rfl) I fun m16 c d16 r16 I => ?_
  refine made1 (i := 17) rfl (by decide) rfl rfl rfl (Nat.le_of_ble_eq_true rfl) I fun m17 c d17 r17 I => ?_
  refine made1 (i := 18) rfl (by decide) rfl rfl rfl (Nat.le_of_ble_eq_true rfl) I fun m18 c d18 r18 I => ?_
  refine made2 (i := 19) rfl (by decide) rfl rfl rfl (by decide) (Nat.le_of_ble_eq_true rfl) I fun m19 c d19 r19 I => ?_
  refine made1 (i := 20) rfl (by decide) rfl rfl rfl (Nat.le_of_ble_eq_true rfl) I fun m20 c d20 r20 I => ?_
  refine made1 (i := 21) rfl (by decide) rfl rfl rfl (Nat.le_of_ble_eq_true rfl) I fun m21 c d21 r21 I => ?_
  exact wk_at (made_end I rfl k)
theorem rd_law_last_made (A : Adr) : ∀ ds m Φ, sp_law_last_made A ds m Φ → qb_law_last_made A (bodyW Φ) (begin_ 5 ds) m := by
  rintro _ m Φ ⟨x, y, rfl, k⟩
  unfold qb_law_last_made
  walk_at "st"
  refine fun p hp => ?_
  have I := RI.start (A := A) (x := x) (y := y) hp
  refine made1 (i := 22) rfl (by decide) rfl rfl rfl (Nat.le_of_ble_eq_true rfl) I fun m22 c d22 r22 I => ?_
  refine made1 (i := 23) rfl (by decide) rfl rfl rfl (Nat.le_of_ble_eq_true rfl) I fun m23 c d23 r23 I => ?_
  refine made1 (i := 24) rfl (by decide) rfl rfl rfl (Nat.le_of_ble_eq_true rfl) I fun m24 c d24 r24 I => ?_
  refine made1 (i := 25) rfl (by decide) rfl rfl rfl (Nat.le_of_ble_eq_true rfl) I fun m25 c d25 r25 I => ?_
  refine made1 (i := 26) rfl (by decide) rfl rfl rfl (Nat.le_of_ble_eq_true rfl) I fun m26 c d26 r26 I => ?_
  refine made1 (i := 27) rfl (by decide) rfl rfl rfl (Nat.le_of_ble_eq_true rfl) I fun m27 c d27 r27 I => ?_
  refine made1 (i := 28) rfl (by decide) rfl rfl rfl (Nat.le_of_ble_eq_true rfl) I fun m28 c d28 r28 I => ?_
  refine made1 (i := 29) rfl (by decide) rfl rfl rfl (Nat.le_of_ble_eq_true rfl) I fun m29 c d29 r29 I => ?_
  refine made1 (i := 30) rfl (by decide) rfl rfl rfl (Nat.le_of_ble_eq_true rfl) I fun m30 c d30 r30 I => ?_
  exact wk_at (made_end I rfl k)
end K70
end
section
namespace K70
open PySem PySem.Spec PyProof.Rows L2 L3 L4 VL
open C13 (BagP)
local macro_rules | `(tactic| walk_at "st") => `(tactic| repeat (first
  | (with_reducible refine k_var (by with_unfolding_all rfl) ?_)
  | (with_reducible refine k_seq ?_)
  | (with_reducible refine k_cons ?_)
  | (with_reducible refine k_nil ?_)
  | (with_reducible refine k_c ?_)
  | (with_reducible refine k_op ?_)
  | (with_reducible refine k_asg ?_)
  | (with_reducible refine k_call ?_)
  | (with_reducible refine k_cb ?_)
  | (with_reducible refine k_i0 ?_)
  | (with_reducible refine k_addI ?_)
  | (with_reducible refine k_B ?_)
  | (with_reducible refine k_bk ?_)
  | (with_reducible refine k_if ?_)
  | (with_reducible refine k_ret ?_)
  | (with_reducible refine k_expr ?_)
  | (with_reducible refine k_next ?_)
  | (with_reducible refine k_not ?_)
  | (with_reducible refine k_and ?_)
  | (with_reducible refine k_or ?_)
  | (with_reducible refine k_ift ?_)
  | (with_reducible refine k_iff ?_)
  | (with_reducible refine k_ifnt ?_)
  | (with_reducible refine k_ifnf ?_)
  | (with_reducible refine k_fz ?_)
  | (with_reducible refine k_lc ?_)
  | (with_reducible refine k_dc ?_)
  | (with_reducible refine k_for ?_)
  | (with_reducible refine k_rng ?_)
  | (with_reducible refine k_iL ?_)
  | (with_reducible refine k_iLl ?_)
  | (with_reducible refine k_iT ?_)
  | (with_reducible refine k_iTt ?_)
  | (with_reducible refine k_zip ?_)
  | (with_reducible refine k_asgp ?_)
  | (with_reducible refine k_atn ?_)
  | (with_reducible refine k_par ?_)
  | (with_reducible refine k_parI ?_)
  | (with_reducible refine k_par3 ?_)
  | (with_reducible refine k_par3I ?_)
  | (with_reducible refine k_sub ?_)
  | (with_reducible refine k_andV ?_)
  | (with_reducible refine k_orV ?_)
  | (with_reducible refine k_notV ?_)
  | (with_reducible refine k_ifE ?_)
  | (with_reducible refine k_chain ?_)
  | (with_reducible refine k_am0 ?_)
  | (with_reducible refine k_am1 ?_)
  | (with_reducible refine k_int ?_)
  | (with_reducible refine k_eqI ?_)
  | (with_reducible refine k_neI ?_)
  | (with_reducible refine k_eqB ?_)
  | (with_reducible refine k_neB ?_)
  | (with_reducible refine k_iaddI ?_)
  | (with_reducible refine k_lenT ?_)
  | (with_reducible refine k_lenL ?_)
  | (with_reducible refine k_tru ?_)
  | (with_reducible refine k_cont ?_)
  | (with_reducible refine k_brk ?_)
  | (with_reducible refine k_retN ?_)
  | (with_reducible refine k_callK ?_)
  | (with_reducible refine k_callS1 ?_)
  | (with_reducible refine k_star ?_)
  | (with_reducible refine k_itL ?_)
  | (with_reducible refine k_itT ?_)
  | (with_reducible refine k_isi ?_)
  | (with_reducible refine k_isiT ?_)
  | (with_reducible refine k_bm ?_)
  | (with_reducible refine k_tup ?_)
  | (with_reducible refine k_lstF ?_)
  | (with_reducible refine k_lstM ?_)
  | (with_reducible refine k_aug (by with_unfolding_all rfl) ?_)
  | (with_reducible refine k_iSv (by with_unfolding_all rfl) ?_)
  | (with_reducible refine k_ixt (by with_unfolding_all rfl) ?_)
  | (with_reducible refine k_at (by with_unfolding_all rfl) ?_)
  | (with_reducible refine k_fzn ‹_› ?_)
  | (refine And.intro (by exact sz (by simp <;> omega)) ?_)
  | fail))
theorem txts : ∀ i, i < 31 → PyData.strOk (nm i) = true ∧ PyData.strOk (bas i) = true ∧ PyData.strOk (abv i) = true := cut31 ⟨by decide +kernel, by decide +kernel, by decide +kernel⟩ ⟨by decide +kernel, by decide +kernel, by decide +kernel⟩ ⟨by decide +kernel, by decide +kernel, by decide +kernel⟩ ⟨by decide +kernel, by decide +kernel, by decide +kernel⟩ ⟨by decide +kernel, by decide +kernel, by decide +kernel⟩ ⟨by decide +kernel, by decide +kernel, by decide +kernel⟩ ⟨by decide +kernel, by decide +kernel, by decide +kernel⟩ ⟨by decide +kernel, by decide +kernel, by decide +kernel⟩ ⟨by decide +kernel, by decide +kernel, by decide +kernel⟩ ⟨by decide +kernel, by decide +kernel, by decide +kernel⟩ ⟨by decide +kernel, by decide +kernel, by decide +kernel⟩ ⟨by decide +kernel, by decide +kernel, by decide +kernel⟩ ⟨by decide +kernel, by decide +kernel, by decide +kernel⟩ ⟨by decide +kernel, by decide +kernel, by decide +kernel⟩ ⟨by decide +kernel, by decide +kernel, by decide +kernel⟩ ⟨by decide +kernel, by decide +kernel, by decide +kernel⟩ ⟨by decide +kernel, by decide +kernel, by decide +kernel⟩ ⟨by decide +kernel, by decide +kernel, by decide +kernel⟩ ⟨by decide +kernel, by decide +kernel, by decide +kernel⟩ ⟨by decide +kernel, by decide +kernel, by decide +kernel⟩ ⟨by decide +kernel, by decide +kernel, by decide +kernel⟩ ⟨by decide +kernel, by decide +kernel, by decide +kernel⟩ ⟨by decide +kernel, by decide +kernel, by decide +kernel⟩ ⟨by decide +kernel, by decide +kernel, by decide +kernel⟩ ⟨by decide +kernel, by decide +kernel, by decide +kernel⟩ ⟨by decide +kernel, by decide +kernel, by decide +kernel⟩ ⟨by decide +kernel, by decide +kernel, by decide +kernel⟩ ⟨by decide +kernel, by decide +kernel, by decide +kernel⟩ ⟨by decide +kernel, by decide +kernel, by decide +kernel⟩ ⟨by decide +kernel, by decide +kernel, by decide +kernel⟩ ⟨by decide +kernel, by decide +kernel, by decide +kernel⟩
theorem nf_le : ∀ i, i < 31 → nf i = 0 ∨ nf i = 1 ∨ nf i = 2 := cut31 (by decide) (by decide) (by decide) (by decide) (by decide) (by decide) (by decide) (by decide) (by decide) (by decide) (by decide) (by decide) (by decide) (by decide) (by decide) (by decide) (by decide) (by decide) (by decide) (by decide) (by decide) (by decide) (by decide) (by decide) (by decide) (by decide) (by decide) (by decide) (by decide) (by decide) (by decide)
theorem flat_sort {n : Nat} {zs : List Str} (h : ∀ z ∈ zs, PyData.strOk z = true) (hl : zs.length < 1000000) : flatS (n + 1) (.lst ((sortS zs).map D.str)) := by
  refine ⟨by rw [List.length_map, (sortS_perm zs).length_eq]; exact hl, fun d hd => ?_⟩
  obtain ⟨z, hz, rfl⟩ := List.mem_map.mp hd
  exact flatS_str (h z ((sortS_perm zs).mem_iff.mp hz))
theorem like_self {A : Adr} {x y : D} {m : Mem} {Φ : DK} (e : x = y) (f : flatS 5 x) (k : Φ (.bl true) m) : sp_law_like 6 A [x, y] m Φ := ⟨x, y, rfl, .inl ⟨e, f⟩, k⟩
theorem perm3 (a b c : Str) : [b, c, a].Perm [a, b, c] := (List.perm_append_comm (l₁ := [b, c]) (l₂ := [a]))
theorem xy_cut (x y : D) {n : Nat} (h : n = 0 ∨ n = 1 ∨ n = 2) : L3.cutD [x, y] none (some (([x, y].take n).length : Int)) = [x, y].take n := by
  rcases h with rfl | rfl | rfl <;> rfl
theorem xy_sl {x y : D} {n : Nat} (h : n = 0 ∨ n = 1 ∨ n = 2) {c0 c3 c4 c5 c6 c7 c8 : Option D} {m : Mem} {Φ : DK} (k : Φ (.lst ([x, y].take n)) m) :
    qSlL (qLstF (qCons (qVar 1) (qCons (qVar 2) qNil))) qNoPart (qPart (qCB bLen (qCons (qVar 9) qNil))) [c0, some x, some y, c3, c4, c5, c6, c7, c8, some (.lst ([x, y].take n))] m Φ := by
  refine ⟨by show 2 ≤ 16777216; decide, ?_⟩
  show Φ (.lst (L3.cutD [x, y] none (some (([x, y].take n).length : Int)))) m
  rw [xy_cut x y h]; exact k
/-- one exception of a row -/
theorem so_body {A : Adr} {x y : D} {m : Mem} {q e : Addr} {i : Nat} {ab : List (Key × D)} {E : DE} {c0 c6 c7 : Option D} (fx : flatS 4 x) (fy : flatS 4 y) (hi : i < 31) (hq : m q = some (.dK ab)) (hAB : ∀ i, i < 31 → valD ab (Sum.inr (bas i)) = some (.str (abv i))) (h : Hold A m i e)
    (k : E.nx [c0, some x, some y, some (.ref q), some (.str (nm i)), some (.str (bas i)), c6, c7, some (.ref e), some (.lst ([x, y].take (nf i)))] m) :
    (sSeq (sIf (qNot (qB (qCall (sp_law_like 6 A) (qCons (qFreeze (qCB bSortS (qCons (qCall (sp_law_known A) (qCons (qVar 8) qNil)) qNil))) (qCons (qFreeze (qCB bSortS (qCons (qLstF (qCons (qVar 4) (qCons (qVar 5) (qCons (qOp vIx (qVar 3) (qVar 5)) qNil)))) qNil))) qNil))))) (sRet (qC (.bl false))) sNext)
    (sIf (qNot (qB (qCall (sp_law_like 6 A) (qCons (qVar 9) (qCons (qSlL (qLstF (qCons (qVar 1) (qCons (qVar 2) qNil))) qNoPart (qPart (qCB bLen (qCons (qVar 9) qNil)))) qNil))))) (sRet (qC (.bl false))) sNext)) E [c0, some x, some y, some (.ref q), some (.str (nm i)), some (.str (bas i)), c6, c7, some (.ref e), some (.lst ([x, y].take (nf i)))] m := by
  obtain ⟨t1, t2, t3⟩ := txts i hi
  generalize hQ : qSlL (qLstF (qCons (qVar 1) (qCons (qVar 2) qNil))) qNoPart (qPart (qCB bLen (qCons (qVar 9) qNil))) = Q
  walk_at "st"
  refine ⟨e, i, rfl, hi, h, ?_⟩
  walk_at "st"
  refine ⟨[bas i, abv i, nm i], rfl, by show 3 < 64; decide, fun p hp => k_fzn hp ?_⟩
  walk_at "st"
  refine .inr ⟨.str (abv i), ⟨ab, Sum.inr (bas i), .inl hq, rfl, (hAB i hi).symm⟩, ?_⟩
  walk_at "st"
  refine ⟨[nm i, bas i, abv i], rfl, by show 3 < 64; decide, fun p hp => k_fzn hp ?_⟩
  walk_at "st"
  refine like_self (by rw [sortS_congr (perm3 (nm i) (bas i) (abv i))]) (flat_sort (fun z hz => ?_) (by show 3 < 1000000; decide)) ?_
  · simp only [List.mem_cons, List.not_mem_nil, or_false] at hz
    rcases hz with rfl | rfl | rfl
    · exact t2
    · exact t3
    · exact t1
  walk_at "st"
  subst hQ
  refine xy_sl (nf_le i hi) ?_
  walk_at "st"
  refine like_self rfl ⟨?_, fun d hd => ?_⟩ ?_
  · exact Nat.lt_of_le_of_lt (List.length_take_le' _ _) (show 2 < 1000000 by decide)
  · have hd := List.mem_of_mem_take hd
    simp only [List.mem_cons, List.not_mem_nil, or_false] at hd
    rcases hd with rfl | rfl
    · exact fx
    · exact fy
  walk_at "st"
  exact k
theorem zip_rep {errs : List Addr} {g : D} : ∀ {j : Nat} {d : D}, (zipD (errs.map D.ref) (List.replicate errs.length g))[j]? = some d → ∃ e ∈ errs, d = .tup [.ref e, g] := by
  induction errs with
  | nil => intro j d h; simp [zipD] at h
  | cons a r ih =>
    intro j d h
    cases j with
    | zero => exact ⟨a, List.mem_cons_self .., (Option.some.inj h).symm⟩
    | succ j =>
      obtain ⟨e, he, rfl⟩ := ih (j := j) h
      exact ⟨e, List.mem_cons_of_mem _ he, rfl⟩
theorem len_law_rows_so (A : Adr) : ∀ ds m Φ, sp_law_rows_so A ds m Φ → ds.length = 3 := by rintro _ _ _ ⟨_, _, _, rfl, _⟩; rfl
theorem rd_law_rows_so (A : Adr) : ∀ ds m Φ, sp_law_rows_so A ds m Φ → qb_law_rows_so A (bodyW Φ) (begin_ 10 ds) m := by
  rintro _ m Φ ⟨rows, x, y, rfl, fx, fy, hl, hr, k⟩
  unfold qb_law_rows_so
  walk_at "st"
  refine CF.k_disp fun q hq => ?_
  refine CF.k_pcons ?_
  walk_at "st"
  refine CF.k_pcons ?_
  walk_at "st"
  refine CF.k_pcons ?_
  walk_at "st"
  refine CF.k_pnil ⟨mset_same, _, rfl, by decide, ?_⟩
  rw [mset_mset]
  have hAB : ∀ i, i < 31 → valD (mergeD [] [(Sum.inr "BandError", D.str "ValueError"), (Sum.inr "Missing", D.str "LookupError"), (Sum.inr "Refused", D.str "RuntimeError")]) (Sum.inr (bas i)) = some (.str (abv i)) := cut31 rfl rfl rfl rfl rfl rfl rfl rfl rfl rfl rfl rfl rfl rfl rfl rfl rfl rfl rfl rfl rfl rfl rfl rfl rfl rfl rfl rfl rfl rfl rfl
  have hM : mset m q (.dK (mergeD [] [(Sum.inr "BandError", D.str "ValueError"), (Sum.inr "Missing", D.str "LookupError"), (Sum.inr "Refused", D.str "RuntimeError")])) q = some (.dK (mergeD [] [(Sum.inr "BandError", D.str "ValueError"), (Sum.inr "Missing", D.str "LookupError"), (Sum.inr "Refused", D.str "RuntimeError")])) := mset_same
  generalize (mergeD [] [(Sum.inr "BandError", D.str "ValueError"), (Sum.inr "Missing", D.str "LookupError"), (Sum.inr "Refused", D.str "RuntimeError")]) = ab at hAB hM
  walk_at "st"
  refine ⟨fun i s' m' => m' = mset m q (.dK ab) ∧ ∃ c4 c5 c6 c7 c8 c9, s' = [some (.lst rows), some x, some y, some (.ref q), c4, c5, c6, c7, c8, c9], ⟨rfl, _, _, _, _, _, _, rfl⟩, fun _ _ _ _ _ => trivial, ?_, ?_⟩
  · rintro j row s' m' hj ⟨rfl, c4, c5, c6, c7, c8, c9, rfl⟩
    obtain ⟨i, errs, hi, rfl, h2, hE⟩ := hr row (List.mem_of_getElem? hj)
    walk_at "st"
    refine ⟨fun _ s' m' => m' = mset m q (.dK ab) ∧ ∃ c8 c9, s' = [some (.lst rows), some x, some y, some (.ref q), some (.str (nm i)), some (.str (bas i)), some (.lst (errs.map D.ref)), some (.lst (List.replicate errs.length (.lst ([x, y].take (nf i))))), c8, c9], ⟨rfl, _, _, rfl⟩, fun _ _ _ _ _ => trivial, ?_, ?_⟩
    · rintro j' d s' m' hj' ⟨rfl, c8, c9, rfl⟩
      obtain ⟨e, he, rfl⟩ := zip_rep hj'
      exact so_body fx fy hi hM hAB ((hE e he).new hq) ⟨rfl, _, _, rfl⟩
    · rintro s' m' ⟨rfl, c8, c9, rfl⟩
      exact ⟨rfl, _, _, _, _, _, _, rfl⟩
  · rintro s' m' ⟨rfl, c4, c5, c6, c7, c8, c9, rfl⟩
    walk_at "st"
    exact ⟨m, MLe.drop hq, k⟩
theorem pz_flat : ∀ {n : Nat} {d : D}, QA.Pz n d → flatS n d
  | n, .non, _ => flatS_non
  | n, .bl _, _ => flatS_bl _
  | n, .int _, _ => flatS_int _
  | n, .str _, h => flatS_str (QA.pz_str.mp h).1
  | n + 1, .tup ds, h => ⟨Nat.lt_trans h.1 (by decide), fun d hd => pz_flat (h.2 d hd)⟩
  | n + 1, .lst ds, h => ⟨Nat.lt_trans h.1 (by decide), fun d hd => pz_flat (h.2 d hd)⟩
  | 0, .tup _, h => h.elim
  | 0, .lst _, h => h.elim
  | n, .ref _, h => by cases n <;> exact h.elim
/-- the bag and the lambdas' table -/
structure BT (A : Adr) (b : Addr) (m : Mem) : Prop where
  hb : m b = some (.any BagP)
  ht : m A.tb_law = some (.tab (lamq "law"))
theorem BT.grow {A : Adr} {b : Addr} {m m' : Mem} (h : BT A b m) (g : Grows m m') : BT A b m' := ⟨g.at h.hb, g.at h.ht⟩
theorem rows_keep {A : Adr} {x y : D} {m m' : Mem} {rows : List D} (h : ∀ r ∈ rows, RowOk A x y m r) (g : Grows m m') : ∀ r ∈ rows, RowOk A x y m' r := fun r hr => (h r hr).keep fun a o e _ => g.at e
theorem rows_app {A : Adr} {x y : D} {m : Mem} {r1 r2 : List D} (h1 : ∀ r ∈ r1, RowOk A x y m r) (h2 : ∀ r ∈ r2, RowOk A x y m r) : ∀ r ∈ r1 ++ r2, RowOk A x y m r := fun r hr => (List.mem_append.mp hr).elim (h1 r) (h2 r)
/-- all rows -/
theorem k_rows {A : Adr} {x y : D} {m : Mem} {s : DSt} {Φ : DK} {j j' : Nat} (h : look s j = some x) (h' : look s j' = some y) (k : ∀ m' rows, Grows m m' → rows.length = 31 → (∀ r ∈ rows, RowOk A x y m' r) → Φ (.lst rows) m') :
    (qOp qAdd (qOp qAdd (qFreeze (qCall (sp_law_first_made A) (qCons (qVar j) (qCons (qVar j') qNil)))) (qFreeze (qCall (sp_law_middle_made A) (qCons (qVar j) (qCons (qVar j') qNil))))) (qFreeze (qCall (sp_law_last_made A) (qCons (qVar j) (qCons (qVar j') qNil))))) s m Φ := by
  have q : ∀ {sp : LSp} {m : Mem} {F : DK}, sp [x, y] m (fun d m1 => FzK d m1 F) → qFreeze (qCall sp (qCons (qVar j) (qCons (qVar j') qNil))) s m F := fun {sp m F} z => by
    refine k_fz (k_call (k_cons (k_var h (k_cons (k_var h' (k_nil z))))))
  refine k_op (k_op (q ⟨x, y, rfl, fun m1 rows1 p1 g1 n1 l1 r1 => k_fzn n1 (q ⟨x, y, rfl, fun m2 rows2 p2 g2 n2 l2 r2 => k_fzn n2 ?_⟩)⟩))
  refine ⟨by rw [l1, l2]; decide, q ⟨x, y, rfl, fun m3 rows3 p3 g3 n3 l3 r3 => k_fzn n3 ?_⟩⟩
  refine ⟨by rw [List.length_append, l1, l2, l3]; decide, k m3 _ ((g1.trans g2).trans g3) (by rw [List.length_append, List.length_append, l1, l2, l3]) (rows_app (rows_app (rows_keep r1 (g2.trans g3)) (rows_keep r2 g3)) r3)⟩
theorem look1 {f : Str} {x : D} : [(f, x)].lookup f = some x := by simp [List.lookup]
theorem k_kfq {C : Addr} {n : Str} {qe : QE} {s : DSt} {m : Mem} {Φ : DK} (h : qe s m (kfI C n Φ)) : qKf C n qe s m Φ := h
theorem k_kfe {C e dd : Addr} {n : Str} {fs : List (Str × D)} {d : D} {m : Mem} {Φ : DK} (h1 : m e = some (.exc e (.ref C) (some dd))) (h2 : m dd = some (.xd fs)) (h3 : fs.lookup n = some d) (k : Φ d m) : kfI C n Φ (.ref e) m := ⟨dd, fs, d, h1, h2, h3, k⟩
/-- what is taken of a lambda that raises -/
theorem k_tak {A : Adr} {b C : Addr} {j jx : Nat} {f w : Str} {x : D} {m : Mem} {s : DSt} {Φ : DK} {sp : LSpE} (hs : ∀ {ds m Φ Ψ}, spx1 C f ds m Φ Ψ → sp ds m Φ Ψ) (hT : (C, j) ∈ [(A.Short, 0), (A.UnknownHop, 1), (A.Started, 2)]) (hj : (qss_law_taken A)[j]? = some (fun _ _ _ => sRet (qLstF (qCons (qC (.str w)) (qCons (qVar 1) qNil)))))
    (B : BT A b m) (hx : look s jx = some x) (k : ∀ m' e d, Grows m m' → m' e = some (.exc e (.ref C) (some d)) → m' d = some (.xd [(f, x)]) → Φ (.lst [.str w, .ref e]) m') :
    qTak A.tb_law (lamq "law") [(A.Short, 0), (A.UnknownHop, 1), (A.Started, 2)] (zCall sp (qCons (qVar jx) qNil)) (qss_law_taken A) (qr_law_taken A) s m Φ := by
  refine ⟨B.ht, k_cons (k_var hx (k_nil (hs ⟨x, rfl, fun d hd => ⟨C, j, _, hT, rfl, hj, fun e he => ?_⟩⟩)))⟩
  have hde : d ≠ e := fun z => by rw [← z, mset_same] at he; cases he
  have he' : m e = none := by rw [mset_ne hde.symm] at he; exact he
  refine ⟨by show 2 ≤ 16777216; decide, _, MLe.refl _, k _ e d ?_ mset_same (by rw [mset_ne hde, mset_same])⟩
  exact ((Keeps.refl m).new hd).new he
theorem flat_one {x y z : D} {v : D} (h : v ∈ [x, y, z]) (hx : flatS 4 x) (hy : flatS 4 y) (hz : flatS 4 z) : flatS 4 v := by
  simp only [List.mem_cons, List.not_mem_nil, or_false] at h
  rcases h with rfl | rfl | rfl
  · exact hx
  · exact hy
  · exact hz
theorem len_law {T : List (Addr × Str)} : ∀ ds m Φ, lspLawTs T ds m Φ → ds.length = 1 := by rintro _ _ _ ⟨_, rfl, _⟩; rfl
theorem rd_law (A : Adr) : ∀ ds m Φ, lspLawTs [(A.tb_law, lamq "law")] ds m Φ → qb_law A (bodyW Φ) (begin_ 10 ds) m := by
  rintro _ m Φ ⟨ns, rfl, hl, hT, hm, k⟩
  unfold qb_law
  generalize hQ1 : qTak A.tb_law (lamq "law") [(A.Short, 0), (A.UnknownHop, 1), (A.Started, 2)] (zCall (spx_law_thrown A) (qCons (qVar 3) qNil)) (qss_law_taken A) (qr_law_taken A) = Q1
  generalize hQ2 : qTak A.tb_law (lamq "law") [(A.Short, 0), (A.UnknownHop, 1), (A.Started, 2)] (zCall (spx_law_missed A) (qCons (qVar 3) qNil)) (qss_law_taken A) (qr_law_taken A) = Q2
  generalize hQ3 : qTak A.tb_law (lamq "law") [(A.Short, 0), (A.UnknownHop, 1), (A.Started, 2)] (zCall (spx_law_refused A) (qCons (qVar 3) qNil)) (qss_law_taken A) (qr_law_taken A) = Q3
  generalize hR1 : (qOp qAdd (qOp qAdd (qFreeze (qCall (sp_law_first_made A) (qCons (qVar 3) (qCons (qVar 4) qNil)))) (qFreeze (qCall (sp_law_middle_made A) (qCons (qVar 3) (qCons (qVar 4) qNil))))) (qFreeze (qCall (sp_law_last_made A) (qCons (qVar 3) (qCons (qVar 4) qNil))))) = R1
  generalize hR2 : (qOp qAdd (qOp qAdd (qFreeze (qCall (sp_law_first_made A) (qCons (qVar 4) (qCons (qVar 3) qNil)))) (qFreeze (qCall (sp_law_middle_made A) (qCons (qVar 4) (qCons (qVar 3) qNil))))) (qFreeze (qCall (sp_law_last_made A) (qCons (qVar 4) (qCons (qVar 3) qNil))))) = R2
  walk_at "st"
  refine ⟨ns, rfl, hl, fun b hb => ?_⟩
  have B : BT A b (mset m b (.any BagP)) := by
    have h1 := hT (A.tb_law, lamq "law") (by simp)
    exact ⟨mset_same .., by rw [mset_ne (mne h1 hb)]; exact h1⟩
  generalize mset m b (.any BagP) = m0 at B
  walk_at "st"
  refine k_rngI (n := 4) (by decide) ?_
  refine ⟨fun i s' m' => BT A b m' ∧ ∃ c0 c2 c3 c4 c5 c6 c7 c8 c9 : Option D, s' = [c0, some (.ref b), c2, c3, c4, c5, c6, c7, c8, c9], ⟨B, _, _, _, _, _, _, _, _, _, rfl⟩, fun _ _ _ _ _ => trivial, ?stp, ?fin⟩
  case fin =>
    rintro s' m' ⟨_, c0, c2, c3, c4, c5, c6, c7, c8, c9, rfl⟩
    walk_at "st"
    exact wk_at (k _)
  rintro i d s' m1 hd ⟨B, c0, c2, c3, c4, c5, c6, c7, c8, c9, rfl⟩
  walk_at "st"
  refine ⟨b, rfl, B.hb, fun d1 hd1 => ?_⟩
  walk_at "st"
  refine ⟨b, rfl, B.hb, fun z hz => ?_⟩
  walk_at "st"
  refine ⟨b, rfl, B.hb, fun q hq => ?_⟩
  walk_at "st"
  refine .inl ⟨b, _, B.hb, by simp, by simp, .inl rfl, fun x hx => ?_⟩
  have fx : flatS 4 x := flat_one hx (pz_flat hd1) (flatS_str (QE.nm_ok hz)) (flatS_am q)
  walk_at "st"
  refine ⟨b, rfl, B.hb, fun d2 hd2 => ?_⟩
  walk_at "st"
  refine ⟨b, _, rfl, B.hb, by omega, by omega, fun n n0 n1 => ?_⟩
  walk_at "st"
  refine .inl ⟨b, _, B.hb, by simp, by simp, .inl rfl, fun y hy => ?_⟩
  have fy : flatS 4 y := flat_one hy (pz_flat hd2) (flatS_int n) fx
  walk_at "st"
  subst hR1
  refine k_rows rfl rfl fun m2 rows g2 l2 r2 => ?_
  walk_at "st"
  subst hR2
  refine k_rows rfl rfl fun m3 rows' g3 l3 r3 => ?_
  have B3 := B.grow (g2.trans g3)
  walk_at "st"
  rw [l2]
  walk_at "st"
  refine qif_f rfl ?_
  walk_at "st"
  refine ⟨_, _, _, rfl, fy, fx, by omega, r3, ?_⟩
  walk_at "st"
  refine ⟨_, _, _, rfl, fx, fy, by omega, rows_keep r2 g3, ?_⟩
  walk_at "st"
  subst hQ1
  refine k_tak (C := A.Short) (f := "amount") (w := "BandError") (j := 0) id (by simp) rfl B3 rfl fun m4 e4 d4 g4 h4 i4 => ?_
  have B4 := B3.grow g4
  walk_at "st"
  subst hQ2
  refine k_tak (C := A.UnknownHop) (f := "hop") (w := "Missing") (j := 1) id (by simp) rfl B4 rfl fun m5 e5 d5 g5 h5 i5 => ?_
  have B5 := B4.grow g5
  walk_at "st"
  subst hQ3
  refine k_tak (C := A.Started) (f := "tick") (w := "Refused") (j := 2) id (by simp) rfl B5 rfl fun m6 e6 d6 g6 h6 i6 => ?_
  have B6 := B5.grow g6
  walk_at "st"
  repeat (refine ⟨_, rfl, ?_⟩; walk_at "st")
  refine like_self rfl ⟨by show 3 < 1000000; decide, fun d hd => ?_⟩ ?_
  · simp only [List.mem_cons, List.not_mem_nil, or_false] at hd
    rcases hd with rfl | rfl | rfl <;> exact flatS_str (by decide +kernel)
  walk_at "st"
  refine k_kfq ?_
  walk_at "st"
  refine ⟨_, rfl, ?_⟩
  refine k_kfe ((g5.trans g6).at h4) ((g5.trans g6).at i4) look1 ?_
  walk_at "st"
  refine k_kfq ?_
  walk_at "st"
  refine ⟨_, rfl, ?_⟩
  refine k_kfe (g6.at h5) (g6.at i5) look1 ?_
  walk_at "st"
  refine k_kfq ?_
  walk_at "st"
  refine ⟨_, rfl, ?_⟩
  refine k_kfe h6 i6 look1 ?_
  walk_at "st"
  refine like_self rfl ⟨by show 3 < 1000000; decide, fun d hd => ?_⟩ ?_
  · exact flat_one hd fx fx fx
  walk_at "st"
  exact ⟨B6, _, _, _, _, _, _, _, _, _, rfl⟩
end K70
end
section
namespace K70
open PySem PySem.Spec PyProof.Rows L2 L3
set_option maxHeartbeats 40000000
structure Txt (K : PySem.W.Frag) (mg : Str → Option Value) (A : Adr) : Prop where
  g_law_bag : mg "_law_bag" = some (.ref A.law_bag)
  k_law_bag : PySem.W.keepIn K (.ref A.law_bag) = true
  g_law_draw : mg "_law_draw" = some (.ref A.law_draw)
  k_law_draw : PySem.W.keepIn K (.ref A.law_draw) = true
  g_law_of : mg "_law_of" = some (.ref A.law_of)
  k_law_of : PySem.W.keepIn K (.ref A.law_of) = true
  g_law_taken : mg "_law_taken" = some (.ref A.law_taken)
  k_law_taken : PySem.W.keepIn K (.ref A.law_taken) = true
  g_law_last_made : mg "_law_last_made" = some (.ref A.law_last_made)
  k_law_last_made : PySem.W.keepIn K (.ref A.law_last_made) = true
  g_law_like : mg "_law_like" = some (.ref A.law_like)
  k_law_like : PySem.W.keepIn K (.ref A.law_like) = true
  g_law_odd : mg "_law_odd" = some (.ref A.law_odd)
  k_law_odd : PySem.W.keepIn K (.ref A.law_odd) = true
  g_law_word : mg "_law_word" = some (.ref A.law_word)
  k_law_word : PySem.W.keepIn K (.ref A.law_word) = true
  g_law_pair : mg "_law_pair" = some (.ref A.law_pair)
  k_law_pair : PySem.W.keepIn K (.ref A.law_pair) = true
  g_law_wide : mg "_law_wide" = some (.ref A.law_wide)
  k_law_wide : PySem.W.keepIn K (.ref A.law_wide) = true
  g_law_great : mg "_law_great" = some (.ref A.law_great)
  k_law_great : PySem.W.keepIn K (.ref A.law_great) = true
  g_law_amount : mg "_law_amount" = some (.ref A.law_amount)
  k_law_amount : PySem.W.keepIn K (.ref A.law_amount) = true
  g_law_first_made : mg "_law_first_made" = some (.ref A.law_first_made)
  k_law_first_made : PySem.W.keepIn K (.ref A.law_first_made) = true
  g_law_middle_made : mg "_law_middle_made" = some (.ref A.law_middle_made)
  k_law_middle_made : PySem.W.keepIn K (.ref A.law_middle_made) = true
  g_law_last_ones : mg "_law_last_ones" = some (.ref A.law_last_ones)
  k_law_last_ones : PySem.W.keepIn K (.ref A.law_last_ones) = true
  g_law_middle_ones : mg "_law_middle_ones" = some (.ref A.law_middle_ones)
  k_law_middle_ones : PySem.W.keepIn K (.ref A.law_middle_ones) = true
  g_law_first_ones : mg "_law_first_ones" = some (.ref A.law_first_ones)
  k_law_first_ones : PySem.W.keepIn K (.ref A.law_first_ones) = true
  g_law_known : mg "_law_known" = some (.ref A.law_known)
  k_law_known : PySem.W.keepIn K (.ref A.law_known) = true
  g_law_rows_so : mg "_law_rows_so" = some (.ref A.law_rows_so)
  k_law_rows_so : PySem.W.keepIn K (.ref A.law_rows_so) = true
  g_law_thrown : mg "_law_thrown" = some (.ref A.law_thrown)
  k_law_thrown : PySem.W.keepIn K (.ref A.law_thrown) = true
  g_law_missed : mg "_law_missed" = some (.ref A.law_missed)
  k_law_missed : PySem.W.keepIn K (.ref A.law_missed) = true
  g_law_refused : mg "_law_refused" = some (.ref A.law_refused)
  k_law_refused : PySem.W.keepIn K (.ref A.law_refused) = true
  yk_BadAmount : ExVK K mg "BadAmount" A.BadAmount A.BadAmount_init ["value"]
  yk_BadLink : ExVK K mg "BadLink" A.BadLink A.BadLink_init ["what"]
  yk_BadFlow : ExVK K mg "BadFlow" A.BadFlow A.BadFlow_init ["what"]
  yk_BadAge : ExVK K mg "BadAge" A.BadAge A.BadAge_init ["age"]
  yk_BadPart : ExVK K mg "BadPart" A.BadPart A.BadPart_init ["at"]
  yk_TooMany : ExVK K mg "TooMany" A.TooMany A.TooMany_init ["what", "count"]
  yk_DuplicateName : ExVK K mg "DuplicateName" A.DuplicateName A.DuplicateName_init ["name"]
  yk_Idle : ExVK K mg "Idle" A.Idle A.Idle_init ["link"]
  yk_Overpromised : ExVK K mg "Overpromised" A.Overpromised A.Overpromised_init ["link", "over"]
  yk_Small : ExVK K mg "Small" A.Small A.Small_init ["flow", "link"]
  yk_BadText : ExVK K mg "BadText" A.BadText A.BadText_init ["line", "word"]
  yk_BadManner : ExVK K mg "BadManner" A.BadManner A.BadManner_init ["flow"]
  yk_BadCapacity : ExVK K mg "BadCapacity" A.BadCapacity A.BadCapacity_init ["link"]
  yk_BadSharing : ExVK K mg "BadSharing" A.BadSharing A.BadSharing_init ["name"]
  yk_BadBand : ExVK K mg "BadBand" A.BadBand A.BadBand_init ["link"]
  ye_NotPlain : PySem.W.excIn K A.NotPlain [.type "ValueError", .type "Exception", .type "BaseException", .type "object"] "ValueError.__new__" = true
  yq_NotPlain : PySem.W.keepIn K (.ref A.NotPlain) = true
  yk_Future : ExVK K mg "Future" A.Future A.Future_init ["tick"]
  yk_Short : ExVK K mg "Short" A.Short A.Short_init ["amount"]
  yk_BadValue : ExVK K mg "BadValue" A.BadValue A.BadValue_init ["channel"]
  yk_BadState : ExVK K mg "BadState" A.BadState A.BadState_init ["what", "at"]
  yk_BadCount : ExVK K mg "BadCount" A.BadCount A.BadCount_init ["value"]
  yk_BadDeed : ExVK K mg "BadDeed" A.BadDeed A.BadDeed_init ["at"]
  yk_UnknownName : ExVK K mg "UnknownName" A.UnknownName A.UnknownName_init ["name"]
  yk_UnknownChannel : ExVK K mg "UnknownChannel" A.UnknownChannel A.UnknownChannel_init ["channel"]
  yk_UnknownHop : ExVK K mg "UnknownHop" A.UnknownHop A.UnknownHop_init ["hop"]
  yk_NoSuchLetter : ExVK K mg "NoSuchLetter" A.NoSuchLetter A.NoSuchLetter_init ["number"]
  yk_NoSuchTick : ExVK K mg "NoSuchTick" A.NoSuchTick A.NoSuchTick_init ["tick"]
  yk_Started : ExVK K mg "Started" A.Started A.Started_init ["tick"]
  yk_NotStrange : ExVK K mg "NotStrange" A.NotStrange A.NotStrange_init ["name"]
  yk_NotShaky : ExVK K mg "NotShaky" A.NotShaky A.NotShaky_init ["link"]
  yk_Unseen : ExVK K mg "Unseen" A.Unseen A.Unseen_init ["flow"]
  yg_UnknownName : mg "UnknownName" = some (.ref A.UnknownName)
  yg_UnknownChannel : mg "UnknownChannel" = some (.ref A.UnknownChannel)
  yg_UnknownHop : mg "UnknownHop" = some (.ref A.UnknownHop)
  yg_NoSuchLetter : mg "NoSuchLetter" = some (.ref A.NoSuchLetter)
  yg_NoSuchTick : mg "NoSuchTick" = some (.ref A.NoSuchTick)
  yg_Started : mg "Started" = some (.ref A.Started)
  yg_NotStrange : mg "NotStrange" = some (.ref A.NotStrange)
  yg_NotShaky : mg "NotShaky" = some (.ref A.NotShaky)
  yg_Unseen : mg "Unseen" = some (.ref A.Unseen)
  yg_BadManner : mg "BadManner" = some (.ref A.BadManner)
  yg_BadCapacity : mg "BadCapacity" = some (.ref A.BadCapacity)
  yg_BadSharing : mg "BadSharing" = some (.ref A.BadSharing)
  yg_BadBand : mg "BadBand" = some (.ref A.BadBand)
  yg_NotPlain : mg "NotPlain" = some (.ref A.NotPlain)
  yg_Future : mg "Future" = some (.ref A.Future)
  yg_Short : mg "Short" = some (.ref A.Short)
  yg_BadValue : mg "BadValue" = some (.ref A.BadValue)
  yg_BadState : mg "BadState" = some (.ref A.BadState)
  yg_BadCount : mg "BadCount" = some (.ref A.BadCount)
  yg_BadDeed : mg "BadDeed" = some (.ref A.BadDeed)
  yg_BadAmount : mg "BadAmount" = some (.ref A.BadAmount)
  yg_BadLink : mg "BadLink" = some (.ref A.BadLink)
  yg_BadFlow : mg "BadFlow" = some (.ref A.BadFlow)
  yg_BadAge : mg "BadAge" = some (.ref A.BadAge)
  yg_BadPart : mg "BadPart" = some (.ref A.BadPart)
  yg_TooMany : mg "TooMany" = some (.ref A.TooMany)
  yg_DuplicateName : mg "DuplicateName" = some (.ref A.DuplicateName)
  yg_Idle : mg "Idle" = some (.ref A.Idle)
  yg_Overpromised : mg "Overpromised" = some (.ref A.Overpromised)
  yg_Small : mg "Small" = some (.ref A.Small)
  yg_BadText : mg "BadText" = some (.ref A.BadText)
  yg_BandError : mg "BandError" = some (.ref A.BandError)
  yg_Missing : mg "Missing" = some (.ref A.Missing)
  yg_Refused : mg "Refused" = some (.ref A.Refused)
  yc : ∀ C ∈ [A.BadAmount, A.BadLink, A.BadFlow, A.BadAge, A.BadPart, A.TooMany, A.DuplicateName, A.Idle, A.Overpromised, A.Small, A.BadText, A.BadManner, A.BadCapacity, A.BadSharing, A.BadBand, A.NotPlain, A.Future, A.Short, A.BadValue, A.BadState, A.BadCount, A.BadDeed, A.UnknownName, A.UnknownChannel, A.UnknownHop, A.NoSuchLetter, A.NoSuchTick, A.Started, A.NotStrange, A.NotShaky, A.Unseen], ExcC K C
  yt_UnknownName : ktabB K [A.BadAmount, A.BadLink, A.BadFlow, A.BadAge, A.BadPart, A.TooMany, A.DuplicateName, A.Idle, A.Overpromised, A.Small, A.BadText, A.BadManner, A.BadCapacity, A.BadSharing, A.BadBand, A.NotPlain, A.Future, A.Short, A.BadValue, A.BadState, A.BadCount, A.BadDeed, A.UnknownName, A.UnknownChannel, A.UnknownHop, A.NoSuchLetter, A.NoSuchTick, A.Started, A.NotStrange, A.NotShaky, A.Unseen] (.ref A.UnknownName) [false, false, false, false, false, false, false, false, false, false, false, false, false, false, false, false, false, false, false, false, false, false, true, false, false, false, false, false, false, false, false] = true
  yt_UnknownChannel : ktabB K [A.BadAmount, A.BadLink, A.BadFlow, A.BadAge, A.BadPart, A.TooMany, A.DuplicateName, A.Idle, A.Overpromised, A.Small, A.BadText, A.BadManner, A.BadCapacity, A.BadSharing, A.BadBand, A.NotPlain, A.Future, A.Short, A.BadValue, A.BadState, A.BadCount, A.BadDeed, A.UnknownName, A.UnknownChannel, A.UnknownHop, A.NoSuchLetter, A.NoSuchTick, A.Started, A.NotStrange, A.NotShaky, A.Unseen] (.ref A.UnknownChannel) [false, false, false, false, false, false, false, false, false, false, false, false, false, false, false, false, false, false, false, false, false, false, false, true, false, false, false, false, false, false, false] = true
  yt_UnknownHop : ktabB K [A.BadAmount, A.BadLink, A.BadFlow, A.BadAge, A.BadPart, A.TooMany, A.DuplicateName, A.Idle, A.Overpromised, A.Small, A.BadText, A.BadManner, A.BadCapacity, A.BadSharing, A.BadBand, A.NotPlain, A.Future, A.Short, A.BadValue, A.BadState, A.BadCount, A.BadDeed, A.UnknownName, A.UnknownChannel, A.UnknownHop, A.NoSuchLetter, A.NoSuchTick, A.Started, A.NotStrange, A.NotShaky, A.Unseen] (.ref A.UnknownHop) [false, false, false, false, false, false, false, false, false, false, false, false, false, false, false, false, false, false, false, false, false, false, false, false, true, false, false, false, false, false, false] = true
  yt_NoSuchLetter : ktabB K [A.BadAmount, A.BadLink, A.BadFlow, A.BadAge, A.BadPart, A.TooMany, A.DuplicateName, A.Idle, A.Overpromised, A.Small, A.BadText, A.BadManner, A.BadCapacity, A.BadSharing, A.BadBand, A.NotPlain, A.Future, A.Short, A.BadValue, A.BadState, A.BadCount, A.BadDeed, A.UnknownName, A.UnknownChannel, A.UnknownHop, A.NoSuchLetter, A.NoSuchTick, A.Started, A.NotStrange, A.NotShaky, A.Unseen] (.ref A.NoSuchLetter) [false, false, false, false, false, false, false, false, false, false, false, false, false, false, false, false, false, false, false, false, false, false, false, false, false, true, false, false, false, false, false] = true
  yt_NoSuchTick : ktabB K [A.BadAmount, A.BadLink, A.BadFlow, A.BadAge, A.BadPart, A.TooMany, A.DuplicateName, A.Idle, A.Overpromised, A.Small, A.BadText, A.BadManner, A.BadCapacity, A.BadSharing, A.BadBand, A.NotPlain, A.Future, A.Short, A.BadValue, A.BadState, A.BadCount, A.BadDeed, A.UnknownName, A.UnknownChannel, A.UnknownHop, A.NoSuchLetter, A.NoSuchTick, A.Started, A.NotStrange, A.NotShaky, A.Unseen] (.ref A.NoSuchTick) [false, false, false, false, false, false, false, false, false, false, false, false, false, false, false, false, false, false, false, false, false, false, false, false, false, false, true, false, false, false, false] = true
  yt_Started : ktabB K [A.BadAmount, A.BadLink, A.BadFlow, A.BadAge, A.BadPart, A.TooMany, A.DuplicateName, A.Idle, A.Overpromised, A.Small, A.BadText, A.BadManner, A.BadCapacity, A.BadSharing, A.BadBand, A.NotPlain, A.Future, A.Short, A.BadValue, A.BadState, A.BadCount, A.BadDeed, A.UnknownName, A.UnknownChannel, A.UnknownHop, A.NoSuchLetter, A.NoSuchTick, A.Started, A.NotStrange, A.NotShaky, A.Unseen] (.ref A.Started) [false, false, false, false, false, false, false, false, false, false, false, false, false, false, false, false, false, false, false, false, false, false, false, false, false, false, false, true, false, false, false] = true
  yt_NotStrange : ktabB K [A.BadAmount, A.BadLink, A.BadFlow, A.BadAge, A.BadPart, A.TooMany, A.DuplicateName, A.Idle, A.Overpromised, A.Small, A.BadText, A.BadManner, A.BadCapacity, A.BadSharing, A.BadBand, A.NotPlain, A.Future, A.Short, A.BadValue, A.BadState, A.BadCount, A.BadDeed, A.UnknownName, A.UnknownChannel, A.UnknownHop, A.NoSuchLetter, A.NoSuchTick, A.Started, A.NotStrange, A.NotShaky, A.Unseen] (.ref A.NotStrange) [false, false, false, false, false, false, false, false, false, false, false, false, false, false, false, false, false, false, false, false, false, false, false, false, false, false, false, false, true, false, false] = true
  yt_NotShaky : ktabB K [A.BadAmount, A.BadLink, A.BadFlow, A.BadAge, A.BadPart, A.TooMany, A.DuplicateName, A.Idle, A.Overpromised, A.Small, A.BadText, A.BadManner, A.BadCapacity, A.BadSharing, A.BadBand, A.NotPlain, A.Future, A.Short, A.BadValue, A.BadState, A.BadCount, A.BadDeed, A.UnknownName, A.UnknownChannel, A.UnknownHop, A.NoSuchLetter, A.NoSuchTick, A.Started, A.NotStrange, A.NotShaky, A.Unseen] (.ref A.NotShaky) [false, false, false, false, false, false, false, false, false, false, false, false, false, false, false, false, false, false, false, false, false, false, false, false, false, false, false, false, false, true, false] = true
  yt_Unseen : ktabB K [A.BadAmount, A.BadLink, A.BadFlow, A.BadAge, A.BadPart, A.TooMany, A.DuplicateName, A.Idle, A.Overpromised, A.Small, A.BadText, A.BadManner, A.BadCapacity, A.BadSharing, A.BadBand, A.NotPlain, A.Future, A.Short, A.BadValue, A.BadState, A.BadCount, A.BadDeed, A.UnknownName, A.UnknownChannel, A.UnknownHop, A.NoSuchLetter, A.NoSuchTick, A.Started, A.NotStrange, A.NotShaky, A.Unseen] (.ref A.Unseen) [false, false, false, false, false, false, false, false, false, false, false, false, false, false, false, false, false, false, false, false, false, false, false, false, false, false, false, false, false, false, true] = true
  yt_BadManner : ktabB K [A.BadAmount, A.BadLink, A.BadFlow, A.BadAge, A.BadPart, A.TooMany, A.DuplicateName, A.Idle, A.Overpromised, A.Small, A.BadText, A.BadManner, A.BadCapacity, A.BadSharing, A.BadBand, A.NotPlain, A.Future, A.Short, A.BadValue, A.BadState, A.BadCount, A.BadDeed, A.UnknownName, A.UnknownChannel, A.UnknownHop, A.NoSuchLetter, A.NoSuchTick, A.Started, A.NotStrange, A.NotShaky, A.Unseen] (.ref A.BadManner) [false, false, false, false, false, false, false, false, false, false, false, true, false, false, false, false, false, false, false, false, false, false, false, false, false, false, false, false, false, false, false] = true
  yt_BadCapacity : ktabB K [A.BadAmount, A.BadLink, A.BadFlow, A.BadAge, A.BadPart, A.TooMany, A.DuplicateName, A.Idle, A.Overpromised, A.Small, A.BadText, A.BadManner, A.BadCapacity, A.BadSharing, A.BadBand, A.NotPlain, A.Future, A.Short, A.BadValue, A.BadState, A.BadCount, A.BadDeed, A.UnknownName, A.UnknownChannel, A.UnknownHop, A.NoSuchLetter, A.NoSuchTick, A.Started, A.NotStrange, A.NotShaky, A.Unseen] (.ref A.BadCapacity) [false, false, false, false, false, false, false, false, false, false, false, false, true, false, false, false, false, false, false, false, false, false, false, false, false, false, false, false, false, false, false] = true
  yt_BadSharing : ktabB K [A.BadAmount, A.BadLink, A.BadFlow, A.BadAge, A.BadPart, A.TooMany, A.DuplicateName, A.Idle, A.Overpromised, A.Small, A.BadText, A.BadManner, A.BadCapacity, A.BadSharing, A.BadBand, A.NotPlain, A.Future, A.Short, A.BadValue, A.BadState, A.BadCount, A.BadDeed, A.UnknownName, A.UnknownChannel, A.UnknownHop, A.NoSuchLetter, A.NoSuchTick, A.Started, A.NotStrange, A.NotShaky, A.Unseen] (.ref A.BadSharing) [false, false, false, false, false, false, false, false, false, false, false, false, false, true, false, false, false, false, false, false, false, false, false, false, false, false, false, false, false, false, false] = true
  yt_BadBand : ktabB K [A.BadAmount, A.BadLink, A.BadFlow, A.BadAge, A.BadPart, A.TooMany, A.DuplicateName, A.Idle, A.Overpromised, A.Small, A.BadText, A.BadManner, A.BadCapacity, A.BadSharing, A.BadBand, A.NotPlain, A.Future, A.Short, A.BadValue, A.BadState, A.BadCount, A.BadDeed, A.UnknownName, A.UnknownChannel, A.UnknownHop, A.NoSuchLetter, A.NoSuchTick, A.Started, A.NotStrange, A.NotShaky, A.Unseen] (.ref A.BadBand) [false, false, false, false, false, false, false, false, false, false, false, false, false, false, true, false, false, false, false, false, false, false, false, false, false, false, false, false, false, false, false] = true
  yt_NotPlain : ktabB K [A.BadAmount, A.BadLink, A.BadFlow, A.BadAge, A.BadPart, A.TooMany, A.DuplicateName, A.Idle, A.Overpromised, A.Small, A.BadText, A.BadManner, A.BadCapacity, A.BadSharing, A.BadBand, A.NotPlain, A.Future, A.Short, A.BadValue, A.BadState, A.BadCount, A.BadDeed, A.UnknownName, A.UnknownChannel, A.UnknownHop, A.NoSuchLetter, A.NoSuchTick, A.Started, A.NotStrange, A.NotShaky, A.Unseen] (.ref A.NotPlain) [false, false, false, false, false, false, false, false, false, false, false, false, false, false, false, true, false, false, false, false, false, false, false, false, false, false, false, false, false, false, false] = true
  yt_Future : ktabB K [A.BadAmount, A.BadLink, A.BadFlow, A.BadAge, A.BadPart, A.TooMany, A.DuplicateName, A.Idle, A.Overpromised, A.Small, A.BadText, A.BadManner, A.BadCapacity, A.BadSharing, A.BadBand, A.NotPlain, A.Future, A.Short, A.BadValue, A.BadState, A.BadCount, A.BadDeed, A.UnknownName, A.UnknownChannel, A.UnknownHop, A.NoSuchLetter, A.NoSuchTick, A.Started, A.NotStrange, A.NotShaky, A.Unseen] (.ref A.Future) [false, false, false, false, false, false, false, false, false, false, false, false, false, false, false, false, true, false, false, false, false, false, false, false, false, false, false, false, false, false, false] = true
  yt_Short : ktabB K [A.BadAmount, A.BadLink, A.BadFlow, A.BadAge, A.BadPart, A.TooMany, A.DuplicateName, A.Idle, A.Overpromised, A.Small, A.BadText, A.BadManner, A.BadCapacity, A.BadSharing, A.BadBand, A.NotPlain, A.Future, A.Short, A.BadValue, A.BadState, A.BadCount, A.BadDeed, A.UnknownName, A.UnknownChannel, A.UnknownHop, A.NoSuchLetter, A.NoSuchTick, A.Started, A.NotStrange, A.NotShaky, A.Unseen] (.ref A.Short) [false, false, false, false, false, false, false, false, false, false, false, false, false, false, false, false, false, true, false, false, false, false, false, false, false, false, false, false, false, false, false] = true
  yt_BadValue : ktabB K [A.BadAmount, A.BadLink, A.BadFlow, A.BadAge, A.BadPart, A.TooMany, A.DuplicateName, A.Idle, A.Overpromised, A.Small, A.BadText, A.BadManner, A.BadCapacity, A.BadSharing, A.BadBand, A.NotPlain, A.Future, A.Short, A.BadValue, A.BadState, A.BadCount, A.BadDeed, A.UnknownName, A.UnknownChannel, A.UnknownHop, A.NoSuchLetter, A.NoSuchTick, A.Started, A.NotStrange, A.NotShaky, A.Unseen] (.ref A.BadValue) [false, false, false, false, false, false, false, false, false, false, false, false, false, false, false, false, false, false, true, false, false, false, false, false, false, false, false, false, false, false, false] = true
  yt_BadState : ktabB K [A.BadAmount, A.BadLink, A.BadFlow, A.BadAge, A.BadPart, A.TooMany, A.DuplicateName, A.Idle, A.Overpromised, A.Small, A.BadText, A.BadManner, A.BadCapacity, A.BadSharing, A.BadBand, A.NotPlain, A.Future, A.Short, A.BadValue, A.BadState, A.BadCount, A.BadDeed, A.UnknownName, A.UnknownChannel, A.UnknownHop, A.NoSuchLetter, A.NoSuchTick, A.Started, A.NotStrange, A.NotShaky, A.Unseen] (.ref A.BadState) [false, false, false, false, false, false, false, false, false, false, false, false, false, false, false, false, false, false, false, true, false, false, false, false, false, false, false, false, false, false, false] = true
  yt_BadCount : ktabB K [A.BadAmount, A.BadLink, A.BadFlow, A.BadAge, A.BadPart, A.TooMany, A.DuplicateName, A.Idle, A.Overpromised, A.Small, A.BadText, A.BadManner, A.BadCapacity, A.BadSharing, A.BadBand, A.NotPlain, A.Future, A.Short, A.BadValue, A.BadState, A.BadCount, A.BadDeed, A.UnknownName, A.UnknownChannel, A.UnknownHop, A.NoSuchLetter, A.NoSuchTick, A.Started, A.NotStrange, A.NotShaky, A.Unseen] (.ref A.BadCount) [false, false, false, false, false, false, false, false, false, false, false, false, false, false, false, false, false, false, false, false, true, false, false, false, false, false, false, false, false, false, false] = true
  yt_BadDeed : ktabB K [A.BadAmount, A.BadLink, A.BadFlow, A.BadAge, A.BadPart, A.TooMany, A.DuplicateName, A.Idle, A.Overpromised, A.Small, A.BadText, A.BadManner, A.BadCapacity, A.BadSharing, A.BadBand, A.NotPlain, A.Future, A.Short, A.BadValue, A.BadState, A.BadCount, A.BadDeed, A.UnknownName, A.UnknownChannel, A.UnknownHop, A.NoSuchLetter, A.NoSuchTick, A.Started, A.NotStrange, A.NotShaky, A.Unseen] (.ref A.BadDeed) [false, false, false, false, false, false, false, false, false, false, false, false, false, false, false, false, false, false, false, false, false, true, false, false, false, false, false, false, false, false, false] = true
  yt_BadAmount : ktabB K [A.BadAmount, A.BadLink, A.BadFlow, A.BadAge, A.BadPart, A.TooMany, A.DuplicateName, A.Idle, A.Overpromised, A.Small, A.BadText, A.BadManner, A.BadCapacity, A.BadSharing, A.BadBand, A.NotPlain, A.Future, A.Short, A.BadValue, A.BadState, A.BadCount, A.BadDeed, A.UnknownName, A.UnknownChannel, A.UnknownHop, A.NoSuchLetter, A.NoSuchTick, A.Started, A.NotStrange, A.NotShaky, A.Unseen] (.ref A.BadAmount) [true, false, false, false, false, false, false, false, false, false, false, false, false, false, false, false, false, false, false, false, false, false, false, false, false, false, false, false, false, false, false] = true
  yt_BadLink : ktabB K [A.BadAmount, A.BadLink, A.BadFlow, A.BadAge, A.BadPart, A.TooMany, A.DuplicateName, A.Idle, A.Overpromised, A.Small, A.BadText, A.BadManner, A.BadCapacity, A.BadSharing, A.BadBand, A.NotPlain, A.Future, A.Short, A.BadValue, A.BadState, A.BadCount, A.BadDeed, A.UnknownName, A.UnknownChannel, A.UnknownHop, A.NoSuchLetter, A.NoSuchTick, A.Started, A.NotStrange, A.NotShaky, A.Unseen] (.ref A.BadLink) [false, true, false, false, false, false, false, false, false, false, false, false, false, false, false, false, false, false, false, false, false, false, false, false, false, false, false, false, false, false, false] = true
  yt_BadFlow : ktabB K [A.BadAmount, A.BadLink, A.BadFlow, A.BadAge, A.BadPart, A.TooMany, A.DuplicateName, A.Idle, A.Overpromised, A.Small, A.BadText, A.BadManner, A.BadCapacity, A.BadSharing, A.BadBand, A.NotPlain, A.Future, A.Short, A.BadValue, A.BadState, A.BadCount, A.BadDeed, A.UnknownName, A.UnknownChannel, A.UnknownHop, A.NoSuchLetter, A.NoSuchTick, A.Started, A.NotStrange, A.NotShaky, A.Unseen] (.ref A.BadFlow) [false, false, true, false, false, false, false, false, false, false, false, false, false, false, false, false, false, false, false, false, false, false, false, false, false, false, false, false, false, false, false] = true
  yt_BadAge : ktabB K [A.BadAmount, A.BadLink, A.BadFlow, A.BadAge, A.BadPart, A.TooMany, A.DuplicateName, A.Idle, A.Overpromised, A.Small, A.BadText, A.BadManner, A.BadCapacity, A.BadSharing, A.BadBand, A.NotPlain, A.Future, A.Short, A.BadValue, A.BadState, A.BadCount, A.BadDeed, A.UnknownName, A.UnknownChannel, A.UnknownHop, A.NoSuchLetter, A.NoSuchTick, A.Started, A.NotStrange, A.NotShaky, A.Unseen] (.ref A.BadAge) [false, false, false, true, false, false, false, false, false, false, false, false, false, false, false, false, false, false, false, false, false, false, false, false, false, false, false, false, false, false, false] = true
  yt_BadPart : ktabB K [A.BadAmount, A.BadLink, A.BadFlow, A.BadAge, A.BadPart, A.TooMany, A.DuplicateName, A.Idle, A.Overpromised, A.Small, A.BadText, A.BadManner, A.BadCapacity, A.BadSharing, A.BadBand, A.NotPlain, A.Future, A.Short, A.BadValue, A.BadState, A.BadCount, A.BadDeed, A.UnknownName, A.UnknownChannel, A.UnknownHop, A.NoSuchLetter, A.NoSuchTick, A.Started, A.NotStrange, A.NotShaky, A.Unseen] (.ref A.BadPart) [false, false, false, false, true, false, false, false, false, false, false, false, false, false, false, false, false, false, false, false, false, false, false, false, false, false, false, false, false, false, false] = true
  yt_TooMany : ktabB K [A.BadAmount, A.BadLink, A.BadFlow, A.BadAge, A.BadPart, A.TooMany, A.DuplicateName, A.Idle, A.Overpromised, A.Small, A.BadText, A.BadManner, A.BadCapacity, A.BadSharing, A.BadBand, A.NotPlain, A.Future, A.Short, A.BadValue, A.BadState, A.BadCount, A.BadDeed, A.UnknownName, A.UnknownChannel, A.UnknownHop, A.NoSuchLetter, A.NoSuchTick, A.Started, A.NotStrange, A.NotShaky, A.Unseen] (.ref A.TooMany) [false, false, false, false, false, true, false, false, false, false, false, false, false, false, false, false, false, false, false, false, false, false, false, false, false, false, false, false, false, false, false] = true
  yt_DuplicateName : ktabB K [A.BadAmount, A.BadLink, A.BadFlow, A.BadAge, A.BadPart, A.TooMany, A.DuplicateName, A.Idle, A.Overpromised, A.Small, A.BadText, A.BadManner, A.BadCapacity, A.BadSharing, A.BadBand, A.NotPlain, A.Future, A.Short, A.BadValue, A.BadState, A.BadCount, A.BadDeed, A.UnknownName, A.UnknownChannel, A.UnknownHop, A.NoSuchLetter, A.NoSuchTick, A.Started, A.NotStrange, A.NotShaky, A.Unseen] (.ref A.DuplicateName) [false, false, false, false, false, false, true, false, false, false, false, false, false, false, false, false, false, false, false, false, false, false, false, false, false, false, false, false, false, false, false] = true
  yt_Idle : ktabB K [A.BadAmount, A.BadLink, A.BadFlow, A.BadAge, A.BadPart, A.TooMany, A.DuplicateName, A.Idle, A.Overpromised, A.Small, A.BadText, A.BadManner, A.BadCapacity, A.BadSharing, A.BadBand, A.NotPlain, A.Future, A.Short, A.BadValue, A.BadState, A.BadCount, A.BadDeed, A.UnknownName, A.UnknownChannel, A.UnknownHop, A.NoSuchLetter, A.NoSuchTick, A.Started, A.NotStrange, A.NotShaky, A.Unseen] (.ref A.Idle) [false, false, false, false, false, false, false, true, false, false, false, false, false, false, false, false, false, false, false, false, false, false, false, false, false, false, false, false, false, false, false] = true
  yt_Overpromised : ktabB K [A.BadAmount, A.BadLink, A.BadFlow, A.BadAge, A.BadPart, A.TooMany, A.DuplicateName, A.Idle, A.Overpromised, A.Small, A.BadText, A.BadManner, A.BadCapacity, A.BadSharing, A.BadBand, A.NotPlain, A.Future, A.Short, A.BadValue, A.BadState, A.BadCount, A.BadDeed, A.UnknownName, A.UnknownChannel, A.UnknownHop, A.NoSuchLetter, A.NoSuchTick, A.Started, A.NotStrange, A.NotShaky, A.Unseen] (.ref A.Overpromised) [false, false, false, false, false, false, false, false, true, false, false, false, false, false, false, false, false, false, false, false, false, false, false, false, false, false, false, false, false, false, false] = true
  yt_Small : ktabB K [A.BadAmount, A.BadLink, A.BadFlow, A.BadAge, A.BadPart, A.TooMany, A.DuplicateName, A.Idle, A.Overpromised, A.Small, A.BadText, A.BadManner, A.BadCapacity, A.BadSharing, A.BadBand, A.NotPlain, A.Future, A.Short, A.BadValue, A.BadState, A.BadCount, A.BadDeed, A.UnknownName, A.UnknownChannel, A.UnknownHop, A.NoSuchLetter, A.NoSuchTick, A.Started, A.NotStrange, A.NotShaky, A.Unseen] (.ref A.Small) [false, false, false, false, false, false, false, false, false, true, false, false, false, false, false, false, false, false, false, false, false, false, false, false, false, false, false, false, false, false, false] = true
  yt_BadText : ktabB K [A.BadAmount, A.BadLink, A.BadFlow, A.BadAge, A.BadPart, A.TooMany, A.DuplicateName, A.Idle, A.Overpromised, A.Small, A.BadText, A.BadManner, A.BadCapacity, A.BadSharing, A.BadBand, A.NotPlain, A.Future, A.Short, A.BadValue, A.BadState, A.BadCount, A.BadDeed, A.UnknownName, A.UnknownChannel, A.UnknownHop, A.NoSuchLetter, A.NoSuchTick, A.Started, A.NotStrange, A.NotShaky, A.Unseen] (.ref A.BadText) [false, false, false, false, false, false, false, false, false, false, true, false, false, false, false, false, false, false, false, false, false, false, false, false, false, false, false, false, false, false, false] = true
  yt_BandError : ktabB K [A.BadAmount, A.BadLink, A.BadFlow, A.BadAge, A.BadPart, A.TooMany, A.DuplicateName, A.Idle, A.Overpromised, A.Small, A.BadText, A.BadManner, A.BadCapacity, A.BadSharing, A.BadBand, A.NotPlain, A.Future, A.Short, A.BadValue, A.BadState, A.BadCount, A.BadDeed, A.UnknownName, A.UnknownChannel, A.UnknownHop, A.NoSuchLetter, A.NoSuchTick, A.Started, A.NotStrange, A.NotShaky, A.Unseen] (.ref A.BandError) [true, true, true, true, true, true, true, true, true, true, true, true, true, true, true, true, true, true, true, true, true, true, false, false, false, false, false, false, false, false, false] = true
  yt_Missing : ktabB K [A.BadAmount, A.BadLink, A.BadFlow, A.BadAge, A.BadPart, A.TooMany, A.DuplicateName, A.Idle, A.Overpromised, A.Small, A.BadText, A.BadManner, A.BadCapacity, A.BadSharing, A.BadBand, A.NotPlain, A.Future, A.Short, A.BadValue, A.BadState, A.BadCount, A.BadDeed, A.UnknownName, A.UnknownChannel, A.UnknownHop, A.NoSuchLetter, A.NoSuchTick, A.Started, A.NotStrange, A.NotShaky, A.Unseen] (.ref A.Missing) [false, false, false, false, false, false, false, false, false, false, false, false, false, false, false, false, false, false, false, false, false, false, true, true, true, true, true, false, false, false, false] = true
  yt_Refused : ktabB K [A.BadAmount, A.BadLink, A.BadFlow, A.BadAge, A.BadPart, A.TooMany, A.DuplicateName, A.Idle, A.Overpromised, A.Small, A.BadText, A.BadManner, A.BadCapacity, A.BadSharing, A.BadBand, A.NotPlain, A.Future, A.Short, A.BadValue, A.BadState, A.BadCount, A.BadDeed, A.UnknownName, A.UnknownChannel, A.UnknownHop, A.NoSuchLetter, A.NoSuchTick, A.Started, A.NotStrange, A.NotShaky, A.Unseen] (.ref A.Refused) [false, false, false, false, false, false, false, false, false, false, false, false, false, false, false, false, false, false, false, false, false, false, false, false, false, false, false, true, true, true, true] = true
  yt_ValueError : ktabB K [A.BadAmount, A.BadLink, A.BadFlow, A.BadAge, A.BadPart, A.TooMany, A.DuplicateName, A.Idle, A.Overpromised, A.Small, A.BadText, A.BadManner, A.BadCapacity, A.BadSharing, A.BadBand, A.NotPlain, A.Future, A.Short, A.BadValue, A.BadState, A.BadCount, A.BadDeed, A.UnknownName, A.UnknownChannel, A.UnknownHop, A.NoSuchLetter, A.NoSuchTick, A.Started, A.NotStrange, A.NotShaky, A.Unseen] (.type "ValueError") [true, true, true, true, true, true, true, true, true, true, true, true, true, true, true, true, true, true, true, true, true, true, false, false, false, false, false, false, false, false, false] = true
  yt_LookupError : ktabB K [A.BadAmount, A.BadLink, A.BadFlow, A.BadAge, A.BadPart, A.TooMany, A.DuplicateName, A.Idle, A.Overpromised, A.Small, A.BadText, A.BadManner, A.BadCapacity, A.BadSharing, A.BadBand, A.NotPlain, A.Future, A.Short, A.BadValue, A.BadState, A.BadCount, A.BadDeed, A.UnknownName, A.UnknownChannel, A.UnknownHop, A.NoSuchLetter, A.NoSuchTick, A.Started, A.NotStrange, A.NotShaky, A.Unseen] (.type "LookupError") [false, false, false, false, false, false, false, false, false, false, false, false, false, false, false, false, false, false, false, false, false, false, true, true, true, true, true, false, false, false, false] = true
  yt_RuntimeError : ktabB K [A.BadAmount, A.BadLink, A.BadFlow, A.BadAge, A.BadPart, A.TooMany, A.DuplicateName, A.Idle, A.Overpromised, A.Small, A.BadText, A.BadManner, A.BadCapacity, A.BadSharing, A.BadBand, A.NotPlain, A.Future, A.Short, A.BadValue, A.BadState, A.BadCount, A.BadDeed, A.UnknownName, A.UnknownChannel, A.UnknownHop, A.NoSuchLetter, A.NoSuchTick, A.Started, A.NotStrange, A.NotShaky, A.Unseen] (.type "RuntimeError") [false, false, false, false, false, false, false, false, false, false, false, false, false, false, false, false, false, false, false, false, false, false, false, false, false, false, false, true, true, true, true] = true
  yx_law_taken : takB K [(A.Short, 0), (A.UnknownHop, 1), (A.Started, 2)] [A.BandError, A.Missing, A.Refused] = true
  z_int : mg "int" = none
  z_list : mg "list" = none
  z_len : mg "len" = none
  z_isinstance : mg "isinstance" = none
  z_tuple : mg "tuple" = none
  z_all : mg "all" = none
  z_zip : mg "zip" = none
  z_bool : mg "bool" = none
  z_str : mg "str" = none
  z_range : mg "range" = none
  z_max : mg "max" = none
  z_ValueError : mg "ValueError" = none
  z_LookupError : mg "LookupError" = none
  z_RuntimeError : mg "RuntimeError" = none
  z_sorted : mg "sorted" = none
  xk_Short : ExKG K mg "Short" A.Short A.Short_init "amount"
  xk_UnknownHop : ExKG K mg "UnknownHop" A.UnknownHop A.UnknownHop_init "hop"
  xk_Started : ExKG K mg "Started" A.Started A.Started_init "tick"
  xg_Short : mg "Short" = some (.ref A.Short)
  xg_UnknownHop : mg "UnknownHop" = some (.ref A.UnknownHop)
  xg_Started : mg "Started" = some (.ref A.Started)
  xg_BadAmount : mg "BadAmount" = some (.ref A.BadAmount)
  xg_BadLink : mg "BadLink" = some (.ref A.BadLink)
  xg_BadFlow : mg "BadFlow" = some (.ref A.BadFlow)
  xg_BadAge : mg "BadAge" = some (.ref A.BadAge)
  xg_BadPart : mg "BadPart" = some (.ref A.BadPart)
  xg_TooMany : mg "TooMany" = some (.ref A.TooMany)
  xg_DuplicateName : mg "DuplicateName" = some (.ref A.DuplicateName)
  xg_Idle : mg "Idle" = some (.ref A.Idle)
  xg_Overpromised : mg "Overpromised" = some (.ref A.Overpromised)
  xg_Small : mg "Small" = some (.ref A.Small)
  xg_BadText : mg "BadText" = some (.ref A.BadText)
  xg_BadManner : mg "BadManner" = some (.ref A.BadManner)
  xg_BadCapacity : mg "BadCapacity" = some (.ref A.BadCapacity)
  xg_BadSharing : mg "BadSharing" = some (.ref A.BadSharing)
  xg_BadBand : mg "BadBand" = some (.ref A.BadBand)
  xg_NotPlain : mg "NotPlain" = some (.ref A.NotPlain)
  xg_Future : mg "Future" = some (.ref A.Future)
  xg_BadValue : mg "BadValue" = some (.ref A.BadValue)
  xg_BadState : mg "BadState" = some (.ref A.BadState)
  xg_BadCount : mg "BadCount" = some (.ref A.BadCount)
  xg_BadDeed : mg "BadDeed" = some (.ref A.BadDeed)
  xg_UnknownName : mg "UnknownName" = some (.ref A.UnknownName)
  xg_UnknownChannel : mg "UnknownChannel" = some (.ref A.UnknownChannel)
  xg_NoSuchLetter : mg "NoSuchLetter" = some (.ref A.NoSuchLetter)
  xg_NoSuchTick : mg "NoSuchTick" = some (.ref A.NoSuchTick)
  xg_NotStrange : mg "NotStrange" = some (.ref A.NotStrange)
  xg_NotShaky : mg "NotShaky" = some (.ref A.NotShaky)
  xg_Unseen : mg "Unseen" = some (.ref A.Unseen)
  xg_BandError : mg "BandError" = some (.ref A.BandError)
  xg_Missing : mg "Missing" = some (.ref A.Missing)
  xg_Refused : mg "Refused" = some (.ref A.Refused)
section
variable {P : Program} {w : World} {K : PySem.W.Frag} {mg : Str → Option Value} {base : Heap} {A : Adr}
theorem sc_Short_init : FnScope ["self", "amount"] ["self", "amount"] (defScope s_Short_init) := ⟨rfl, rfl, rfl, by decide +kernel, rfl, by decide +kernel, by decide +kernel⟩
theorem ex_Short {fd : FuncData} (T : Txt K mg A) (F : Fun K "__init__" "Short.__init__" s_Short_init A.Short_init fd) (hb : Binds K fd ["self", "amount"] []) : Ex1G P w K mg base "Short" A.Short "amount" :=
  T.xk_Short.ex1 F sc_Short_init hb (by decide) (by decide) rfl (.inl rfl) (.inl rfl)
theorem sc_UnknownHop_init : FnScope ["self", "hop"] ["self", "hop"] (defScope s_UnknownHop_init) := ⟨rfl, rfl, rfl, by decide +kernel, rfl, by decide +kernel, by decide +kernel⟩
theorem ex_UnknownHop {fd : FuncData} (T : Txt K mg A) (F : Fun K "__init__" "UnknownHop.__init__" s_UnknownHop_init A.UnknownHop_init fd) (hb : Binds K fd ["self", "hop"] []) : Ex1G P w K mg base "UnknownHop" A.UnknownHop "hop" :=
  T.xk_UnknownHop.ex1 F sc_UnknownHop_init hb (by decide) (by decide) rfl (.inl rfl) (.inl rfl)
theorem sc_Started_init : FnScope ["self", "tick"] ["self", "tick"] (defScope s_Started_init) := ⟨rfl, rfl, rfl, by decide +kernel, rfl, by decide +kernel, by decide +kernel⟩
theorem ex_Started {fd : FuncData} (T : Txt K mg A) (F : Fun K "__init__" "Started.__init__" s_Started_init A.Started_init fd) (hb : Binds K fd ["self", "tick"] []) : Ex1G P w K mg base "Started" A.Started "tick" :=
  T.xk_Started.ex1 F sc_Started_init hb (by decide) (by decide) rfl (.inl rfl) (.inl rfl)
theorem sc_BadAmount_init : FnScope ["self", "value"] ["self", "value"] (defScope s_BadAmount_init) := ⟨rfl, rfl, rfl, by decide +kernel, rfl, by decide +kernel, by decide +kernel⟩
theorem vx_BadAmount {fd : FuncData} (T : Txt K mg A) (F : Fun K "__init__" "BadAmount.__init__" s_BadAmount_init A.BadAmount_init fd) (kp : KwM K fd ["self", "value"] [] 1 [0, 1]) (kk : KwM K fd ["self", "value"] ["value"] 0 [0, 1]) : ExV1 P w K mg base "BadAmount" A.BadAmount "value" :=
  T.yk_BadAmount.v1 F sc_BadAmount_init kp kk rfl (.inl rfl) (.inl rfl)
theorem sc_BadLink_init : FnScope ["self", "what"] ["self", "what"] (defScope s_BadLink_init) := ⟨rfl, rfl, rfl, by decide +kernel, rfl, by decide +kernel, by decide +kernel⟩
theorem vx_BadLink {fd : FuncData} (T : Txt K mg A) (F : Fun K "__init__" "BadLink.__init__" s_BadLink_init A.BadLink_init fd) (kp : KwM K fd ["self", "what"] [] 1 [0, 1]) (kk : KwM K fd ["self", "what"] ["what"] 0 [0, 1]) : ExV1 P w K mg base "BadLink" A.BadLink "what" :=
  T.yk_BadLink.v1 F sc_BadLink_init kp kk rfl (.inl rfl) (.inl rfl)
theorem sc_BadFlow_init : FnScope ["self", "what"] ["self", "what"] (defScope s_BadFlow_init) := ⟨rfl, rfl, rfl, by decide +kernel, rfl, by decide +kernel, by decide +kernel⟩
theorem vx_BadFlow {fd : FuncData} (T : Txt K mg A) (F : Fun K "__init__" "BadFlow.__init__" s_BadFlow_init A.BadFlow_init fd) (kp : KwM K fd ["self", "what"] [] 1 [0, 1]) (kk : KwM K fd ["self", "what"] ["what"] 0 [0, 1]) : ExV1 P w K mg base "BadFlow" A.BadFlow "what" :=
  T.yk_BadFlow.v1 F sc_BadFlow_init kp kk rfl (.inl rfl) (.inl rfl)
theorem sc_BadAge_init : FnScope ["self", "age"] ["self", "age"] (defScope s_BadAge_init) := ⟨rfl, rfl, rfl, by decide +kernel, rfl, by decide +kernel, by decide +kernel⟩
theorem vx_BadAge {fd : FuncData} (T : Txt K mg A) (F : Fun K "__init__" "BadAge.__init__" s_BadAge_init A.BadAge_init fd) (kp : KwM K fd ["self", "age"] [] 1 [0, 1]) (kk : KwM K fd ["self", "age"] ["age"] 0 [0, 1]) : ExV1 P w K mg base "BadAge" A.BadAge "age" :=
  T.yk_BadAge.v1 F sc_BadAge_init kp kk rfl (.inl rfl) (.inl rfl)
theorem sc_BadPart_init : FnScope ["self", "at"] ["self", "at"] (defScope s_BadPart_init) := ⟨rfl, rfl, rfl, by decide +kernel, rfl, by decide +kernel, by decide +kernel⟩
theorem vx_BadPart {fd : FuncData} (T : Txt K mg A) (F : Fun K "__init__" "BadPart.__init__" s_BadPart_init A.BadPart_init fd) (kp : KwM K fd ["self", "at"] [] 1 [0, 1]) (kk : KwM K fd ["self", "at"] ["at"] 0 [0, 1]) : ExV1 P w K mg base "BadPart" A.BadPart "at" :=
  T.yk_BadPart.v1 F sc_BadPart_init kp kk rfl (.inl rfl) (.inl rfl)
theorem sc_TooMany_init : FnScope ["self", "what", "count"] ["self", "what", "count"] (defScope s_TooMany_init) := ⟨rfl, rfl, rfl, by decide +kernel, rfl, by decide +kernel, by decide +kernel⟩
theorem vx_TooMany {fd : FuncData} (T : Txt K mg A) (F : Fun K "__init__" "TooMany.__init__" s_TooMany_init A.TooMany_init fd) (kp : KwM K fd ["self", "what", "count"] [] 2 [0, 1, 2]) (kk : KwM K fd ["self", "what", "count"] ["count", "what"] 0 [0, 2, 1]) : ExV2 P w K mg base "TooMany" A.TooMany "what" "count" :=
  T.yk_TooMany.v2 F sc_TooMany_init kp kk rfl (.inl rfl) (.inl rfl) (.inl rfl)
theorem sc_DuplicateName_init : FnScope ["self", "name"] ["self", "name"] (defScope s_DuplicateName_init) := ⟨rfl, rfl, rfl, by decide +kernel, rfl, by decide +kernel, by decide +kernel⟩
theorem vx_DuplicateName {fd : FuncData} (T : Txt K mg A) (F : Fun K "__init__" "DuplicateName.__init__" s_DuplicateName_init A.DuplicateName_init fd) (kp : KwM K fd ["self", "name"] [] 1 [0, 1]) (kk : KwM K fd ["self", "name"] ["name"] 0 [0, 1]) : ExV1 P w K mg base "DuplicateName" A.DuplicateName "name" :=
  T.yk_DuplicateName.v1 F sc_DuplicateName_init kp kk rfl (.inl rfl) (.inl rfl)
theorem sc_Idle_init : FnScope ["self", "link"] ["self", "link"] (defScope s_Idle_init) := ⟨rfl, rfl, rfl, by decide +kernel, rfl, by decide +kernel, by decide +kernel⟩
theorem vx_Idle {fd : FuncData} (T : Txt K mg A) (F : Fun K "__init__" "Idle.__init__" s_Idle_init A.Idle_init fd) (kp : KwM K fd ["self", "link"] [] 1 [0, 1]) (kk : KwM K fd ["self", "link"] ["link"] 0 [0, 1]) : ExV1 P w K mg base "Idle" A.Idle "link" :=
  T.yk_Idle.v1 F sc_Idle_init kp kk rfl (.inl rfl) (.inl rfl)
theorem sc_Overpromised_init : FnScope ["self", "link", "over"] ["self", "link", "over"] (defScope s_Overpromised_init) := ⟨rfl, rfl, rfl, by decide +kernel, rfl, by decide +kernel, by decide +kernel⟩
theorem vx_Overpromised {fd : FuncData} (T : Txt K mg A) (F : Fun K "__init__" "Overpromised.__init__" s_Overpromised_init A.Overpromised_init fd) (kp : KwM K fd ["self", "link", "over"] [] 2 [0, 1, 2]) (kk : KwM K fd ["self", "link", "over"] ["over", "link"] 0 [0, 2, 1]) : ExV2 P w K mg base "Overpromised" A.Overpromised "link" "over" :=
  T.yk_Overpromised.v2 F sc_Overpromised_init kp kk rfl (.inl rfl) (.inl rfl) (.inl rfl)
theorem sc_Small_init : FnScope ["self", "flow", "link"] ["self", "flow", "link"] (defScope s_Small_init) := ⟨rfl, rfl, rfl, by decide +kernel, rfl, by decide +kernel, by decide +kernel⟩
theorem vx_Small {fd : FuncData} (T : Txt K mg A) (F : Fun K "__init__" "Small.__init__" s_Small_init A.Small_init fd) (kp : KwM K fd ["self", "flow", "link"] [] 2 [0, 1, 2]) (kk : KwM K fd ["self", "flow", "link"] ["link", "flow"] 0 [0, 2, 1]) : ExV2 P w K mg base "Small" A.Small "flow" "link" :=
  T.yk_Small.v2 F sc_Small_init kp kk rfl (.inl rfl) (.inl rfl) (.inl rfl)
theorem sc_BadText_init : FnScope ["self", "line", "word"] ["self", "line", "word"] (defScope s_BadText_init) := ⟨rfl, rfl, rfl, by decide +kernel, rfl, by decide +kernel, by decide +kernel⟩
theorem vx_BadText {fd : FuncData} (T : Txt K mg A) (F : Fun K "__init__" "BadText.__init__" s_BadText_init A.BadText_init fd) (kp : KwM K fd ["self", "line", "word"] [] 2 [0, 1, 2]) (kk : KwM K fd ["self", "line", "word"] ["word", "line"] 0 [0, 2, 1]) : ExV2 P w K mg base "BadText" A.BadText "line" "word" :=
  T.yk_BadText.v2 F sc_BadText_init kp kk rfl (.inl rfl) (.inl rfl) (.inl rfl)
theorem sc_BadManner_init : FnScope ["self", "flow"] ["self", "flow"] (defScope s_BadManner_init) := ⟨rfl, rfl, rfl, by decide +kernel, rfl, by decide +kernel, by decide +kernel⟩
theorem vx_BadManner {fd : FuncData} (T : Txt K mg A) (F : Fun K "__init__" "BadManner.__init__" s_BadManner_init A.BadManner_init fd) (kp : KwM K fd ["self", "flow"] [] 1 [0, 1]) (kk : KwM K fd ["self", "flow"] ["flow"] 0 [0, 1]) : ExV1 P w K mg base "BadManner" A.BadManner "flow" :=
  T.yk_BadManner.v1 F sc_BadManner_init kp kk rfl (.inl rfl) (.inl rfl)
theorem sc_BadCapacity_init : FnScope ["self", "link"] ["self", "link"] (defScope s_BadCapacity_init) := ⟨rfl, rfl, rfl, by decide +kernel, rfl, by decide +kernel, by decide +kernel⟩
theorem vx_BadCapacity {fd : FuncData} (T : Txt K mg A) (F : Fun K "__init__" "BadCapacity.__init__" s_BadCapacity_init A.BadCapacity_init fd) (kp : KwM K fd ["self", "link"] [] 1 [0, 1]) (kk : KwM K fd ["self", "link"] ["link"] 0 [0, 1]) : ExV1 P w K mg base "BadCapacity" A.BadCapacity "link" :=
  T.yk_BadCapacity.v1 F sc_BadCapacity_init kp kk rfl (.inl rfl) (.inl rfl)
theorem sc_BadSharing_init : FnScope ["self", "name"] ["self", "name"] (defScope s_BadSharing_init) := ⟨rfl, rfl, rfl, by decide +kernel, rfl, by decide +kernel, by decide +kernel⟩
theorem vx_BadSharing {fd : FuncData} (T : Txt K mg A) (F : Fun K "__init__" "BadSharing.__init__" s_BadSharing_init A.BadSharing_init fd) (kp : KwM K fd ["self", "name"] [] 1 [0, 1]) (kk : KwM K fd ["self", "name"] ["name"] 0 [0, 1]) : ExV1 P w K mg base "BadSharing" A.BadSharing "name" :=
  T.yk_BadSharing.v1 F sc_BadSharing_init kp kk rfl (.inl rfl) (.inl rfl)
theorem sc_BadBand_init : FnScope ["self", "link"] ["self", "link"] (defScope s_BadBand_init) := ⟨rfl, rfl, rfl, by decide +kernel, rfl, by decide +kernel, by decide +kernel⟩
theorem vx_BadBand {fd : FuncData} (T : Txt K mg A) (F : Fun K "__init__" "BadBand.__init__" s_BadBand_init A.BadBand_init fd) (kp : KwM K fd ["self", "link"] [] 1 [0, 1]) (kk : KwM K fd ["self", "link"] ["link"] 0 [0, 1]) : ExV1 P w K mg base "BadBand" A.BadBand "link" :=
  T.yk_BadBand.v1 F sc_BadBand_init kp kk rfl (.inl rfl) (.inl rfl)
theorem sc_Future_init : FnScope ["self", "tick"] ["self", "tick"] (defScope s_Future_init) := ⟨rfl, rfl, rfl, by decide +kernel, rfl, by decide +kernel, by decide +kernel⟩
theorem vx_Future {fd : FuncData} (T : Txt K mg A) (F : Fun K "__init__" "Future.__init__" s_Future_init A.Future_init fd) (kp : KwM K fd ["self", "tick"] [] 1 [0, 1]) (kk : KwM K fd ["self", "tick"] ["tick"] 0 [0, 1]) : ExV1 P w K mg base "Future" A.Future "tick" :=
  T.yk_Future.v1 F sc_Future_init kp kk rfl (.inl rfl) (.inl rfl)
theorem vx_Short {fd : FuncData} (T : Txt K mg A) (F : Fun K "__init__" "Short.__init__" s_Short_init A.Short_init fd) (kp : KwM K fd ["self", "amount"] [] 1 [0, 1]) (kk : KwM K fd ["self", "amount"] ["amount"] 0 [0, 1]) : ExV1 P w K mg base "Short" A.Short "amount" :=
  T.yk_Short.v1 F sc_Short_init kp kk rfl (.inl rfl) (.inl rfl)
theorem sc_BadValue_init : FnScope ["self", "channel"] ["self", "channel"] (defScope s_BadValue_init) := ⟨rfl, rfl, rfl, by decide +kernel, rfl, by decide +kernel, by decide +kernel⟩
theorem vx_BadValue {fd : FuncData} (T : Txt K mg A) (F : Fun K "__init__" "BadValue.__init__" s_BadValue_init A.BadValue_init fd) (kp : KwM K fd ["self", "channel"] [] 1 [0, 1]) (kk : KwM K fd ["self", "channel"] ["channel"] 0 [0, 1]) : ExV1 P w K mg base "BadValue" A.BadValue "channel" :=
  T.yk_BadValue.v1 F sc_BadValue_init kp kk rfl (.inl rfl) (.inl rfl)
theorem sc_BadState_init : FnScope ["self", "what", "at"] ["self", "what", "at"] (defScope s_BadState_init) := ⟨rfl, rfl, rfl, by decide +kernel, rfl, by decide +kernel, by decide +kernel⟩
theorem vx_BadState {fd : FuncData} (T : Txt K mg A) (F : Fun K "__init__" "BadState.__init__" s_BadState_init A.BadState_init fd) (kp : KwM K fd ["self", "what", "at"] [] 2 [0, 1, 2]) (kk : KwM K fd ["self", "what", "at"] ["at", "what"] 0 [0, 2, 1]) : ExV2 P w K mg base "BadState" A.BadState "what" "at" :=
  T.yk_BadState.v2 F sc_BadState_init kp kk rfl (.inl rfl) (.inl rfl) (.inl rfl)
theorem sc_BadCount_init : FnScope ["self", "value"] ["self", "value"] (defScope s_BadCount_init) := ⟨rfl, rfl, rfl, by decide +kernel, rfl, by decide +kernel, by decide +kernel⟩
theorem vx_BadCount {fd : FuncData} (T : Txt K mg A) (F : Fun K "__init__" "BadCount.__init__" s_BadCount_init A.BadCount_init fd) (kp : KwM K fd ["self", "value"] [] 1 [0, 1]) (kk : KwM K fd ["self", "value"] ["value"] 0 [0, 1]) : ExV1 P w K mg base "BadCount" A.BadCount "value" :=
  T.yk_BadCount.v1 F sc_BadCount_init kp kk rfl (.inl rfl) (.inl rfl)
theorem sc_BadDeed_init : FnScope ["self", "at"] ["self", "at"] (defScope s_BadDeed_init) := ⟨rfl, rfl, rfl, by decide +kernel, rfl, by decide +kernel, by decide +kernel⟩
theorem vx_BadDeed {fd : FuncData} (T : Txt K mg A) (F : Fun K "__init__" "BadDeed.__init__" s_BadDeed_init A.BadDeed_init fd) (kp : KwM K fd ["self", "at"] [] 1 [0, 1]) (kk : KwM K fd ["self", "at"] ["at"] 0 [0, 1]) : ExV1 P w K mg base "BadDeed" A.BadDeed "at" :=
  T.yk_BadDeed.v1 F sc_BadDeed_init kp kk rfl (.inl rfl) (.inl rfl)
theorem sc_UnknownName_init : FnScope ["self", "name"] ["self", "name"] (defScope s_UnknownName_init) := ⟨rfl, rfl, rfl, by decide +kernel, rfl, by decide +kernel, by decide +kernel⟩
theorem vx_UnknownName {fd : FuncData} (T : Txt K mg A) (F : Fun K "__init__" "UnknownName.__init__" s_UnknownName_init A.UnknownName_init fd) (kp : KwM K fd ["self", "name"] [] 1 [0, 1]) (kk : KwM K fd ["self", "name"] ["name"] 0 [0, 1]) : ExV1 P w K mg base "UnknownName" A.UnknownName "name" :=
  T.yk_UnknownName.v1 F sc_UnknownName_init kp kk rfl (.inl rfl) (.inl rfl)
theorem sc_UnknownChannel_init : FnScope ["self", "channel"] ["self", "channel"] (defScope s_UnknownChannel_init) := ⟨rfl, rfl, rfl, by decide +kernel, rfl, by decide +kernel, by decide +kernel⟩
theorem vx_UnknownChannel {fd : FuncData} (T : Txt K mg A) (F : Fun K "__init__" "UnknownChannel.__init__" s_UnknownChannel_init A.UnknownChannel_init fd) (kp : KwM K fd ["self", "channel"] [] 1 [0, 1]) (kk : KwM K fd ["self", "channel"] ["channel"] 0 [0, 1]) : ExV1 P w K mg base "UnknownChannel" A.UnknownChannel "channel" :=
  T.yk_UnknownChannel.v1 F sc_UnknownChannel_init kp kk rfl (.inl rfl) (.inl rfl)
theorem vx_UnknownHop {fd : FuncData} (T : Txt K mg A) (F : Fun K "__init__" "UnknownHop.__init__" s_UnknownHop_init A.UnknownHop_init fd) (kp : KwM K fd ["self", "hop"] [] 1 [0, 1]) (kk : KwM K fd ["self", "hop"] ["hop"] 0 [0, 1]) : ExV1 P w K mg base "UnknownHop" A.UnknownHop "hop" :=
  T.yk_UnknownHop.v1 F sc_UnknownHop_init kp kk rfl (.inl rfl) (.inl rfl)
theorem sc_NoSuchLetter_init : FnScope ["self", "number"] ["self", "number"] (defScope s_NoSuchLetter_init) := ⟨rfl, rfl, rfl, by decide +kernel, rfl, by decide +kernel, by decide +kernel⟩
theorem vx_NoSuchLetter {fd : FuncData} (T : Txt K mg A) (F : Fun K "__init__" "NoSuchLetter.__init__" s_NoSuchLetter_init A.NoSuchLetter_init fd) (kp : KwM K fd ["self", "number"] [] 1 [0, 1]) (kk : KwM K fd ["self", "number"] ["number"] 0 [0, 1]) : ExV1 P w K mg base "NoSuchLetter" A.NoSuchLetter "number" :=
  T.yk_NoSuchLetter.v1 F sc_NoSuchLetter_init kp kk rfl (.inl rfl) (.inl rfl)
theorem sc_NoSuchTick_init : FnScope ["self", "tick"] ["self", "tick"] (defScope s_NoSuchTick_init) := ⟨rfl, rfl, rfl, by decide +kernel, rfl, by decide +kernel, by decide +kernel⟩
theorem vx_NoSuchTick {fd : FuncData} (T : Txt K mg A) (F : Fun K "__init__" "NoSuchTick.__init__" s_NoSuchTick_init A.NoSuchTick_init fd) (kp : KwM K fd ["self", "tick"] [] 1 [0, 1]) (kk : KwM K fd ["self", "tick"] ["tick"] 0 [0, 1]) : ExV1 P w K mg base "NoSuchTick" A.NoSuchTick "tick" :=
  T.yk_NoSuchTick.v1 F sc_NoSuchTick_init kp kk rfl (.inl rfl) (.inl rfl)
theorem vx_Started {fd : FuncData} (T : Txt K mg A) (F : Fun K "__init__" "Started.__init__" s_Started_init A.Started_init fd) (kp : KwM K fd ["self", "tick"] [] 1 [0, 1]) (kk : KwM K fd ["self", "tick"] ["tick"] 0 [0, 1]) : ExV1 P w K mg base "Started" A.Started "tick" :=
  T.yk_Started.v1 F sc_Started_init kp kk rfl (.inl rfl) (.inl rfl)
theorem sc_NotStrange_init : FnScope ["self", "name"] ["self", "name"] (defScope s_NotStrange_init) := ⟨rfl, rfl, rfl, by decide +kernel, rfl, by decide +kernel, by decide +kernel⟩
theorem vx_NotStrange {fd : FuncData} (T : Txt K mg A) (F : Fun K "__init__" "NotStrange.__init__" s_NotStrange_init A.NotStrange_init fd) (kp : KwM K fd ["self", "name"] [] 1 [0, 1]) (kk : KwM K fd ["self", "name"] ["name"] 0 [0, 1]) : ExV1 P w K mg base "NotStrange" A.NotStrange "name" :=
  T.yk_NotStrange.v1 F sc_NotStrange_init kp kk rfl (.inl rfl) (.inl rfl)
theorem sc_NotShaky_init : FnScope ["self", "link"] ["self", "link"] (defScope s_NotShaky_init) := ⟨rfl, rfl, rfl, by decide +kernel, rfl, by decide +kernel, by decide +kernel⟩
theorem vx_NotShaky {fd : FuncData} (T : Txt K mg A) (F : Fun K "__init__" "NotShaky.__init__" s_NotShaky_init A.NotShaky_init fd) (kp : KwM K fd ["self", "link"] [] 1 [0, 1]) (kk : KwM K fd ["self", "link"] ["link"] 0 [0, 1]) : ExV1 P w K mg base "NotShaky" A.NotShaky "link" :=
  T.yk_NotShaky.v1 F sc_NotShaky_init kp kk rfl (.inl rfl) (.inl rfl)
theorem sc_Unseen_init : FnScope ["self", "flow"] ["self", "flow"] (defScope s_Unseen_init) := ⟨rfl, rfl, rfl, by decide +kernel, rfl, by decide +kernel, by decide +kernel⟩
theorem vx_Unseen {fd : FuncData} (T : Txt K mg A) (F : Fun K "__init__" "Unseen.__init__" s_Unseen_init A.Unseen_init fd) (kp : KwM K fd ["self", "flow"] [] 1 [0, 1]) (kk : KwM K fd ["self", "flow"] ["flow"] 0 [0, 1]) : ExV1 P w K mg base "Unseen" A.Unseen "flow" :=
  T.yk_Unseen.v1 F sc_Unseen_init kp kk rfl (.inl rfl) (.inl rfl)
theorem sc_law_taken : FnScope ["_law_deed", "_law_error"] ["_law_deed"] (defScope s_law_taken) := ⟨rfl, rfl, rfl, by decide +kernel, rfl, by decide +kernel, by decide +kernel⟩
theorem dk_law_taken {X : Cx} (T : Txt X.K X.mg A) {cdg : Value} {s : Shared} {H : Hp} : HdsA (cxOf C8.CX0 X.prog X.w X.K X.mg X.base ["_law_deed", "_law_error"] "_law_taken" (defScope s_law_taken) A.law_taken cdg X.A X.stack s H C8.E0).nox "_law_error" (match defBody s_law_taken with | .Try _ hs _ _ _ :: _ => hs | _ => []) (hlift X.K ([A.BandError, A.Missing, A.Refused].zip (qss_law_taken A))) :=
  (.cons ⟨rfl, by decide, .inl T.yg_BandError⟩ (fun a oe cls d pn hz hf => (dss_one (ds_ret (de_lstF (da_cons de_str (da_cons (dv 1) da_nil)))))) (.cons ⟨rfl, by decide, .inl T.yg_Missing⟩ (fun a oe cls d pn hz hf => (dss_one (ds_ret (de_lstF (da_cons de_str (da_cons (dv 1) da_nil)))))) (.cons ⟨rfl, by decide, .inl T.yg_Refused⟩ (fun a oe cls d pn hz hf => (dss_one (ds_ret (de_lstF (da_cons de_str (da_cons (dv 1) da_nil)))))) .nil)))
theorem dr_law_taken {X : Cx} (T : Txt X.K X.mg A) {cdg : Value} {s : Shared} {H : Hp} : PSs (cxOf C8.CX0 X.prog X.w X.K X.mg X.base ["_law_deed", "_law_error"] "_law_taken" (defScope s_law_taken) A.law_taken cdg X.A X.stack s H C8.E0).nox ((defBody s_law_taken).drop 1) (liftS X.K (qr_law_taken A)) :=
  (dss_one (ds_ret (de_lstF (da_cons de_str (da_cons de_non da_nil)))))
theorem sc_law_bag : FnScope ["_law_script", "_law_seed", "_law_item"] ["_law_script"] (defScope s_law_bag) := ⟨rfl, rfl, rfl, by decide +kernel, rfl, by decide +kernel, by decide +kernel⟩
theorem d_law_bag {fd : FuncData} (T : Txt K mg A) (F : Fun K "_law_bag" "_law_bag" s_law_bag A.law_bag fd) (hb : Binds K fd ["_law_script"] []) : FnD P w K mg base 1 A.law_bag (sp_law_bag A) :=
  def_ofW (N := ["_law_script", "_law_seed", "_law_item"]) (qb := qb_law_bag A) F hb sc_law_bag (len_law_bag A) (fun cdv Ar outer s H E hr =>
    (dss_cons (ds_set 1 sc_law_bag.nd de_int)
    (dss_cons (ds_for PassesOwn.never rfl (di_lst (de_slL (dv 0) do_none (do_some de_int))) (pt_nm 2 sc_law_bag.nd) (dss_one (ds_set 1 sc_law_bag.nd (de_op do_mod (de_callTy db_int rfl T.z_int (by decide +kernel) (da_cons (de_op do_add (de_op do_add (de_op do_mul (dv 1) de_int) (de_op do_mod (de_callTy db_int rfl T.z_int (by decide +kernel) (da_cons (dv 2) da_nil)) de_int)) de_int) da_nil)) de_int))))
    (dss_one (ds_ret (de_lstM (da_cons (de_freeze (de_callTy db_list rfl T.z_list (by decide +kernel) (da_cons (de_slL (dv 0) do_none (do_some de_int)) da_nil))) (da_cons de_int (da_cons de_int (da_cons (dv 1) (da_cons de_int da_nil))))))))))) (rd_law_bag A)
theorem sc_law_draw : FnScope ["_law_bag_here", "_law_many", "_law_item", "_law_digit"] ["_law_bag_here", "_law_many"] (defScope s_law_draw) := ⟨rfl, rfl, rfl, by decide +kernel, rfl, by decide +kernel, by decide +kernel⟩
theorem d_law_draw {fd : FuncData} (T : Txt K mg A) (F : Fun K "_law_draw" "_law_draw" s_law_draw A.law_draw fd) (hb : Binds K fd ["_law_bag_here", "_law_many"] []) : FnD P w K mg base 1 A.law_draw (sp_law_draw A) :=
  def_ofW (N := ["_law_bag_here", "_law_many", "_law_item", "_law_digit"]) (qb := qb_law_draw A) F hb sc_law_draw (len_law_draw A) (fun cdv Ar outer s H E hr =>
    (dss_open (dss_cons (ds_sub (hu1 hr) (dv 0) de_int (de_op do_add (de_idx (hu1 hr) (dv 0) de_int) de_int))
    (dss_cons (ds_if (PW.pt (dw_and (dt_cmp (do_eq2 (hu64 hr)) (de_idx (hu1 hr) (dv 0) de_int) de_int (by first | rfl | exact nobehind _ (by decide) (by decide))) (dw_and1 (dt_cmp do_lt (de_idx (hu1 hr) (dv 0) de_int) (de_callB db_len rfl T.z_len (by decide +kernel) (da_cons (de_idx (hu1 hr) (dv 0) de_int) da_nil)) (by first | rfl | exact nobehind _ (by decide) (by decide)))))) (dss_cons (ds_set 2 sc_law_draw.nd (de_idx (hu1 hr) (de_idx (hu1 hr) (dv 0) de_int) (de_idx (hu1 hr) (dv 0) de_int)))
    (dss_cons (ds_sub (hu1 hr) (dv 0) de_int (de_op do_add (de_idx (hu1 hr) (dv 0) de_int) de_int))
    (dss_one (ds_if (dt_cmp do_ge (dv 2) (de_op do_pow2 de_int de_int) (by first | rfl | exact nobehind _ (by decide) (by decide))) (dss_one (ds_sub (hu1 hr) (dv 0) de_int (dv 2))) (dss_one (ds_sub (hu1 hr) (dv 0) de_int (de_op do_mod (de_callTy db_int rfl T.z_int (by decide +kernel) (da_cons (de_op do_add (de_op do_add (de_op do_mul (de_idx (hu1 hr) (dv 0) de_int) de_int) (de_op do_mul (de_op do_mod (de_callTy db_int rfl T.z_int (by decide +kernel) (da_cons (dv 2) da_nil)) de_int) de_int)) de_int) da_nil)) de_int))))))) dss_nil)
    (dss_cons (ds_if (dt_cmp do_gt (de_idx (hu1 hr) (dv 0) de_int) de_int (by first | rfl | exact nobehind _ (by decide) (by decide))) (dss_cons (ds_set 3 sc_law_draw.nd (de_op do_mod (de_callTy db_int rfl T.z_int (by decide +kernel) (da_cons (de_idx (hu1 hr) (dv 0) de_int) da_nil)) (dv 1)))
    (dss_cons (ds_sub (hu1 hr) (dv 0) de_int (de_op do_fdiv (de_idx (hu1 hr) (dv 0) de_int) (dv 1)))
    (dss_one (ds_ret (dv 3))))) dss_nil)
    (dss_cons (ds_sub (hu1 hr) (dv 0) de_int (de_op do_mod (de_callTy db_int rfl T.z_int (by decide +kernel) (da_cons (de_op do_add (de_op do_add (de_op do_pow2 (de_idx (hu1 hr) (dv 0) de_int) de_int) (de_op do_mul (de_idx (hu1 hr) (dv 0) de_int) de_int)) de_int) da_nil)) de_int))
    (dss_one (ds_ret (de_op do_mod (de_callTy db_int rfl T.z_int (by decide +kernel) (da_cons (de_op do_add (de_op do_fdiv (de_idx (hu1 hr) (dv 0) de_int) de_int) (de_op do_mul (de_op do_mod (de_callTy db_int rfl T.z_int (by decide +kernel) (da_cons (de_idx (hu1 hr) (dv 0) de_int) da_nil)) de_int) de_int)) da_nil)) (dv 1)))))))))) (rd_law_draw A)
theorem sc_law_of : FnScope ["_law_bag_here", "_law_things"] ["_law_bag_here", "_law_things"] (defScope s_law_of) := ⟨rfl, rfl, rfl, by decide +kernel, rfl, by decide +kernel, by decide +kernel⟩
theorem d_law_of {fd : FuncData} (T : Txt K mg A) (F : Fun K "_law_of" "_law_of" s_law_of A.law_of fd) (hb : Binds K fd ["_law_bag_here", "_law_things"] []) (G_law_draw : FnD P w K mg base 1 A.law_draw (sp_law_draw A)) : FnD P w K mg base 2 A.law_of (sp_law_of A) :=
  def_ofW (N := ["_law_bag_here", "_law_things"]) (qb := qb_law_of A) F hb sc_law_of (len_law_of A) (fun cdv Ar outer s H E hr =>
    (dss_one (ds_ret (de_idx (hu1 hr) (dv 1) (de_call G_law_draw (hr.mono (by decide)) rfl T.g_law_draw T.k_law_draw (da_cons (dv 0) (da_cons (de_callB db_len rfl T.z_len (by decide +kernel) (da_cons (dv 1) da_nil)) da_nil))))))) (rd_law_of A)
theorem sc_law_last_made : FnScope ["_law_x", "_law_y", "_law_rows", "_law_one", "_law_two"] ["_law_x", "_law_y"] (defScope s_law_last_made) := ⟨rfl, rfl, rfl, by decide +kernel, rfl, by decide +kernel, by decide +kernel⟩
theorem d_law_last_made {fd : FuncData} (T : Txt K mg A) (F : Fun K "_law_last_made" "_law_last_made" s_law_last_made A.law_last_made fd) (hb : Binds K fd ["_law_x", "_law_y"] []) (V_UnknownName : ExV1 P w K mg base "UnknownName" A.UnknownName "name") (V_UnknownChannel : ExV1 P w K mg base "UnknownChannel" A.UnknownChannel "channel") (V_UnknownHop : ExV1 P w K mg base "UnknownHop" A.UnknownHop "hop") (V_NoSuchLetter : ExV1 P w K mg base "NoSuchLetter" A.NoSuchLetter "number") (V_NoSuchTick : ExV1 P w K mg base "NoSuchTick" A.NoSuchTick "tick") (V_Started : ExV1 P w K mg base "Started" A.Started "tick") (V_NotStrange : ExV1 P w K mg base "NotStrange" A.NotStrange "name") (V_NotShaky : ExV1 P w K mg base "NotShaky" A.NotShaky "link") (V_Unseen : ExV1 P w K mg base "Unseen" A.Unseen "flow") : FnD P w K mg base 3 A.law_last_made (sp_law_last_made A) :=
  def_ofW (N := ["_law_x", "_law_y", "_law_rows", "_law_one", "_law_two"]) (qb := qb_law_last_made A) F hb sc_law_last_made (len_law_last_made A) (fun cdv Ar outer s H E hr =>
    (dss_cons (ds_set 2 sc_law_last_made.nd (de_lstM da_nil))
    (dss_cons (ds_set 3 sc_law_last_made.nd (de_mk1 V_UnknownName (hr.mono (by decide)) (dv 0)))
    (dss_cons (ds_set 4 sc_law_last_made.nd (de_mk1K V_UnknownName (hr.mono (by decide)) (dv 0)))
    (dss_cons (ds_expr (de_bm PySem.F.plainAttrs_list PySem.F.slot_list_append PySem.F.type_list_append dm_append (dv 2) (da_cons (de_lstF (da_cons de_str (da_cons de_str (da_cons (de_lstF (da_cons (dv 3) (da_cons (dv 4) da_nil))) (da_cons (de_lstF (da_cons (de_lstF (da_cons (de_kf T.yk_UnknownName.xf (T.yk_UnknownName.no _ (by simp)) (dv 3)) da_nil)) (da_cons (de_lstF (da_cons (de_kf T.yk_UnknownName.xf (T.yk_UnknownName.no _ (by simp)) (dv 4)) da_nil)) da_nil))) da_nil))))) da_nil)))
    (dss_cons (ds_set 3 sc_law_last_made.nd (de_mk1 V_UnknownChannel (hr.mono (by decide)) (dv 0)))
    (dss_cons (ds_set 4 sc_law_last_made.nd (de_mk1K V_UnknownChannel (hr.mono (by decide)) (dv 0)))
    (dss_cons (ds_expr (de_bm PySem.F.plainAttrs_list PySem.F.slot_list_append PySem.F.type_list_append dm_append (dv 2) (da_cons (de_lstF (da_cons de_str (da_cons de_str (da_cons (de_lstF (da_cons (dv 3) (da_cons (dv 4) da_nil))) (da_cons (de_lstF (da_cons (de_lstF (da_cons (de_kf T.yk_UnknownChannel.xf (T.yk_UnknownChannel.no _ (by simp)) (dv 3)) da_nil)) (da_cons (de_lstF (da_cons (de_kf T.yk_UnknownChannel.xf (T.yk_UnknownChannel.no _ (by simp)) (dv 4)) da_nil)) da_nil))) da_nil))))) da_nil)))
    (dss_cons (ds_set 3 sc_law_last_made.nd (de_mk1 V_UnknownHop (hr.mono (by decide)) (dv 0)))
    (dss_cons (ds_set 4 sc_law_last_made.nd (de_mk1K V_UnknownHop (hr.mono (by decide)) (dv 0)))
    (dss_cons (ds_expr (de_bm PySem.F.plainAttrs_list PySem.F.slot_list_append PySem.F.type_list_append dm_append (dv 2) (da_cons (de_lstF (da_cons de_str (da_cons de_str (da_cons (de_lstF (da_cons (dv 3) (da_cons (dv 4) da_nil))) (da_cons (de_lstF (da_cons (de_lstF (da_cons (de_kf T.yk_UnknownHop.xf (T.yk_UnknownHop.no _ (by simp)) (dv 3)) da_nil)) (da_cons (de_lstF (da_cons (de_kf T.yk_UnknownHop.xf (T.yk_UnknownHop.no _ (by simp)) (dv 4)) da_nil)) da_nil))) da_nil))))) da_nil)))
    (dss_cons (ds_set 3 sc_law_last_made.nd (de_mk1 V_NoSuchLetter (hr.mono (by decide)) (dv 0)))
    (dss_cons (ds_set 4 sc_law_last_made.nd (de_mk1K V_NoSuchLetter (hr.mono (by decide)) (dv 0)))
    (dss_cons (ds_expr (de_bm PySem.F.plainAttrs_list PySem.F.slot_list_append PySem.F.type_list_append dm_append (dv 2) (da_cons (de_lstF (da_cons de_str (da_cons de_str (da_cons (de_lstF (da_cons (dv 3) (da_cons (dv 4) da_nil))) (da_cons (de_lstF (da_cons (de_lstF (da_cons (de_kf T.yk_NoSuchLetter.xf (T.yk_NoSuchLetter.no _ (by simp)) (dv 3)) da_nil)) (da_cons (de_lstF (da_cons (de_kf T.yk_NoSuchLetter.xf (T.yk_NoSuchLetter.no _ (by simp)) (dv 4)) da_nil)) da_nil))) da_nil))))) da_nil)))
    (dss_cons (ds_set 3 sc_law_last_made.nd (de_mk1 V_NoSuchTick (hr.mono (by decide)) (dv 0)))
    (dss_cons (ds_set 4 sc_law_last_made.nd (de_mk1K V_NoSuchTick (hr.mono (by decide)) (dv 0)))
    (dss_cons (ds_expr (de_bm PySem.F.plainAttrs_list PySem.F.slot_list_append PySem.F.type_list_append dm_append (dv 2) (da_cons (de_lstF (da_cons de_str (da_cons de_str (da_cons (de_lstF (da_cons (dv 3) (da_cons (dv 4) da_nil))) (da_cons (de_lstF (da_cons (de_lstF (da_cons (de_kf T.yk_NoSuchTick.xf (T.yk_NoSuchTick.no _ (by simp)) (dv 3)) da_nil)) (da_cons (de_lstF (da_cons (de_kf T.yk_NoSuchTick.xf (T.yk_NoSuchTick.no _ (by simp)) (dv 4)) da_nil)) da_nil))) da_nil))))) da_nil)))
    (dss_cons (ds_set 3 sc_law_last_made.nd (de_mk1 V_Started (hr.mono (by decide)) (dv 0)))
    (dss_cons (ds_set 4 sc_law_last_made.nd (de_mk1K V_Started (hr.mono (by decide)) (dv 0)))
    (dss_cons (ds_expr (de_bm PySem.F.plainAttrs_list PySem.F.slot_list_append PySem.F.type_list_append dm_append (dv 2) (da_cons (de_lstF (da_cons de_str (da_cons de_str (da_cons (de_lstF (da_cons (dv 3) (da_cons (dv 4) da_nil))) (da_cons (de_lstF (da_cons (de_lstF (da_cons (de_kf T.yk_Started.xf (T.yk_Started.no _ (by simp)) (dv 3)) da_nil)) (da_cons (de_lstF (da_cons (de_kf T.yk_Started.xf (T.yk_Started.no _ (by simp)) (dv 4)) da_nil)) da_nil))) da_nil))))) da_nil)))
    (dss_cons (ds_set 3 sc_law_last_made.nd (de_mk1 V_NotStrange (hr.mono (by decide)) (dv 0)))
    (dss_cons (ds_set 4 sc_law_last_made.nd (de_mk1K V_NotStrange (hr.mono (by decide)) (dv 0)))
    (dss_cons (ds_expr (de_bm PySem.F.plainAttrs_list PySem.F.slot_list_append PySem.F.type_list_append dm_append (dv 2) (da_cons (de_lstF (da_cons de_str (da_cons de_str (da_cons (de_lstF (da_cons (dv 3) (da_cons (dv 4) da_nil))) (da_cons (de_lstF (da_cons (de_lstF (da_cons (de_kf T.yk_NotStrange.xf (T.yk_NotStrange.no _ (by simp)) (dv 3)) da_nil)) (da_cons (de_lstF (da_cons (de_kf T.yk_NotStrange.xf (T.yk_NotStrange.no _ (by simp)) (dv 4)) da_nil)) da_nil))) da_nil))))) da_nil)))
    (dss_cons (ds_set 3 sc_law_last_made.nd (de_mk1 V_NotShaky (hr.mono (by decide)) (dv 0)))
    (dss_cons (ds_set 4 sc_law_last_made.nd (de_mk1K V_NotShaky (hr.mono (by decide)) (dv 0)))
    (dss_cons (ds_expr (de_bm PySem.F.plainAttrs_list PySem.F.slot_list_append PySem.F.type_list_append dm_append (dv 2) (da_cons (de_lstF (da_cons de_str (da_cons de_str (da_cons (de_lstF (da_cons (dv 3) (da_cons (dv 4) da_nil))) (da_cons (de_lstF (da_cons (de_lstF (da_cons (de_kf T.yk_NotShaky.xf (T.yk_NotShaky.no _ (by simp)) (dv 3)) da_nil)) (da_cons (de_lstF (da_cons (de_kf T.yk_NotShaky.xf (T.yk_NotShaky.no _ (by simp)) (dv 4)) da_nil)) da_nil))) da_nil))))) da_nil)))
    (dss_cons (ds_set 3 sc_law_last_made.nd (de_mk1 V_Unseen (hr.mono (by decide)) (dv 0)))
    (dss_cons (ds_set 4 sc_law_last_made.nd (de_mk1K V_Unseen (hr.mono (by decide)) (dv 0)))
    (dss_cons (ds_expr (de_bm PySem.F.plainAttrs_list PySem.F.slot_list_append PySem.F.type_list_append dm_append (dv 2) (da_cons (de_lstF (da_cons de_str (da_cons de_str (da_cons (de_lstF (da_cons (dv 3) (da_cons (dv 4) da_nil))) (da_cons (de_lstF (da_cons (de_lstF (da_cons (de_kf T.yk_Unseen.xf (T.yk_Unseen.no _ (by simp)) (dv 3)) da_nil)) (da_cons (de_lstF (da_cons (de_kf T.yk_Unseen.xf (T.yk_Unseen.no _ (by simp)) (dv 4)) da_nil)) da_nil))) da_nil))))) da_nil)))
    (dss_one (ds_ret (dv 2)))))))))))))))))))))))))))))))) (rd_law_last_made A)
theorem sc_law_like : FnScope ["_law_told", "_law_due", "_law_a", "_law_b"] ["_law_told", "_law_due"] (defScope s_law_like) := ⟨rfl, rfl, rfl, by decide +kernel, rfl, by decide +kernel, by decide +kernel⟩
theorem d_law_like {fd : FuncData} (T : Txt K mg A) (F : Fun K "_law_like" "_law_like" s_law_like A.law_like fd) (hb : Binds K fd ["_law_told", "_law_due"] []) : ∀ n : Nat, FnD P w K mg base n A.law_like (sp_law_like n A)
  | 0 => FnD.imp fnd_false fun _ _ _ h => h
  | n + 1 => by
    have G_law_like := d_law_like T F hb n
    exact def_ofW (N := ["_law_told", "_law_due", "_law_a", "_law_b"]) (qb := qb_law_like n A) F hb sc_law_like (len_law_like (n + 1) A) (fun cdv Ar outer s H E hr =>
    (dss_cons (ds_if (dt_val (de_isi2 rfl T.z_isinstance (dv 1) (pe_bltn rfl T.z_list (by decide +kernel) rfl) (pe_bltn rfl T.z_tuple (by decide +kernel) rfl))) (dss_cons (ds_if (PW.pt (dw_or (dt_cmp (do_ne2 (hu64 hr)) (de_isi rfl T.z_isinstance (dv 0) (pe_bltn rfl T.z_list (by decide +kernel) rfl)) (de_isi rfl T.z_isinstance (dv 1) (pe_bltn rfl T.z_list (by decide +kernel) rfl)) (by first | rfl | exact nobehind _ (by decide) (by decide))) (dw_or1 (dt_cmp (do_ne2 (hu64 hr)) (de_isi rfl T.z_isinstance (dv 0) (pe_bltn rfl T.z_tuple (by decide +kernel) rfl)) (de_isi rfl T.z_isinstance (dv 1) (pe_bltn rfl T.z_tuple (by decide +kernel) rfl)) (by first | rfl | exact nobehind _ (by decide) (by decide)))))) (dss_one (ds_ret de_bl)) dss_nil)
    (dss_one (ds_ret (de_and (de_cmp (do_eq2 (hu64 hr)) (de_callB db_len rfl T.z_len (by decide +kernel) (da_cons (dv 0) da_nil)) (de_callB db_len rfl T.z_len (by decide +kernel) (da_cons (dv 1) da_nil)) (by first | rfl | exact nobehind _ (by decide) (by decide))) (de_one (de_callB (db_all rfl) rfl T.z_all (by decide +kernel) (da_cons (de_freeze (de_lc rfl sc_law_like.nd (di_zip rfl T.z_zip (da_cons (dv 0) (da_cons (dv 1) da_nil))) (own := [("_law_a", 2), ("_law_b", 3)]) (by show BlkOk ["_law_told", "_law_due", "_law_a", "_law_b"] (defScope s_law_like) _ _; exact ⟨rfl, by decide +kernel, by decide +kernel, by decide +kernel, by decide +kernel⟩) (fun _ _ _ _ _ => (pt_tp rfl (pts_cn (pt_nm 2 sc_law_like.nd) (pts_cn (pt_nm 3 sc_law_like.nd) pts_nl)))) (fun _ _ _ _ _ => dts_nil (K := _)) (fun _ _ _ _ _ => (de_call G_law_like hr rfl T.g_law_like T.k_law_like (da_cons (dv 2) (da_cons (dv 3) da_nil)))))) da_nil))))))) dss_nil)
    (dss_cons (ds_if (PW.pt (dw_or (dt_cmp do_isN (dv 1) de_non (by first | rfl | exact nobehind _ (by decide) (by decide))) (dw_or1 (dt_cmp do_isN (dv 0) de_non (by first | rfl | exact nobehind _ (by decide) (by decide)))))) (dss_one (ds_ret (de_and (de_cmp do_isN (dv 1) de_non (by first | rfl | exact nobehind _ (by decide) (by decide))) (de_one (de_cmp do_isN (dv 0) de_non (by first | rfl | exact nobehind _ (by decide) (by decide))))))) dss_nil)
    (dss_cons (ds_if (PW.pt (dw_or (dt_val (de_isi2 rfl T.z_isinstance (dv 0) (pe_bltn rfl T.z_list (by decide +kernel) rfl) (pe_bltn rfl T.z_tuple (by decide +kernel) rfl))) (dw_or1 (dt_cmp (do_ne2 (hu64 hr)) (de_isi rfl T.z_isinstance (dv 0) (pe_bltn rfl T.z_bool (by decide +kernel) rfl)) (de_isi rfl T.z_isinstance (dv 1) (pe_bltn rfl T.z_bool (by decide +kernel) rfl)) (by first | rfl | exact nobehind _ (by decide) (by decide)))))) (dss_one (ds_ret de_bl)) dss_nil)
    (dss_cons (ds_if (PW.pt (dw_or (dt_cmp (do_ne2 (hu64 hr)) (de_isi rfl T.z_isinstance (dv 0) (pe_bltn rfl T.z_str (by decide +kernel) rfl)) (de_isi rfl T.z_isinstance (dv 1) (pe_bltn rfl T.z_str (by decide +kernel) rfl)) (by first | rfl | exact nobehind _ (by decide) (by decide))) (dw_or1 (dt_cmp (do_ne2 (hu64 hr)) (de_isi rfl T.z_isinstance (dv 0) (pe_bltn rfl T.z_int (by decide +kernel) rfl)) (de_isi rfl T.z_isinstance (dv 1) (pe_bltn rfl T.z_int (by decide +kernel) rfl)) (by first | rfl | exact nobehind _ (by decide) (by decide)))))) (dss_one (ds_ret de_bl)) dss_nil)
    (dss_one (ds_ret (de_cmp (do_eq2 (hu64 hr)) (dv 0) (dv 1) (by first | rfl | exact nobehind _ (by decide) (by decide)))))))))) (rd_law_like n A)
theorem sc_law_odd : FnScope ["_law_bag_here", "_law_some"] ["_law_bag_here"] (defScope s_law_odd) := ⟨rfl, rfl, rfl, by decide +kernel, rfl, by decide +kernel, by decide +kernel⟩
theorem d_law_odd {fd : FuncData} (T : Txt K mg A) (F : Fun K "_law_odd" "_law_odd" s_law_odd A.law_odd fd) (hb : Binds K fd ["_law_bag_here"] []) (G_law_of : FnD P w K mg base 2 A.law_of (sp_law_of A)) : FnD P w K mg base 3 A.law_odd (sp_law_odd A) :=
  def_ofW (N := ["_law_bag_here", "_law_some"]) (qb := qb_law_odd A) F hb sc_law_odd (len_law_odd A) (fun cdv Ar outer s H E hr =>
    (dss_cons (ds_set 1 sc_law_odd.nd (de_lstF (da_cons de_non (da_cons de_bl (da_cons de_bl (da_cons de_int (da_cons de_int (da_cons (de_neg de_int) (da_cons de_int (da_cons de_str (da_cons de_str (da_cons de_str (da_cons de_str (da_cons (de_tup da_nil) (da_cons (de_tup (da_cons de_int da_nil)) (da_cons (de_tup (da_cons de_int (da_cons de_int da_nil))) (da_cons (de_tup (da_cons de_int (da_cons de_int da_nil))) (da_cons (de_lstF (da_cons de_int (da_cons de_int da_nil))) (da_cons (de_tup (da_cons de_int (da_cons de_int da_nil))) (da_cons (de_tup (da_cons de_int (da_cons de_int da_nil))) da_nil))))))))))))))))))))
    (dss_cons (ds_set 1 sc_law_odd.nd (de_op do_add (dv 1) (de_lstF (da_cons (de_tup (da_cons de_int (da_cons de_int da_nil))) (da_cons (de_tup (da_cons (de_neg de_int) (da_cons de_int da_nil))) (da_cons (de_tup (da_cons de_bl (da_cons de_int da_nil))) (da_cons (de_tup (da_cons de_int (da_cons de_bl da_nil))) (da_cons (de_tup (da_cons de_str (da_cons de_int da_nil))) (da_cons (de_tup (da_cons (de_tup (da_cons de_int (da_cons de_int da_nil))) (da_cons (de_tup (da_cons de_int (da_cons de_int da_nil))) da_nil))) (da_cons (de_tup (da_cons (de_tup (da_cons de_int (da_cons de_int da_nil))) (da_cons (de_tup (da_cons de_int (da_cons de_int da_nil))) da_nil))) (da_cons (de_tup (da_cons de_non (da_cons de_non da_nil))) da_nil)))))))))))
    (dss_cons (ds_set 1 sc_law_odd.nd (de_op do_add (dv 1) (de_lstF (da_cons (de_tup (da_cons de_int (da_cons de_int (da_cons de_int da_nil)))) (da_cons (de_lstF da_nil) (da_cons (de_lstF (da_cons (de_tup da_nil) da_nil)) (da_cons (de_lstF (da_cons (de_tup (da_cons de_int (da_cons de_int da_nil))) (da_cons (de_tup (da_cons de_int (da_cons de_int da_nil))) da_nil))) (da_cons (de_tup (da_cons (de_tup (da_cons de_int (da_cons de_int da_nil))) (da_cons (de_lstF (da_cons de_int (da_cons de_int da_nil))) da_nil))) (da_cons (de_tup (da_cons (de_tup (da_cons de_int (da_cons de_int da_nil))) da_nil)) (da_cons (de_tup (da_cons (de_tup (da_cons (de_tup (da_cons de_int (da_cons de_int da_nil))) (da_cons de_int da_nil))) (da_cons (de_lstF (da_cons de_int (da_cons (de_tup (da_cons de_non da_nil)) da_nil))) da_nil))) (da_cons (de_neg de_int) da_nil)))))))))))
    (dss_cons (ds_set 1 sc_law_odd.nd (de_op do_add (dv 1) (de_lstF (da_cons (de_tup (da_cons de_int (da_cons (de_neg de_int) da_nil))) (da_cons (de_tup (da_cons de_int (da_cons de_int da_nil))) (da_cons (de_tup (da_cons (de_tup (da_cons de_int (da_cons de_int da_nil))) (da_cons (de_tup (da_cons de_int (da_cons de_int da_nil))) da_nil))) (da_cons (de_tup (da_cons (de_tup (da_cons de_int (da_cons de_int da_nil))) (da_cons (de_tup (da_cons de_int (da_cons de_int da_nil))) da_nil))) (da_cons de_str (da_cons de_str (da_cons (de_tup (da_cons de_str da_nil)) (da_cons (de_lstF (da_cons de_str da_nil)) (da_cons (de_tup (da_cons de_int (da_cons de_int da_nil))) da_nil))))))))))))
    (dss_one (ds_ret (de_call G_law_of (hr.mono (by decide)) rfl T.g_law_of T.k_law_of (da_cons (dv 0) (da_cons (dv 1) da_nil)))))))))) (rd_law_odd A)
theorem sc_law_word : FnScope ["_law_bag_here", "_law_many", "_law_k"] ["_law_bag_here"] (defScope s_law_word) := ⟨rfl, rfl, rfl, by decide +kernel, rfl, by decide +kernel, by decide +kernel⟩
theorem d_law_word {fd : FuncData} (T : Txt K mg A) (F : Fun K "_law_word" "_law_word" s_law_word A.law_word fd) (hb : Binds K fd ["_law_bag_here"] []) (G_law_draw : FnD P w K mg base 1 A.law_draw (sp_law_draw A)) (G_law_of : FnD P w K mg base 2 A.law_of (sp_law_of A)) : FnD P w K mg base 3 A.law_word (sp_law_word A) :=
  def_ofW (N := ["_law_bag_here", "_law_many", "_law_k"]) (qb := qb_law_word A) F hb sc_law_word (len_law_word A) (fun cdv Ar outer s H E hr =>
    (dss_cons (ds_if (dt_cmp (do_eq2 (hu64 hr)) (de_call G_law_draw (hr.mono (by decide)) rfl T.g_law_draw T.k_law_draw (da_cons (dv 0) (da_cons de_int da_nil))) de_int (by first | rfl | exact nobehind _ (by decide) (by decide))) (dss_one (ds_ret (de_call G_law_of (hr.mono (by decide)) rfl T.g_law_of T.k_law_of (da_cons (dv 0) (da_cons (de_lstF (da_cons de_str (da_cons de_str (da_cons de_str (da_cons de_str (da_cons de_str (da_cons de_str (da_cons de_str (da_cons de_str (da_cons de_str (da_cons de_str (da_cons de_str (da_cons de_str (da_cons de_str (da_cons de_str (da_cons de_str (da_cons de_str da_nil))))))))))))))))) da_nil))))) dss_nil)
    (dss_cons (ds_set 1 sc_law_word.nd (de_op do_add de_int (de_call G_law_draw (hr.mono (by decide)) rfl T.g_law_draw T.k_law_draw (da_cons (dv 0) (da_cons de_int da_nil)))))
    (dss_one (ds_ret (de_join de_str (de_freeze (de_lc rfl sc_law_word.nd (di_range1 rfl T.z_range (da_cons (dv 1) da_nil)) (own := [("_law_k", 2)]) (by show BlkOk ["_law_bag_here", "_law_many", "_law_k"] (defScope s_law_word) _ _; exact ⟨rfl, by decide +kernel, by decide +kernel, by decide +kernel, by decide +kernel⟩) (fun _ _ _ _ _ => (pt_nm 2 sc_law_word.nd)) (fun _ _ _ _ _ => dts_nil (K := _)) (fun _ _ _ _ _ => (de_call G_law_of (hr.mono (by decide)) rfl T.g_law_of T.k_law_of (da_cons (dv 0) (da_cons de_str da_nil)))))))))))) (rd_law_word A)
theorem sc_law_pair : FnScope ["_law_a", "_law_b", "_law_x", "_law_y"] ["_law_a", "_law_b"] (defScope s_law_pair) := ⟨rfl, rfl, rfl, by decide +kernel, rfl, by decide +kernel, by decide +kernel⟩
theorem d_law_pair {fd : FuncData} (T : Txt K mg A) (F : Fun K "_law_pair" "_law_pair" s_law_pair A.law_pair fd) (hb : Binds K fd ["_law_a", "_law_b"] []) : FnD P w K mg base 1 A.law_pair (sp_law_pair A) :=
  def_ofW (N := ["_law_a", "_law_b", "_law_x", "_law_y"]) (qb := qb_law_pair A) F hb sc_law_pair (len_law_pair A) (fun cdv Ar outer s H E hr =>
    (dss_cons (ds_par 2 3 rfl sc_law_pair.nd (da_cons (dv 0) (da_cons (dv 1) da_nil)))
    (dss_cons (ds_while PassesOwn.never (dt_cmp do_gt (dv 3) de_int (by first | rfl | exact nobehind _ (by decide) (by decide))) (dss_one (ds_par 2 3 rfl sc_law_pair.nd (da_cons (dv 3) (da_cons (de_op do_mod (de_callTy db_int rfl T.z_int (by decide +kernel) (da_cons (dv 2) da_nil)) (dv 3)) da_nil)))))
    (dss_one (ds_ret (de_tup (da_cons (de_op do_fdiv (dv 0) (dv 2)) (da_cons (de_op do_fdiv (dv 1) (dv 2)) da_nil)))))))) (rd_law_pair A)
theorem sc_law_wide : FnScope ["_law_bag_here", "_law_figures", "_law_number", "_law_size", "_law_k"] ["_law_bag_here", "_law_figures"] (defScope s_law_wide) := ⟨rfl, rfl, rfl, by decide +kernel, rfl, by decide +kernel, by decide +kernel⟩
theorem d_law_wide {fd : FuncData} (T : Txt K mg A) (F : Fun K "_law_wide" "_law_wide" s_law_wide A.law_wide fd) (hb : Binds K fd ["_law_bag_here", "_law_figures"] []) (G_law_draw : FnD P w K mg base 1 A.law_draw (sp_law_draw A)) : FnD P w K mg base 2 A.law_wide (sp_law_wide A) :=
  def_ofW (N := ["_law_bag_here", "_law_figures", "_law_number", "_law_size", "_law_k"]) (qb := qb_law_wide A) F hb sc_law_wide (len_law_wide A) (fun cdv Ar outer s H E hr =>
    (dss_cons (ds_asg (de_tup (da_cons de_int (da_cons de_int da_nil))) (pt_tp rfl (pts_cn (pt_nm 2 sc_law_wide.nd) (pts_cn (pt_nm 3 sc_law_wide.nd) pts_nl))))
    (dss_cons (ds_for PassesOwn.never rfl (di_range1 rfl T.z_range (da_cons (de_op do_fdiv (dv 1) de_int) da_nil)) (pt_nm 4 sc_law_wide.nd) (dss_cons (ds_set 2 sc_law_wide.nd (de_op do_add (dv 2) (de_op do_mul (de_call G_law_draw (hr.mono (by decide)) rfl T.g_law_draw T.k_law_draw (da_cons (dv 0) (da_cons de_int da_nil))) (dv 3))))
    (dss_one (ds_set 3 sc_law_wide.nd (de_op do_mul (dv 3) de_int)))))
    (dss_cons (ds_if (dt_cmp do_gt (de_op do_mod (de_callTy db_int rfl T.z_int (by decide +kernel) (da_cons (dv 1) da_nil)) de_int) de_int (by first | rfl | exact nobehind _ (by decide) (by decide))) (dss_one (ds_set 2 sc_law_wide.nd (de_op do_add (dv 2) (de_op do_mul (de_call G_law_draw (hr.mono (by decide)) rfl T.g_law_draw T.k_law_draw (da_cons (dv 0) (da_cons (de_idx (hu1 hr) (de_tup (da_cons de_int (da_cons de_int (da_cons de_int (da_cons de_int (da_cons de_int da_nil)))))) (de_op do_mod (de_callTy db_int rfl T.z_int (by decide +kernel) (da_cons (dv 1) da_nil)) de_int)) da_nil))) (dv 3))))) dss_nil)
    (dss_one (ds_ret (dv 2))))))) (rd_law_wide A)
theorem sc_law_great : FnScope ["_law_bag_here", "_law_a", "_law_b", "_law_c"] ["_law_bag_here"] (defScope s_law_great) := ⟨rfl, rfl, rfl, by decide +kernel, rfl, by decide +kernel, by decide +kernel⟩
theorem d_law_great {fd : FuncData} (T : Txt K mg A) (F : Fun K "_law_great" "_law_great" s_law_great A.law_great fd) (hb : Binds K fd ["_law_bag_here"] []) (G_law_wide : FnD P w K mg base 2 A.law_wide (sp_law_wide A)) (G_law_of : FnD P w K mg base 2 A.law_of (sp_law_of A)) (G_law_draw : FnD P w K mg base 1 A.law_draw (sp_law_draw A)) : FnD P w K mg base 3 A.law_great (sp_law_great A) :=
  def_ofW (N := ["_law_bag_here", "_law_a", "_law_b", "_law_c"]) (qb := qb_law_great A) F hb sc_law_great (len_law_great A) (fun cdv Ar outer s H E hr =>
    (dss_cons (ds_set 1 sc_law_great.nd (de_call G_law_wide (hr.mono (by decide)) rfl T.g_law_wide T.k_law_wide (da_cons (dv 0) (da_cons de_int da_nil))))
    (dss_cons (ds_set 2 sc_law_great.nd (de_call G_law_wide (hr.mono (by decide)) rfl T.g_law_wide T.k_law_wide (da_cons (dv 0) (da_cons de_int da_nil))))
    (dss_cons (ds_set 3 sc_law_great.nd (de_call G_law_wide (hr.mono (by decide)) rfl T.g_law_wide T.k_law_wide (da_cons (dv 0) (da_cons de_int da_nil))))
    (dss_one (ds_ret (de_call G_law_of (hr.mono (by decide)) rfl T.g_law_of T.k_law_of (da_cons (dv 0) (da_cons (de_lstF (da_cons (dv 1) (da_cons (de_op do_add (de_op do_mul (dv 1) (de_op do_pow2 de_int de_int)) (dv 2)) (da_cons (de_op do_add (de_op do_mul (de_op do_add (de_op do_mul (dv 1) (de_op do_pow2 de_int de_int)) (dv 2)) (de_op do_pow2 de_int de_int)) (dv 3)) (da_cons (de_op do_add (de_op do_mul (de_op do_add (de_op do_mul (de_op do_add (de_op do_mul (dv 1) (de_op do_pow2 de_int de_int)) (dv 2)) (de_op do_pow2 de_int de_int)) (dv 3)) (de_op do_pow2 de_int de_int)) (de_call G_law_draw (hr.mono (by decide)) rfl T.g_law_draw T.k_law_draw (da_cons (dv 0) (da_cons (de_op do_pow2 de_int de_int) da_nil)))) da_nil))))) da_nil))))))))) (rd_law_great A)
theorem sc_law_amount : FnScope ["_law_bag_here", "_law_shape"] ["_law_bag_here"] (defScope s_law_amount) := ⟨rfl, rfl, rfl, by decide +kernel, rfl, by decide +kernel, by decide +kernel⟩
theorem d_law_amount {fd : FuncData} (T : Txt K mg A) (F : Fun K "_law_amount" "_law_amount" s_law_amount A.law_amount fd) (hb : Binds K fd ["_law_bag_here"] []) (G_law_draw : FnD P w K mg base 1 A.law_draw (sp_law_draw A)) (G_law_of : FnD P w K mg base 2 A.law_of (sp_law_of A)) (G_law_pair : FnD P w K mg base 1 A.law_pair (sp_law_pair A)) (G_law_wide : FnD P w K mg base 2 A.law_wide (sp_law_wide A)) (G_law_great : FnD P w K mg base 3 A.law_great (sp_law_great A)) : FnD P w K mg base 4 A.law_amount (sp_law_amount A) :=
  def_ofW (N := ["_law_bag_here", "_law_shape"]) (qb := qb_law_amount A) F hb sc_law_amount (len_law_amount A) (fun cdv Ar outer s H E hr =>
    (dss_cons (ds_set 1 sc_law_amount.nd (de_call G_law_draw (hr.mono (by decide)) rfl T.g_law_draw T.k_law_draw (da_cons (dv 0) (da_cons de_int da_nil))))
    (dss_cons (ds_if (dt_cmp (do_eq2 (hu64 hr)) (dv 1) de_int (by first | rfl | exact nobehind _ (by decide) (by decide))) (dss_one (ds_ret (de_call G_law_of (hr.mono (by decide)) rfl T.g_law_of T.k_law_of (da_cons (dv 0) (da_cons (de_lstF (da_cons (de_tup (da_cons de_int (da_cons de_int da_nil))) (da_cons (de_tup (da_cons de_int (da_cons de_int da_nil))) (da_cons (de_tup (da_cons de_int (da_cons de_int da_nil))) (da_cons (de_tup (da_cons de_int (da_cons de_int da_nil))) (da_cons (de_tup (da_cons de_int (da_cons de_int da_nil))) (da_cons (de_tup (da_cons de_int (da_cons de_int da_nil))) (da_cons (de_tup (da_cons de_int (da_cons de_int da_nil))) (da_cons (de_tup (da_cons de_int (da_cons de_int da_nil))) (da_cons (de_tup (da_cons de_int (da_cons de_int da_nil))) da_nil)))))))))) da_nil))))) dss_nil)
    (dss_cons (ds_if (dt_cmp do_lt (dv 1) de_int (by first | rfl | exact nobehind _ (by decide) (by decide))) (dss_one (ds_ret (de_call G_law_pair (hr.mono (by decide)) rfl T.g_law_pair T.k_law_pair (da_cons (de_call G_law_draw (hr.mono (by decide)) rfl T.g_law_draw T.k_law_draw (da_cons (dv 0) (da_cons de_int da_nil))) (da_cons (de_op do_add de_int (de_call G_law_draw (hr.mono (by decide)) rfl T.g_law_draw T.k_law_draw (da_cons (dv 0) (da_cons de_int da_nil)))) da_nil))))) dss_nil)
    (dss_cons (ds_if (dt_cmp (do_eq2 (hu64 hr)) (dv 1) de_int (by first | rfl | exact nobehind _ (by decide) (by decide))) (dss_one (ds_ret (de_call G_law_pair (hr.mono (by decide)) rfl T.g_law_pair T.k_law_pair (da_cons (de_call G_law_wide (hr.mono (by decide)) rfl T.g_law_wide T.k_law_wide (da_cons (dv 0) (da_cons de_int da_nil))) (da_cons (de_op do_add de_int (de_call G_law_draw (hr.mono (by decide)) rfl T.g_law_draw T.k_law_draw (da_cons (dv 0) (da_cons (de_op do_sub (de_op do_pow2 de_int de_int) de_int) da_nil)))) da_nil))))) dss_nil)
    (dss_cons (ds_if (dt_cmp (do_eq2 (hu64 hr)) (dv 1) de_int (by first | rfl | exact nobehind _ (by decide) (by decide))) (dss_one (ds_ret (de_call G_law_pair (hr.mono (by decide)) rfl T.g_law_pair T.k_law_pair (da_cons (de_call G_law_great (hr.mono (by decide)) rfl T.g_law_great T.k_law_great (da_cons (dv 0) da_nil)) (da_cons (de_op do_add de_int (de_call G_law_draw (hr.mono (by decide)) rfl T.g_law_draw T.k_law_draw (da_cons (dv 0) (da_cons de_int da_nil)))) da_nil))))) dss_nil)
    (dss_one (ds_ret (de_call G_law_pair (hr.mono (by decide)) rfl T.g_law_pair T.k_law_pair (da_cons (de_call G_law_great (hr.mono (by decide)) rfl T.g_law_great T.k_law_great (da_cons (dv 0) da_nil)) (da_cons (de_callB (db_max2 rfl) rfl T.z_max (by decide +kernel) (da_cons de_int (da_cons (de_call G_law_great (hr.mono (by decide)) rfl T.g_law_great T.k_law_great (da_cons (dv 0) da_nil)) da_nil))) da_nil))))))))))) (rd_law_amount A)
theorem sc_law_first_made : FnScope ["_law_x", "_law_y", "_law_rows", "_law_one", "_law_two"] ["_law_x", "_law_y"] (defScope s_law_first_made) := ⟨rfl, rfl, rfl, by decide +kernel, rfl, by decide +kernel, by decide +kernel⟩
theorem d_law_first_made {fd : FuncData} (T : Txt K mg A) (F : Fun K "_law_first_made" "_law_first_made" s_law_first_made A.law_first_made fd) (hb : Binds K fd ["_law_x", "_law_y"] []) (V_BadAmount : ExV1 P w K mg base "BadAmount" A.BadAmount "value") (V_BadLink : ExV1 P w K mg base "BadLink" A.BadLink "what") (V_BadFlow : ExV1 P w K mg base "BadFlow" A.BadFlow "what") (V_BadAge : ExV1 P w K mg base "BadAge" A.BadAge "age") (V_BadPart : ExV1 P w K mg base "BadPart" A.BadPart "at") (V_TooMany : ExV2 P w K mg base "TooMany" A.TooMany "what" "count") (V_DuplicateName : ExV1 P w K mg base "DuplicateName" A.DuplicateName "name") (V_Idle : ExV1 P w K mg base "Idle" A.Idle "link") (V_Overpromised : ExV2 P w K mg base "Overpromised" A.Overpromised "link" "over") (V_Small : ExV2 P w K mg base "Small" A.Small "flow" "link") (V_BadText : ExV2 P w K mg base "BadText" A.BadText "line" "word") : FnD P w K mg base 3 A.law_first_made (sp_law_first_made A) :=
  def_ofW (N := ["_law_x", "_law_y", "_law_rows", "_law_one", "_law_two"]) (qb := qb_law_first_made A) F hb sc_law_first_made (len_law_first_made A) (fun cdv Ar outer s H E hr =>
    (dss_cons (ds_set 2 sc_law_first_made.nd (de_lstM da_nil))
    (dss_cons (ds_set 3 sc_law_first_made.nd (de_mk1 V_BadAmount (hr.mono (by decide)) (dv 0)))
    (dss_cons (ds_set 4 sc_law_first_made.nd (de_mk1K V_BadAmount (hr.mono (by decide)) (dv 0)))
    (dss_cons (ds_expr (de_bm PySem.F.plainAttrs_list PySem.F.slot_list_append PySem.F.type_list_append dm_append (dv 2) (da_cons (de_lstF (da_cons de_str (da_cons de_str (da_cons (de_lstF (da_cons (dv 3) (da_cons (dv 4) da_nil))) (da_cons (de_lstF (da_cons (de_lstF (da_cons (de_kf T.yk_BadAmount.xf (T.yk_BadAmount.no _ (by simp)) (dv 3)) da_nil)) (da_cons (de_lstF (da_cons (de_kf T.yk_BadAmount.xf (T.yk_BadAmount.no _ (by simp)) (dv 4)) da_nil)) da_nil))) da_nil))))) da_nil)))
    (dss_cons (ds_set 3 sc_law_first_made.nd (de_mk1 V_BadLink (hr.mono (by decide)) (dv 0)))
    (dss_cons (ds_set 4 sc_law_first_made.nd (de_mk1K V_BadLink (hr.mono (by decide)) (dv 0)))
    (dss_cons (ds_expr (de_bm PySem.F.plainAttrs_list PySem.F.slot_list_append PySem.F.type_list_append dm_append (dv 2) (da_cons (de_lstF (da_cons de_str (da_cons de_str (da_cons (de_lstF (da_cons (dv 3) (da_cons (dv 4) da_nil))) (da_cons (de_lstF (da_cons (de_lstF (da_cons (de_kf T.yk_BadLink.xf (T.yk_BadLink.no _ (by simp)) (dv 3)) da_nil)) (da_cons (de_lstF (da_cons (de_kf T.yk_BadLink.xf (T.yk_BadLink.no _ (by simp)) (dv 4)) da_nil)) da_nil))) da_nil))))) da_nil)))
    (dss_cons (ds_set 3 sc_law_first_made.nd (de_mk1 V_BadFlow (hr.mono (by decide)) (dv 0)))
    (dss_cons (ds_set 4 sc_law_first_made.nd (de_mk1K V_BadFlow (hr.mono (by decide)) (dv 0)))
    (dss_cons (ds_expr (de_bm PySem.F.plainAttrs_list PySem.F.slot_list_append PySem.F.type_list_append dm_append (dv 2) (da_cons (de_lstF (da_cons de_str (da_cons de_str (da_cons (de_lstF (da_cons (dv 3) (da_cons (dv 4) da_nil))) (da_cons (de_lstF (da_cons (de_lstF (da_cons (de_kf T.yk_BadFlow.xf (T.yk_BadFlow.no _ (by simp)) (dv 3)) da_nil)) (da_cons (de_lstF (da_cons (de_kf T.yk_BadFlow.xf (T.yk_BadFlow.no _ (by simp)) (dv 4)) da_nil)) da_nil))) da_nil))))) da_nil)))
    (dss_cons (ds_set 3 sc_law_first_made.nd (de_mk1 V_BadAge (hr.mono (by decide)) (dv 0)))
    (dss_cons (ds_set 4 sc_law_first_made.nd (de_mk1K V_BadAge (hr.mono (by decide)) (dv 0)))
    (dss_cons (ds_expr (de_bm PySem.F.plainAttrs_list PySem.F.slot_list_append PySem.F.type_list_append dm_append (dv 2) (da_cons (de_lstF (da_cons de_str (da_cons de_str (da_cons (de_lstF (da_cons (dv 3) (da_cons (dv 4) da_nil))) (da_cons (de_lstF (da_cons (de_lstF (da_cons (de_kf T.yk_BadAge.xf (T.yk_BadAge.no _ (by simp)) (dv 3)) da_nil)) (da_cons (de_lstF (da_cons (de_kf T.yk_BadAge.xf (T.yk_BadAge.no _ (by simp)) (dv 4)) da_nil)) da_nil))) da_nil))))) da_nil)))
    (dss_cons (ds_set 3 sc_law_first_made.nd (de_mk1 V_BadPart (hr.mono (by decide)) (dv 0)))
    (dss_cons (ds_set 4 sc_law_first_made.nd (de_mk1K V_BadPart (hr.mono (by decide)) (dv 0)))
    (dss_cons (ds_expr (de_bm PySem.F.plainAttrs_list PySem.F.slot_list_append PySem.F.type_list_append dm_append (dv 2) (da_cons (de_lstF (da_cons de_str (da_cons de_str (da_cons (de_lstF (da_cons (dv 3) (da_cons (dv 4) da_nil))) (da_cons (de_lstF (da_cons (de_lstF (da_cons (de_kf T.yk_BadPart.xf (T.yk_BadPart.no _ (by simp)) (dv 3)) da_nil)) (da_cons (de_lstF (da_cons (de_kf T.yk_BadPart.xf (T.yk_BadPart.no _ (by simp)) (dv 4)) da_nil)) da_nil))) da_nil))))) da_nil)))
    (dss_cons (ds_set 3 sc_law_first_made.nd (de_mk2 V_TooMany (hr.mono (by decide)) (dv 0) (dv 1)))
    (dss_cons (ds_set 4 sc_law_first_made.nd (de_mk2K V_TooMany (hr.mono (by decide)) (dv 1) (dv 0)))
    (dss_cons (ds_expr (de_bm PySem.F.plainAttrs_list PySem.F.slot_list_append PySem.F.type_list_append dm_append (dv 2) (da_cons (de_lstF (da_cons de_str (da_cons de_str (da_cons (de_lstF (da_cons (dv 3) (da_cons (dv 4) da_nil))) (da_cons (de_lstF (da_cons (de_lstF (da_cons (de_kf T.yk_TooMany.xf (T.yk_TooMany.no _ (by simp)) (dv 3)) (da_cons (de_kf T.yk_TooMany.xf (T.yk_TooMany.no _ (by simp)) (dv 3)) da_nil))) (da_cons (de_lstF (da_cons (de_kf T.yk_TooMany.xf (T.yk_TooMany.no _ (by simp)) (dv 4)) (da_cons (de_kf T.yk_TooMany.xf (T.yk_TooMany.no _ (by simp)) (dv 4)) da_nil))) da_nil))) da_nil))))) da_nil)))
    (dss_cons (ds_set 3 sc_law_first_made.nd (de_mk1 V_DuplicateName (hr.mono (by decide)) (dv 0)))
    (dss_cons (ds_set 4 sc_law_first_made.nd (de_mk1K V_DuplicateName (hr.mono (by decide)) (dv 0)))
    (dss_cons (ds_expr (de_bm PySem.F.plainAttrs_list PySem.F.slot_list_append PySem.F.type_list_append dm_append (dv 2) (da_cons (de_lstF (da_cons de_str (da_cons de_str (da_cons (de_lstF (da_cons (dv 3) (da_cons (dv 4) da_nil))) (da_cons (de_lstF (da_cons (de_lstF (da_cons (de_kf T.yk_DuplicateName.xf (T.yk_DuplicateName.no _ (by simp)) (dv 3)) da_nil)) (da_cons (de_lstF (da_cons (de_kf T.yk_DuplicateName.xf (T.yk_DuplicateName.no _ (by simp)) (dv 4)) da_nil)) da_nil))) da_nil))))) da_nil)))
    (dss_cons (ds_set 3 sc_law_first_made.nd (de_mk1 V_Idle (hr.mono (by decide)) (dv 0)))
    (dss_cons (ds_set 4 sc_law_first_made.nd (de_mk1K V_Idle (hr.mono (by decide)) (dv 0)))
    (dss_cons (ds_expr (de_bm PySem.F.plainAttrs_list PySem.F.slot_list_append PySem.F.type_list_append dm_append (dv 2) (da_cons (de_lstF (da_cons de_str (da_cons de_str (da_cons (de_lstF (da_cons (dv 3) (da_cons (dv 4) da_nil))) (da_cons (de_lstF (da_cons (de_lstF (da_cons (de_kf T.yk_Idle.xf (T.yk_Idle.no _ (by simp)) (dv 3)) da_nil)) (da_cons (de_lstF (da_cons (de_kf T.yk_Idle.xf (T.yk_Idle.no _ (by simp)) (dv 4)) da_nil)) da_nil))) da_nil))))) da_nil)))
    (dss_cons (ds_set 3 sc_law_first_made.nd (de_mk2 V_Overpromised (hr.mono (by decide)) (dv 0) (dv 1)))
    (dss_cons (ds_set 4 sc_law_first_made.nd (de_mk2K V_Overpromised (hr.mono (by decide)) (dv 1) (dv 0)))
    (dss_cons (ds_expr (de_bm PySem.F.plainAttrs_list PySem.F.slot_list_append PySem.F.type_list_append dm_append (dv 2) (da_cons (de_lstF (da_cons de_str (da_cons de_str (da_cons (de_lstF (da_cons (dv 3) (da_cons (dv 4) da_nil))) (da_cons (de_lstF (da_cons (de_lstF (da_cons (de_kf T.yk_Overpromised.xf (T.yk_Overpromised.no _ (by simp)) (dv 3)) (da_cons (de_kf T.yk_Overpromised.xf (T.yk_Overpromised.no _ (by simp)) (dv 3)) da_nil))) (da_cons (de_lstF (da_cons (de_kf T.yk_Overpromised.xf (T.yk_Overpromised.no _ (by simp)) (dv 4)) (da_cons (de_kf T.yk_Overpromised.xf (T.yk_Overpromised.no _ (by simp)) (dv 4)) da_nil))) da_nil))) da_nil))))) da_nil)))
    (dss_cons (ds_set 3 sc_law_first_made.nd (de_mk2 V_Small (hr.mono (by decide)) (dv 0) (dv 1)))
    (dss_cons (ds_set 4 sc_law_first_made.nd (de_mk2K V_Small (hr.mono (by decide)) (dv 1) (dv 0)))
    (dss_cons (ds_expr (de_bm PySem.F.plainAttrs_list PySem.F.slot_list_append PySem.F.type_list_append dm_append (dv 2) (da_cons (de_lstF (da_cons de_str (da_cons de_str (da_cons (de_lstF (da_cons (dv 3) (da_cons (dv 4) da_nil))) (da_cons (de_lstF (da_cons (de_lstF (da_cons (de_kf T.yk_Small.xf (T.yk_Small.no _ (by simp)) (dv 3)) (da_cons (de_kf T.yk_Small.xf (T.yk_Small.no _ (by simp)) (dv 3)) da_nil))) (da_cons (de_lstF (da_cons (de_kf T.yk_Small.xf (T.yk_Small.no _ (by simp)) (dv 4)) (da_cons (de_kf T.yk_Small.xf (T.yk_Small.no _ (by simp)) (dv 4)) da_nil))) da_nil))) da_nil))))) da_nil)))
    (dss_cons (ds_set 3 sc_law_first_made.nd (de_mk2 V_BadText (hr.mono (by decide)) (dv 0) (dv 1)))
    (dss_cons (ds_set 4 sc_law_first_made.nd (de_mk2K V_BadText (hr.mono (by decide)) (dv 1) (dv 0)))
    (dss_cons (ds_expr (de_bm PySem.F.plainAttrs_list PySem.F.slot_list_append PySem.F.type_list_append dm_append (dv 2) (da_cons (de_lstF (da_cons de_str (da_cons de_str (da_cons (de_lstF (da_cons (dv 3) (da_cons (dv 4) da_nil))) (da_cons (de_lstF (da_cons (de_lstF (da_cons (de_kf T.yk_BadText.xf (T.yk_BadText.no _ (by simp)) (dv 3)) (da_cons (de_kf T.yk_BadText.xf (T.yk_BadText.no _ (by simp)) (dv 3)) da_nil))) (da_cons (de_lstF (da_cons (de_kf T.yk_BadText.xf (T.yk_BadText.no _ (by simp)) (dv 4)) (da_cons (de_kf T.yk_BadText.xf (T.yk_BadText.no _ (by simp)) (dv 4)) da_nil))) da_nil))) da_nil))))) da_nil)))
    (dss_one (ds_ret (dv 2)))))))))))))))))))))))))))))))))))))) (rd_law_first_made A)
theorem sc_law_middle_made : FnScope ["_law_x", "_law_y", "_law_rows", "_law_one", "_law_two"] ["_law_x", "_law_y"] (defScope s_law_middle_made) := ⟨rfl, rfl, rfl, by decide +kernel, rfl, by decide +kernel, by decide +kernel⟩
theorem d_law_middle_made {fd : FuncData} (T : Txt K mg A) (F : Fun K "_law_middle_made" "_law_middle_made" s_law_middle_made A.law_middle_made fd) (hb : Binds K fd ["_law_x", "_law_y"] []) (V_BadManner : ExV1 P w K mg base "BadManner" A.BadManner "flow") (V_BadCapacity : ExV1 P w K mg base "BadCapacity" A.BadCapacity "link") (V_BadSharing : ExV1 P w K mg base "BadSharing" A.BadSharing "name") (V_BadBand : ExV1 P w K mg base "BadBand" A.BadBand "link") (V_Future : ExV1 P w K mg base "Future" A.Future "tick") (V_Short : ExV1 P w K mg base "Short" A.Short "amount") (V_BadValue : ExV1 P w K mg base "BadValue" A.BadValue "channel") (V_BadState : ExV2 P w K mg base "BadState" A.BadState "what" "at") (V_BadCount : ExV1 P w K mg base "BadCount" A.BadCount "value") (V_BadDeed : ExV1 P w K mg base "BadDeed" A.BadDeed "at") : FnD P w K mg base 3 A.law_middle_made (sp_law_middle_made A) :=
  def_ofW (N := ["_law_x", "_law_y", "_law_rows", "_law_one", "_law_two"]) (qb := qb_law_middle_made A) F hb sc_law_middle_made (len_law_middle_made A) (fun cdv Ar outer s H E hr =>
    (dss_cons (ds_set 2 sc_law_middle_made.nd (de_lstM da_nil))
    (dss_cons (ds_set 3 sc_law_middle_made.nd (de_mk1 V_BadManner (hr.mono (by decide)) (dv 0)))
    (dss_cons (ds_set 4 sc_law_middle_made.nd (de_mk1K V_BadManner (hr.mono (by decide)) (dv 0)))
    (dss_cons (ds_expr (de_bm PySem.F.plainAttrs_list PySem.F.slot_list_append PySem.F.type_list_append dm_append (dv 2) (da_cons (de_lstF (da_cons de_str (da_cons de_str (da_cons (de_lstF (da_cons (dv 3) (da_cons (dv 4) da_nil))) (da_cons (de_lstF (da_cons (de_lstF (da_cons (de_kf T.yk_BadManner.xf (T.yk_BadManner.no _ (by simp)) (dv 3)) da_nil)) (da_cons (de_lstF (da_cons (de_kf T.yk_BadManner.xf (T.yk_BadManner.no _ (by simp)) (dv 4)) da_nil)) da_nil))) da_nil))))) da_nil)))
    (dss_cons (ds_set 3 sc_law_middle_made.nd (de_mk1 V_BadCapacity (hr.mono (by decide)) (dv 0)))
    (dss_cons (ds_set 4 sc_law_middle_made.nd (de_mk1K V_BadCapacity (hr.mono (by decide)) (dv 0)))
    (dss_cons (ds_expr (de_bm PySem.F.plainAttrs_list PySem.F.slot_list_append PySem.F.type_list_append dm_append (dv 2) (da_cons (de_lstF (da_cons de_str (da_cons de_str (da_cons (de_lstF (da_cons (dv 3) (da_cons (dv 4) da_nil))) (da_cons (de_lstF (da_cons (de_lstF (da_cons (de_kf T.yk_BadCapacity.xf (T.yk_BadCapacity.no _ (by simp)) (dv 3)) da_nil)) (da_cons (de_lstF (da_cons (de_kf T.yk_BadCapacity.xf (T.yk_BadCapacity.no _ (by simp)) (dv 4)) da_nil)) da_nil))) da_nil))))) da_nil)))
    (dss_cons (ds_set 3 sc_law_middle_made.nd (de_mk1 V_BadSharing (hr.mono (by decide)) (dv 0)))
    (dss_cons (ds_set 4 sc_law_middle_made.nd (de_mk1K V_BadSharing (hr.mono (by decide)) (dv 0)))
    (dss_cons (ds_expr (de_bm PySem.F.plainAttrs_list PySem.F.slot_list_append PySem.F.type_list_append dm_append (dv 2) (da_cons (de_lstF (da_cons de_str (da_cons de_str (da_cons (de_lstF (da_cons (dv 3) (da_cons (dv 4) da_nil))) (da_cons (de_lstF (da_cons (de_lstF (da_cons (de_kf T.yk_BadSharing.xf (T.yk_BadSharing.no _ (by simp)) (dv 3)) da_nil)) (da_cons (de_lstF (da_cons (de_kf T.yk_BadSharing.xf (T.yk_BadSharing.no _ (by simp)) (dv 4)) da_nil)) da_nil))) da_nil))))) da_nil)))
    (dss_cons (ds_set 3 sc_law_middle_made.nd (de_mk1 V_BadBand (hr.mono (by decide)) (dv 0)))
    (dss_cons (ds_set 4 sc_law_middle_made.nd (de_mk1K V_BadBand (hr.mono (by decide)) (dv 0)))
    (dss_cons (ds_expr (de_bm PySem.F.plainAttrs_list PySem.F.slot_list_append PySem.F.type_list_append dm_append (dv 2) (da_cons (de_lstF (da_cons de_str (da_cons de_str (da_cons (de_lstF (da_cons (dv 3) (da_cons (dv 4) da_nil))) (da_cons (de_lstF (da_cons (de_lstF (da_cons (de_kf T.yk_BadBand.xf (T.yk_BadBand.no _ (by simp)) (dv 3)) da_nil)) (da_cons (de_lstF (da_cons (de_kf T.yk_BadBand.xf (T.yk_BadBand.no _ (by simp)) (dv 4)) da_nil)) da_nil))) da_nil))))) da_nil)))
    (dss_cons (ds_expr (de_bm PySem.F.plainAttrs_list PySem.F.slot_list_append PySem.F.type_list_append dm_append (dv 2) (da_cons (de_lstF (da_cons de_str (da_cons de_str (da_cons (de_lstF (da_cons (de_mk0 PySem.F.excBase_ValueError T.ye_NotPlain T.yg_NotPlain T.yq_NotPlain) da_nil)) (da_cons (de_lstF (da_cons (de_lstF da_nil) da_nil)) da_nil))))) da_nil)))
    (dss_cons (ds_set 3 sc_law_middle_made.nd (de_mk1 V_Future (hr.mono (by decide)) (dv 0)))
    (dss_cons (ds_set 4 sc_law_middle_made.nd (de_mk1K V_Future (hr.mono (by decide)) (dv 0)))
    (dss_cons (ds_expr (de_bm PySem.F.plainAttrs_list PySem.F.slot_list_append PySem.F.type_list_append dm_append (dv 2) (da_cons (de_lstF (da_cons de_str (da_cons de_str (da_cons (de_lstF (da_cons (dv 3) (da_cons (dv 4) da_nil))) (da_cons (de_lstF (da_cons (de_lstF (da_cons (de_kf T.yk_Future.xf (T.yk_Future.no _ (by simp)) (dv 3)) da_nil)) (da_cons (de_lstF (da_cons (de_kf T.yk_Future.xf (T.yk_Future.no _ (by simp)) (dv 4)) da_nil)) da_nil))) da_nil))))) da_nil)))
    (dss_cons (ds_set 3 sc_law_middle_made.nd (de_mk1 V_Short (hr.mono (by decide)) (dv 0)))
    (dss_cons (ds_set 4 sc_law_middle_made.nd (de_mk1K V_Short (hr.mono (by decide)) (dv 0)))
    (dss_cons (ds_expr (de_bm PySem.F.plainAttrs_list PySem.F.slot_list_append PySem.F.type_list_append dm_append (dv 2) (da_cons (de_lstF (da_cons de_str (da_cons de_str (da_cons (de_lstF (da_cons (dv 3) (da_cons (dv 4) da_nil))) (da_cons (de_lstF (da_cons (de_lstF (da_cons (de_kf T.yk_Short.xf (T.yk_Short.no _ (by simp)) (dv 3)) da_nil)) (da_cons (de_lstF (da_cons (de_kf T.yk_Short.xf (T.yk_Short.no _ (by simp)) (dv 4)) da_nil)) da_nil))) da_nil))))) da_nil)))
    (dss_cons (ds_set 3 sc_law_middle_made.nd (de_mk1 V_BadValue (hr.mono (by decide)) (dv 0)))
    (dss_cons (ds_set 4 sc_law_middle_made.nd (de_mk1K V_BadValue (hr.mono (by decide)) (dv 0)))
    (dss_cons (ds_expr (de_bm PySem.F.plainAttrs_list PySem.F.slot_list_append PySem.F.type_list_append dm_append (dv 2) (da_cons (de_lstF (da_cons de_str (da_cons de_str (da_cons (de_lstF (da_cons (dv 3) (da_cons (dv 4) da_nil))) (da_cons (de_lstF (da_cons (de_lstF (da_cons (de_kf T.yk_BadValue.xf (T.yk_BadValue.no _ (by simp)) (dv 3)) da_nil)) (da_cons (de_lstF (da_cons (de_kf T.yk_BadValue.xf (T.yk_BadValue.no _ (by simp)) (dv 4)) da_nil)) da_nil))) da_nil))))) da_nil)))
    (dss_cons (ds_set 3 sc_law_middle_made.nd (de_mk2 V_BadState (hr.mono (by decide)) (dv 0) (dv 1)))
    (dss_cons (ds_set 4 sc_law_middle_made.nd (de_mk2K V_BadState (hr.mono (by decide)) (dv 1) (dv 0)))
    (dss_cons (ds_expr (de_bm PySem.F.plainAttrs_list PySem.F.slot_list_append PySem.F.type_list_append dm_append (dv 2) (da_cons (de_lstF (da_cons de_str (da_cons de_str (da_cons (de_lstF (da_cons (dv 3) (da_cons (dv 4) da_nil))) (da_cons (de_lstF (da_cons (de_lstF (da_cons (de_kf T.yk_BadState.xf (T.yk_BadState.no _ (by simp)) (dv 3)) (da_cons (de_kf T.yk_BadState.xf (T.yk_BadState.no _ (by simp)) (dv 3)) da_nil))) (da_cons (de_lstF (da_cons (de_kf T.yk_BadState.xf (T.yk_BadState.no _ (by simp)) (dv 4)) (da_cons (de_kf T.yk_BadState.xf (T.yk_BadState.no _ (by simp)) (dv 4)) da_nil))) da_nil))) da_nil))))) da_nil)))
    (dss_cons (ds_set 3 sc_law_middle_made.nd (de_mk1 V_BadCount (hr.mono (by decide)) (dv 0)))
    (dss_cons (ds_set 4 sc_law_middle_made.nd (de_mk1K V_BadCount (hr.mono (by decide)) (dv 0)))
    (dss_cons (ds_expr (de_bm PySem.F.plainAttrs_list PySem.F.slot_list_append PySem.F.type_list_append dm_append (dv 2) (da_cons (de_lstF (da_cons de_str (da_cons de_str (da_cons (de_lstF (da_cons (dv 3) (da_cons (dv 4) da_nil))) (da_cons (de_lstF (da_cons (de_lstF (da_cons (de_kf T.yk_BadCount.xf (T.yk_BadCount.no _ (by simp)) (dv 3)) da_nil)) (da_cons (de_lstF (da_cons (de_kf T.yk_BadCount.xf (T.yk_BadCount.no _ (by simp)) (dv 4)) da_nil)) da_nil))) da_nil))))) da_nil)))
    (dss_cons (ds_set 3 sc_law_middle_made.nd (de_mk1 V_BadDeed (hr.mono (by decide)) (dv 0)))
    (dss_cons (ds_set 4 sc_law_middle_made.nd (de_mk1K V_BadDeed (hr.mono (by decide)) (dv 0)))
    (dss_cons (ds_expr (de_bm PySem.F.plainAttrs_list PySem.F.slot_list_append PySem.F.type_list_append dm_append (dv 2) (da_cons (de_lstF (da_cons de_str (da_cons de_str (da_cons (de_lstF (da_cons (dv 3) (da_cons (dv 4) da_nil))) (da_cons (de_lstF (da_cons (de_lstF (da_cons (de_kf T.yk_BadDeed.xf (T.yk_BadDeed.no _ (by simp)) (dv 3)) da_nil)) (da_cons (de_lstF (da_cons (de_kf T.yk_BadDeed.xf (T.yk_BadDeed.no _ (by simp)) (dv 4)) da_nil)) da_nil))) da_nil))))) da_nil)))
    (dss_one (ds_ret (dv 2)))))))))))))))))))))))))))))))))))) (rd_law_middle_made A)
theorem sc_law_last_ones : FnScope ["_law_error", "_law_found"] ["_law_error"] (defScope s_law_last_ones) := ⟨rfl, rfl, rfl, by decide +kernel, rfl, by decide +kernel, by decide +kernel⟩
theorem d_law_last_ones {fd : FuncData} (T : Txt K mg A) (F : Fun K "_law_last_ones" "_law_last_ones" s_law_last_ones A.law_last_ones fd) (hb : Binds K fd ["_law_error"] []) : FnD P w K mg base 1 A.law_last_ones (sp_law_last_ones A) :=
  def_ofW (N := ["_law_error", "_law_found"]) (qb := qb_law_last_ones A) F hb sc_law_last_ones (len_law_last_ones A) (fun cdv Ar outer s H E hr =>
    (dss_cons (ds_set 1 sc_law_last_ones.nd (de_lstM da_nil))
    (dss_cons (ds_if (dt_val (de_isK T.yc (ktab_ofB T.yt_UnknownName) rfl T.z_isinstance (dv 0) rfl T.yg_UnknownName)) (dss_one (ds_expr (de_bm PySem.F.plainAttrs_list PySem.F.slot_list_append PySem.F.type_list_append dm_append (dv 1) (da_cons de_str da_nil)))) dss_nil)
    (dss_cons (ds_if (dt_val (de_isK T.yc (ktab_ofB T.yt_UnknownChannel) rfl T.z_isinstance (dv 0) rfl T.yg_UnknownChannel)) (dss_one (ds_expr (de_bm PySem.F.plainAttrs_list PySem.F.slot_list_append PySem.F.type_list_append dm_append (dv 1) (da_cons de_str da_nil)))) dss_nil)
    (dss_cons (ds_if (dt_val (de_isK T.yc (ktab_ofB T.yt_UnknownHop) rfl T.z_isinstance (dv 0) rfl T.yg_UnknownHop)) (dss_one (ds_expr (de_bm PySem.F.plainAttrs_list PySem.F.slot_list_append PySem.F.type_list_append dm_append (dv 1) (da_cons de_str da_nil)))) dss_nil)
    (dss_cons (ds_if (dt_val (de_isK T.yc (ktab_ofB T.yt_NoSuchLetter) rfl T.z_isinstance (dv 0) rfl T.yg_NoSuchLetter)) (dss_one (ds_expr (de_bm PySem.F.plainAttrs_list PySem.F.slot_list_append PySem.F.type_list_append dm_append (dv 1) (da_cons de_str da_nil)))) dss_nil)
    (dss_cons (ds_if (dt_val (de_isK T.yc (ktab_ofB T.yt_NoSuchTick) rfl T.z_isinstance (dv 0) rfl T.yg_NoSuchTick)) (dss_one (ds_expr (de_bm PySem.F.plainAttrs_list PySem.F.slot_list_append PySem.F.type_list_append dm_append (dv 1) (da_cons de_str da_nil)))) dss_nil)
    (dss_cons (ds_if (dt_val (de_isK T.yc (ktab_ofB T.yt_Started) rfl T.z_isinstance (dv 0) rfl T.yg_Started)) (dss_one (ds_expr (de_bm PySem.F.plainAttrs_list PySem.F.slot_list_append PySem.F.type_list_append dm_append (dv 1) (da_cons de_str da_nil)))) dss_nil)
    (dss_cons (ds_if (dt_val (de_isK T.yc (ktab_ofB T.yt_NotStrange) rfl T.z_isinstance (dv 0) rfl T.yg_NotStrange)) (dss_one (ds_expr (de_bm PySem.F.plainAttrs_list PySem.F.slot_list_append PySem.F.type_list_append dm_append (dv 1) (da_cons de_str da_nil)))) dss_nil)
    (dss_cons (ds_if (dt_val (de_isK T.yc (ktab_ofB T.yt_NotShaky) rfl T.z_isinstance (dv 0) rfl T.yg_NotShaky)) (dss_one (ds_expr (de_bm PySem.F.plainAttrs_list PySem.F.slot_list_append PySem.F.type_list_append dm_append (dv 1) (da_cons de_str da_nil)))) dss_nil)
    (dss_cons (ds_if (dt_val (de_isK T.yc (ktab_ofB T.yt_Unseen) rfl T.z_isinstance (dv 0) rfl T.yg_Unseen)) (dss_one (ds_expr (de_bm PySem.F.plainAttrs_list PySem.F.slot_list_append PySem.F.type_list_append dm_append (dv 1) (da_cons de_str da_nil)))) dss_nil)
    (dss_one (ds_ret (dv 1)))))))))))))) (rd_law_last_ones A)
theorem sc_law_middle_ones : FnScope ["_law_error", "_law_found"] ["_law_error"] (defScope s_law_middle_ones) := ⟨rfl, rfl, rfl, by decide +kernel, rfl, by decide +kernel, by decide +kernel⟩
theorem d_law_middle_ones {fd : FuncData} (T : Txt K mg A) (F : Fun K "_law_middle_ones" "_law_middle_ones" s_law_middle_ones A.law_middle_ones fd) (hb : Binds K fd ["_law_error"] []) : FnD P w K mg base 1 A.law_middle_ones (sp_law_middle_ones A) :=
  def_ofW (N := ["_law_error", "_law_found"]) (qb := qb_law_middle_ones A) F hb sc_law_middle_ones (len_law_middle_ones A) (fun cdv Ar outer s H E hr =>
    (dss_cons (ds_set 1 sc_law_middle_ones.nd (de_lstM da_nil))
    (dss_cons (ds_if (dt_val (de_isK T.yc (ktab_ofB T.yt_BadManner) rfl T.z_isinstance (dv 0) rfl T.yg_BadManner)) (dss_one (ds_expr (de_bm PySem.F.plainAttrs_list PySem.F.slot_list_append PySem.F.type_list_append dm_append (dv 1) (da_cons de_str da_nil)))) dss_nil)
    (dss_cons (ds_if (dt_val (de_isK T.yc (ktab_ofB T.yt_BadCapacity) rfl T.z_isinstance (dv 0) rfl T.yg_BadCapacity)) (dss_one (ds_expr (de_bm PySem.F.plainAttrs_list PySem.F.slot_list_append PySem.F.type_list_append dm_append (dv 1) (da_cons de_str da_nil)))) dss_nil)
    (dss_cons (ds_if (dt_val (de_isK T.yc (ktab_ofB T.yt_BadSharing) rfl T.z_isinstance (dv 0) rfl T.yg_BadSharing)) (dss_one (ds_expr (de_bm PySem.F.plainAttrs_list PySem.F.slot_list_append PySem.F.type_list_append dm_append (dv 1) (da_cons de_str da_nil)))) dss_nil)
    (dss_cons (ds_if (dt_val (de_isK T.yc (ktab_ofB T.yt_BadBand) rfl T.z_isinstance (dv 0) rfl T.yg_BadBand)) (dss_one (ds_expr (de_bm PySem.F.plainAttrs_list PySem.F.slot_list_append PySem.F.type_list_append dm_append (dv 1) (da_cons de_str da_nil)))) dss_nil)
    (dss_cons (ds_if (dt_val (de_isK T.yc (ktab_ofB T.yt_NotPlain) rfl T.z_isinstance (dv 0) rfl T.yg_NotPlain)) (dss_one (ds_expr (de_bm PySem.F.plainAttrs_list PySem.F.slot_list_append PySem.F.type_list_append dm_append (dv 1) (da_cons de_str da_nil)))) dss_nil)
    (dss_cons (ds_if (dt_val (de_isK T.yc (ktab_ofB T.yt_Future) rfl T.z_isinstance (dv 0) rfl T.yg_Future)) (dss_one (ds_expr (de_bm PySem.F.plainAttrs_list PySem.F.slot_list_append PySem.F.type_list_append dm_append (dv 1) (da_cons de_str da_nil)))) dss_nil)
    (dss_cons (ds_if (dt_val (de_isK T.yc (ktab_ofB T.yt_Short) rfl T.z_isinstance (dv 0) rfl T.yg_Short)) (dss_one (ds_expr (de_bm PySem.F.plainAttrs_list PySem.F.slot_list_append PySem.F.type_list_append dm_append (dv 1) (da_cons de_str da_nil)))) dss_nil)
    (dss_cons (ds_if (dt_val (de_isK T.yc (ktab_ofB T.yt_BadValue) rfl T.z_isinstance (dv 0) rfl T.yg_BadValue)) (dss_one (ds_expr (de_bm PySem.F.plainAttrs_list PySem.F.slot_list_append PySem.F.type_list_append dm_append (dv 1) (da_cons de_str da_nil)))) dss_nil)
    (dss_cons (ds_if (dt_val (de_isK T.yc (ktab_ofB T.yt_BadState) rfl T.z_isinstance (dv 0) rfl T.yg_BadState)) (dss_one (ds_expr (de_bm PySem.F.plainAttrs_list PySem.F.slot_list_append PySem.F.type_list_append dm_append (dv 1) (da_cons de_str da_nil)))) dss_nil)
    (dss_cons (ds_if (dt_val (de_isK T.yc (ktab_ofB T.yt_BadCount) rfl T.z_isinstance (dv 0) rfl T.yg_BadCount)) (dss_one (ds_expr (de_bm PySem.F.plainAttrs_list PySem.F.slot_list_append PySem.F.type_list_append dm_append (dv 1) (da_cons de_str da_nil)))) dss_nil)
    (dss_cons (ds_if (dt_val (de_isK T.yc (ktab_ofB T.yt_BadDeed) rfl T.z_isinstance (dv 0) rfl T.yg_BadDeed)) (dss_one (ds_expr (de_bm PySem.F.plainAttrs_list PySem.F.slot_list_append PySem.F.type_list_append dm_append (dv 1) (da_cons de_str da_nil)))) dss_nil)
    (dss_one (ds_ret (dv 1)))))))))))))))) (rd_law_middle_ones A)
theorem sc_law_first_ones : FnScope ["_law_error", "_law_found"] ["_law_error"] (defScope s_law_first_ones) := ⟨rfl, rfl, rfl, by decide +kernel, rfl, by decide +kernel, by decide +kernel⟩
theorem d_law_first_ones {fd : FuncData} (T : Txt K mg A) (F : Fun K "_law_first_ones" "_law_first_ones" s_law_first_ones A.law_first_ones fd) (hb : Binds K fd ["_law_error"] []) : FnD P w K mg base 1 A.law_first_ones (sp_law_first_ones A) :=
  def_ofW (N := ["_law_error", "_law_found"]) (qb := qb_law_first_ones A) F hb sc_law_first_ones (len_law_first_ones A) (fun cdv Ar outer s H E hr =>
    (dss_cons (ds_set 1 sc_law_first_ones.nd (de_lstM da_nil))
    (dss_cons (ds_if (dt_val (de_isK T.yc (ktab_ofB T.yt_BadAmount) rfl T.z_isinstance (dv 0) rfl T.yg_BadAmount)) (dss_one (ds_expr (de_bm PySem.F.plainAttrs_list PySem.F.slot_list_append PySem.F.type_list_append dm_append (dv 1) (da_cons de_str da_nil)))) dss_nil)
    (dss_cons (ds_if (dt_val (de_isK T.yc (ktab_ofB T.yt_BadLink) rfl T.z_isinstance (dv 0) rfl T.yg_BadLink)) (dss_one (ds_expr (de_bm PySem.F.plainAttrs_list PySem.F.slot_list_append PySem.F.type_list_append dm_append (dv 1) (da_cons de_str da_nil)))) dss_nil)
    (dss_cons (ds_if (dt_val (de_isK T.yc (ktab_ofB T.yt_BadFlow) rfl T.z_isinstance (dv 0) rfl T.yg_BadFlow)) (dss_one (ds_expr (de_bm PySem.F.plainAttrs_list PySem.F.slot_list_append PySem.F.type_list_append dm_append (dv 1) (da_cons de_str da_nil)))) dss_nil)
    (dss_cons (ds_if (dt_val (de_isK T.yc (ktab_ofB T.yt_BadAge) rfl T.z_isinstance (dv 0) rfl T.yg_BadAge)) (dss_one (ds_expr (de_bm PySem.F.plainAttrs_list PySem.F.slot_list_append PySem.F.type_list_append dm_append (dv 1) (da_cons de_str da_nil)))) dss_nil)
    (dss_cons (ds_if (dt_val (de_isK T.yc (ktab_ofB T.yt_BadPart) rfl T.z_isinstance (dv 0) rfl T.yg_BadPart)) (dss_one (ds_expr (de_bm PySem.F.plainAttrs_list PySem.F.slot_list_append PySem.F.type_list_append dm_append (dv 1) (da_cons de_str da_nil)))) dss_nil)
    (dss_cons (ds_if (dt_val (de_isK T.yc (ktab_ofB T.yt_TooMany) rfl T.z_isinstance (dv 0) rfl T.yg_TooMany)) (dss_one (ds_expr (de_bm PySem.F.plainAttrs_list PySem.F.slot_list_append PySem.F.type_list_append dm_append (dv 1) (da_cons de_str da_nil)))) dss_nil)
    (dss_cons (ds_if (dt_val (de_isK T.yc (ktab_ofB T.yt_DuplicateName) rfl T.z_isinstance (dv 0) rfl T.yg_DuplicateName)) (dss_one (ds_expr (de_bm PySem.F.plainAttrs_list PySem.F.slot_list_append PySem.F.type_list_append dm_append (dv 1) (da_cons de_str da_nil)))) dss_nil)
    (dss_cons (ds_if (dt_val (de_isK T.yc (ktab_ofB T.yt_Idle) rfl T.z_isinstance (dv 0) rfl T.yg_Idle)) (dss_one (ds_expr (de_bm PySem.F.plainAttrs_list PySem.F.slot_list_append PySem.F.type_list_append dm_append (dv 1) (da_cons de_str da_nil)))) dss_nil)
    (dss_cons (ds_if (dt_val (de_isK T.yc (ktab_ofB T.yt_Overpromised) rfl T.z_isinstance (dv 0) rfl T.yg_Overpromised)) (dss_one (ds_expr (de_bm PySem.F.plainAttrs_list PySem.F.slot_list_append PySem.F.type_list_append dm_append (dv 1) (da_cons de_str da_nil)))) dss_nil)
    (dss_cons (ds_if (dt_val (de_isK T.yc (ktab_ofB T.yt_Small) rfl T.z_isinstance (dv 0) rfl T.yg_Small)) (dss_one (ds_expr (de_bm PySem.F.plainAttrs_list PySem.F.slot_list_append PySem.F.type_list_append dm_append (dv 1) (da_cons de_str da_nil)))) dss_nil)
    (dss_cons (ds_if (dt_val (de_isK T.yc (ktab_ofB T.yt_BadText) rfl T.z_isinstance (dv 0) rfl T.yg_BadText)) (dss_one (ds_expr (de_bm PySem.F.plainAttrs_list PySem.F.slot_list_append PySem.F.type_list_append dm_append (dv 1) (da_cons de_str da_nil)))) dss_nil)
    (dss_one (ds_ret (dv 1)))))))))))))))) (rd_law_first_ones A)
theorem sc_law_known : FnScope ["_law_error", "_law_found"] ["_law_error"] (defScope s_law_known) := ⟨rfl, rfl, rfl, by decide +kernel, rfl, by decide +kernel, by decide +kernel⟩
theorem d_law_known {fd : FuncData} (T : Txt K mg A) (F : Fun K "_law_known" "_law_known" s_law_known A.law_known fd) (hb : Binds K fd ["_law_error"] []) (G_law_first_ones : FnD P w K mg base 1 A.law_first_ones (sp_law_first_ones A)) (G_law_middle_ones : FnD P w K mg base 1 A.law_middle_ones (sp_law_middle_ones A)) (G_law_last_ones : FnD P w K mg base 1 A.law_last_ones (sp_law_last_ones A)) : FnD P w K mg base 2 A.law_known (sp_law_known A) :=
  def_ofW (N := ["_law_error", "_law_found"]) (qb := qb_law_known A) F hb sc_law_known (len_law_known A) (fun cdv Ar outer s H E hr =>
    (dss_cons (ds_set 1 sc_law_known.nd (de_lstM da_nil))
    (dss_cons (ds_if (dt_val (de_isK T.yc (ktab_ofB T.yt_BandError) rfl T.z_isinstance (dv 0) rfl T.yg_BandError)) (dss_one (ds_expr (de_bm PySem.F.plainAttrs_list PySem.F.slot_list_append PySem.F.type_list_append dm_append (dv 1) (da_cons de_str da_nil)))) dss_nil)
    (dss_cons (ds_if (dt_val (de_isK T.yc (ktab_ofB T.yt_Missing) rfl T.z_isinstance (dv 0) rfl T.yg_Missing)) (dss_one (ds_expr (de_bm PySem.F.plainAttrs_list PySem.F.slot_list_append PySem.F.type_list_append dm_append (dv 1) (da_cons de_str da_nil)))) dss_nil)
    (dss_cons (ds_if (dt_val (de_isK T.yc (ktab_ofB T.yt_Refused) rfl T.z_isinstance (dv 0) rfl T.yg_Refused)) (dss_one (ds_expr (de_bm PySem.F.plainAttrs_list PySem.F.slot_list_append PySem.F.type_list_append dm_append (dv 1) (da_cons de_str da_nil)))) dss_nil)
    (dss_cons (ds_if (dt_val (de_isKb T.yc (ktab_ofB T.yt_ValueError) rfl T.z_isinstance (dv 0) (pe_bltn rfl T.z_ValueError (by decide +kernel) rfl))) (dss_one (ds_expr (de_bm PySem.F.plainAttrs_list PySem.F.slot_list_append PySem.F.type_list_append dm_append (dv 1) (da_cons de_str da_nil)))) dss_nil)
    (dss_cons (ds_if (dt_val (de_isKb T.yc (ktab_ofB T.yt_LookupError) rfl T.z_isinstance (dv 0) (pe_bltn rfl T.z_LookupError (by decide +kernel) rfl))) (dss_one (ds_expr (de_bm PySem.F.plainAttrs_list PySem.F.slot_list_append PySem.F.type_list_append dm_append (dv 1) (da_cons de_str da_nil)))) dss_nil)
    (dss_cons (ds_if (dt_val (de_isKb T.yc (ktab_ofB T.yt_RuntimeError) rfl T.z_isinstance (dv 0) (pe_bltn rfl T.z_RuntimeError (by decide +kernel) rfl))) (dss_one (ds_expr (de_bm PySem.F.plainAttrs_list PySem.F.slot_list_append PySem.F.type_list_append dm_append (dv 1) (da_cons de_str da_nil)))) dss_nil)
    (dss_one (ds_ret (de_op do_add (de_op do_add (de_op do_add (dv 1) (de_freeze (de_call G_law_first_ones (hr.mono (by decide)) rfl T.g_law_first_ones T.k_law_first_ones (da_cons (dv 0) da_nil)))) (de_freeze (de_call G_law_middle_ones (hr.mono (by decide)) rfl T.g_law_middle_ones T.k_law_middle_ones (da_cons (dv 0) da_nil)))) (de_freeze (de_call G_law_last_ones (hr.mono (by decide)) rfl T.g_law_last_ones T.k_law_last_ones (da_cons (dv 0) da_nil)))))))))))))) (rd_law_known A)
theorem sc_law_rows_so : FnScope ["_law_rows", "_law_x", "_law_y", "_law_above", "_law_label", "_law_base", "_law_made", "_law_told", "_law_error", "_law_got"] ["_law_rows", "_law_x", "_law_y"] (defScope s_law_rows_so) := ⟨rfl, rfl, rfl, by decide +kernel, rfl, by decide +kernel, by decide +kernel⟩
theorem d_law_rows_so {fd : FuncData} (T : Txt K mg A) (F : Fun K "_law_rows_so" "_law_rows_so" s_law_rows_so A.law_rows_so fd) (hb : Binds K fd ["_law_rows", "_law_x", "_law_y"] []) (G_law_like : FnD P w K mg base 6 A.law_like (sp_law_like 6 A)) (G_law_known : FnD P w K mg base 2 A.law_known (sp_law_known A)) : FnD P w K mg base 7 A.law_rows_so (sp_law_rows_so A) :=
  def_ofW (N := ["_law_rows", "_law_x", "_law_y", "_law_above", "_law_label", "_law_base", "_law_made", "_law_told", "_law_error", "_law_got"]) (qb := qb_law_rows_so A) F hb sc_law_rows_so (len_law_rows_so A) (fun cdv Ar outer s H E hr =>
    (dss_cons (ds_set 3 sc_law_rows_so.nd (de_disp (dps_cons de_str de_str (dps_cons de_str de_str (dps_cons de_str de_str dps_nil)))))
    (dss_cons (ds_for PassesOwn.never rfl (di_lst (dv 0)) (pt_tp rfl (pts_cn (pt_nm 4 sc_law_rows_so.nd) (pts_cn (pt_nm 5 sc_law_rows_so.nd) (pts_cn (pt_nm 6 sc_law_rows_so.nd) (pts_cn (pt_nm 7 sc_law_rows_so.nd) pts_nl))))) (dss_one (ds_for PassesOwn.never rfl (di_zip rfl T.z_zip (da_cons (dv 6) (da_cons (dv 7) da_nil))) (pt_tp rfl (pts_cn (pt_nm 8 sc_law_rows_so.nd) (pts_cn (pt_nm 9 sc_law_rows_so.nd) pts_nl))) (dss_cons (ds_if (dt_not (dt_val (de_call G_law_like (hr.mono (by decide)) rfl T.g_law_like T.k_law_like (da_cons (de_freeze (de_callB db_sortS rfl T.z_sorted (by decide +kernel) (da_cons (de_call G_law_known (hr.mono (by decide)) rfl T.g_law_known T.k_law_known (da_cons (dv 8) da_nil)) da_nil))) (da_cons (de_freeze (de_callB db_sortS rfl T.z_sorted (by decide +kernel) (da_cons (de_lstF (da_cons (dv 4) (da_cons (dv 5) (da_cons (de_idx (hu1 hr) (dv 3) (dv 5)) da_nil)))) da_nil))) da_nil))))) (dss_one (ds_ret de_bl)) dss_nil)
    (dss_one (ds_if (dt_not (dt_val (de_call G_law_like (hr.mono (by decide)) rfl T.g_law_like T.k_law_like (da_cons (dv 9) (da_cons (de_slL (de_lstF (da_cons (dv 1) (da_cons (dv 2) da_nil))) do_none (do_some (de_callB db_len rfl T.z_len (by decide +kernel) (da_cons (dv 9) da_nil)))) da_nil))))) (dss_one (ds_ret de_bl)) dss_nil))))))
    (dss_one (ds_ret de_bl))))) (rd_law_rows_so A)
theorem sc_law_thrown : FnScope ["_law_x"] ["_law_x"] (defScope s_law_thrown) := ⟨rfl, rfl, rfl, by decide +kernel, rfl, by decide +kernel, by decide +kernel⟩
theorem oz_law_thrown {fd : FuncData} (T : Txt K mg A) (F : Fun K "_law_thrown" "_law_thrown" s_law_thrown A.law_thrown fd) (X_Short : Ex1G P w K mg base "Short" A.Short "amount") : FnOk P w K mg base (L2.CX P w) 3 A.law_thrown fd ["_law_x"] (liftSpE K (spx_law_thrown A)) :=
  okZ_of (N := ["_law_x"]) (qb := qbx_law_thrown A) F sc_law_thrown (lenx_law_thrown A) (fun cdv Ar outer s H E hr =>
    (xss_one (xz_raise1G rfl X_Short (hr.mono (by decide)) (L2.takes_of rfl rfl rfl rfl) (dv 0)))) (rdx_law_thrown A)
theorem sc_law_missed : FnScope ["_law_x"] ["_law_x"] (defScope s_law_missed) := ⟨rfl, rfl, rfl, by decide +kernel, rfl, by decide +kernel, by decide +kernel⟩
theorem oz_law_missed {fd : FuncData} (T : Txt K mg A) (F : Fun K "_law_missed" "_law_missed" s_law_missed A.law_missed fd) (X_UnknownHop : Ex1G P w K mg base "UnknownHop" A.UnknownHop "hop") : FnOk P w K mg base (L2.CX P w) 3 A.law_missed fd ["_law_x"] (liftSpE K (spx_law_missed A)) :=
  okZ_of (N := ["_law_x"]) (qb := qbx_law_missed A) F sc_law_missed (lenx_law_missed A) (fun cdv Ar outer s H E hr =>
    (xss_one (xz_raise1G rfl X_UnknownHop (hr.mono (by decide)) (L2.takes_of rfl rfl rfl rfl) (dv 0)))) (rdx_law_missed A)
theorem sc_law_refused : FnScope ["_law_x"] ["_law_x"] (defScope s_law_refused) := ⟨rfl, rfl, rfl, by decide +kernel, rfl, by decide +kernel, by decide +kernel⟩
theorem oz_law_refused {fd : FuncData} (T : Txt K mg A) (F : Fun K "_law_refused" "_law_refused" s_law_refused A.law_refused fd) (X_Started : Ex1G P w K mg base "Started" A.Started "tick") : FnOk P w K mg base (L2.CX P w) 3 A.law_refused fd ["_law_x"] (liftSpE K (spx_law_refused A)) :=
  okZ_of (N := ["_law_x"]) (qb := qbx_law_refused A) F sc_law_refused (lenx_law_refused A) (fun cdv Ar outer s H E hr =>
    (xss_one (xz_raise1G rfl X_Started (hr.mono (by decide)) (L2.takes_of rfl rfl rfl rfl) (dv 0)))) (rdx_law_refused A)
theorem sc_law : FnScope ["_law_script", "_law_bag_here", "_law_turn", "_law_x", "_law_y", "_law_first", "_law_again", "_law_one", "_law_two", "_law_three"] ["_law_script"] (defScope s_law) := ⟨rfl, rfl, rfl, by decide +kernel, rfl, by decide +kernel, by decide +kernel⟩
theorem d_law {fd : FuncData} (T : Txt K mg A) (F : Fun K "law" "law" s_law A.law fd) (hc : fd.code = .ref A.cb_law) (TB : LamX.TabB base mg A.cb_law A.tb_law) (G_law_bag : FnD P w K mg base 1 A.law_bag (sp_law_bag A)) (G_law_of : FnD P w K mg base 2 A.law_of (sp_law_of A)) (G_law_amount : FnD P w K mg base 4 A.law_amount (sp_law_amount A)) (G_law_word : FnD P w K mg base 3 A.law_word (sp_law_word A)) (G_law_odd : FnD P w K mg base 3 A.law_odd (sp_law_odd A)) (G_law_draw : FnD P w K mg base 1 A.law_draw (sp_law_draw A)) (G_law_first_made : FnD P w K mg base 3 A.law_first_made (sp_law_first_made A)) (G_law_middle_made : FnD P w K mg base 3 A.law_middle_made (sp_law_middle_made A)) (G_law_last_made : FnD P w K mg base 3 A.law_last_made (sp_law_last_made A)) (G_law_rows_so : FnD P w K mg base 7 A.law_rows_so (sp_law_rows_so A)) (G_law_like : FnD P w K mg base 6 A.law_like (sp_law_like 6 A)) (Z_law_thrown : FnDZ P w K mg base 3 A.law_thrown (spx_law_thrown A)) (Z_law_missed : FnDZ P w K mg base 3 A.law_missed (spx_law_missed A)) (Z_law_refused : FnDZ P w K mg base 3 A.law_refused (spx_law_refused A)) {fd_law_taken : FuncData} (F_law_taken : Fun K "_law_taken" "_law_taken" s_law_taken A.law_taken fd_law_taken) (b_law_taken : Binds K fd_law_taken ["_law_deed"] []) : FnOk P w K mg base CX0 8 A.law fd ["_law_script"] (liftSp K (lspLawTs [(A.tb_law, lamq "law")])) :=
  fno_ofC (N := ["_law_script", "_law_bag_here", "_law_turn", "_law_x", "_law_y", "_law_first", "_law_again", "_law_one", "_law_two", "_law_three"]) (qb := qb_law A) F hc sc_law len_law (fun Ar outer s H E hr =>
    (dss_cons (ds_set 1 sc_law.nd (de_call G_law_bag (hr.mono (by decide)) rfl T.g_law_bag T.k_law_bag (da_cons (dv 0) da_nil)))
    (dss_cons (ds_for PassesOwn.never rfl (di_range1 rfl T.z_range (da_cons de_int da_nil)) (pt_nm 2 sc_law.nd) (dss_cons (ds_set 3 sc_law.nd (de_call G_law_of (hr.mono (by decide)) rfl T.g_law_of T.k_law_of (da_cons (dv 1) (da_cons (de_lstF (da_cons (de_call G_law_odd (hr.mono (by decide)) rfl T.g_law_odd T.k_law_odd (da_cons (dv 1) da_nil)) (da_cons (de_call G_law_word (hr.mono (by decide)) rfl T.g_law_word T.k_law_word (da_cons (dv 1) da_nil)) (da_cons (de_call G_law_amount (hr.mono (by decide)) rfl T.g_law_amount T.k_law_amount (da_cons (dv 1) da_nil)) da_nil)))) da_nil))))
    (dss_cons (ds_set 4 sc_law.nd (de_call G_law_of (hr.mono (by decide)) rfl T.g_law_of T.k_law_of (da_cons (dv 1) (da_cons (de_lstF (da_cons (de_call G_law_odd (hr.mono (by decide)) rfl T.g_law_odd T.k_law_odd (da_cons (dv 1) da_nil)) (da_cons (de_call G_law_draw (hr.mono (by decide)) rfl T.g_law_draw T.k_law_draw (da_cons (dv 1) (da_cons de_int da_nil))) (da_cons (dv 3) da_nil)))) da_nil))))
    (dss_cons (ds_set 5 sc_law.nd (de_op do_add (de_op do_add (de_freeze (de_call G_law_first_made (hr.mono (by decide)) rfl T.g_law_first_made T.k_law_first_made (da_cons (dv 3) (da_cons (dv 4) da_nil)))) (de_freeze (de_call G_law_middle_made (hr.mono (by decide)) rfl T.g_law_middle_made T.k_law_middle_made (da_cons (dv 3) (da_cons (dv 4) da_nil))))) (de_freeze (de_call G_law_last_made (hr.mono (by decide)) rfl T.g_law_last_made T.k_law_last_made (da_cons (dv 3) (da_cons (dv 4) da_nil))))))
    (dss_cons (ds_set 6 sc_law.nd (de_op do_add (de_op do_add (de_freeze (de_call G_law_first_made (hr.mono (by decide)) rfl T.g_law_first_made T.k_law_first_made (da_cons (dv 4) (da_cons (dv 3) da_nil)))) (de_freeze (de_call G_law_middle_made (hr.mono (by decide)) rfl T.g_law_middle_made T.k_law_middle_made (da_cons (dv 4) (da_cons (dv 3) da_nil))))) (de_freeze (de_call G_law_last_made (hr.mono (by decide)) rfl T.g_law_last_made T.k_law_last_made (da_cons (dv 4) (da_cons (dv 3) da_nil))))))
    (dss_cons (ds_if (PW.pt (dw_or (dt_cmp (do_ne2 (hu64 hr)) (de_callB db_len rfl T.z_len (by decide +kernel) (da_cons (dv 5) da_nil)) de_int (by first | rfl | exact nobehind _ (by decide) (by decide))) (dw_or (dt_not (dt_val (de_call G_law_rows_so (hr.mono (by decide)) rfl T.g_law_rows_so T.k_law_rows_so (da_cons (dv 6) (da_cons (dv 4) (da_cons (dv 3) da_nil)))))) (dw_or1 (dt_not (dt_val (de_call G_law_rows_so (hr.mono (by decide)) rfl T.g_law_rows_so T.k_law_rows_so (da_cons (dv 5) (da_cons (dv 3) (da_cons (dv 4) da_nil)))))))))) (dss_one (ds_ret de_bl)) dss_nil)
    (dss_cons (ds_set 7 sc_law.nd (de_tak F_law_taken b_law_taken sc_law_taken rfl (.inl rfl) rfl rfl (tak_ofB T.yx_law_taken) (fun cdg s H => dk_law_taken T) (fun cdg s H => dr_law_taken T) ((hr.mono (by decide)) : Room (3 + 2) _) TB rfl rfl T.g_law_taken T.k_law_taken (LamX.lamS_by rfl) rfl (by intro _ _ _ _ _; rfl) (fun Ar2 outer2 s2 H2 E2 f2 c2 hr =>
      (dz_call Z_law_thrown (hr.mono (by decide)) (L2.takes_of rfl rfl rfl rfl) rfl T.g_law_thrown T.k_law_thrown (da_cons (dv 3) da_nil)))))
    (dss_cons (ds_set 8 sc_law.nd (de_tak F_law_taken b_law_taken sc_law_taken rfl (.inl rfl) rfl rfl (tak_ofB T.yx_law_taken) (fun cdg s H => dk_law_taken T) (fun cdg s H => dr_law_taken T) ((hr.mono (by decide)) : Room (3 + 2) _) TB rfl rfl T.g_law_taken T.k_law_taken (LamX.lamS_by rfl) rfl (by intro _ _ _ _ _; rfl) (fun Ar2 outer2 s2 H2 E2 f2 c2 hr =>
      (dz_call Z_law_missed (hr.mono (by decide)) (L2.takes_of rfl rfl rfl rfl) rfl T.g_law_missed T.k_law_missed (da_cons (dv 3) da_nil)))))
    (dss_cons (ds_set 9 sc_law.nd (de_tak F_law_taken b_law_taken sc_law_taken rfl (.inl rfl) rfl rfl (tak_ofB T.yx_law_taken) (fun cdg s H => dk_law_taken T) (fun cdg s H => dr_law_taken T) ((hr.mono (by decide)) : Room (3 + 2) _) TB rfl rfl T.g_law_taken T.k_law_taken (LamX.lamS_by rfl) rfl (by intro _ _ _ _ _; rfl) (fun Ar2 outer2 s2 H2 E2 f2 c2 hr =>
      (dz_call Z_law_refused (hr.mono (by decide)) (L2.takes_of rfl rfl rfl rfl) rfl T.g_law_refused T.k_law_refused (da_cons (dv 3) da_nil)))))
    (dss_cons (ds_if (dt_not (dt_val (de_call G_law_like (hr.mono (by decide)) rfl T.g_law_like T.k_law_like (da_cons (de_lstF (da_cons (de_idx (hu1 hr) (dv 7) de_int) (da_cons (de_idx (hu1 hr) (dv 8) de_int) (da_cons (de_idx (hu1 hr) (dv 9) de_int) da_nil)))) (da_cons (de_lstF (da_cons de_str (da_cons de_str (da_cons de_str da_nil)))) da_nil))))) (dss_one (ds_ret de_bl)) dss_nil)
    (dss_one (ds_if (dt_not (dt_val (de_call G_law_like (hr.mono (by decide)) rfl T.g_law_like T.k_law_like (da_cons (de_lstF (da_cons (de_kf T.yk_Short.xf (T.yk_Short.no _ (by simp)) (de_idx (hu1 hr) (dv 7) de_int)) (da_cons (de_kf T.yk_UnknownHop.xf (T.yk_UnknownHop.no _ (by simp)) (de_idx (hu1 hr) (dv 8) de_int)) (da_cons (de_kf T.yk_Started.xf (T.yk_Started.no _ (by simp)) (de_idx (hu1 hr) (dv 9) de_int)) da_nil)))) (da_cons (de_lstF (da_cons (dv 3) (da_cons (dv 3) (da_cons (dv 3) da_nil)))) da_nil))))) (dss_one (ds_ret de_bl)) dss_nil))))))))))))
    (dss_one (ds_ret de_bl))))) (rd_law A)
end
theorem all_mk {l : PySem.W.OpenLaw} {w : World} {K : PySem.W.Frag} {h : Heap} {mg : Str → Option Value} {fa : Addr} (X : K.In h) (G : h.Ns mainGlobals mg) (hfa : mg "law" = some (.ref fa)) :
    Facts K h (∃ (fd : FuncData) (cs : List (Addr × Addr)), (∀ p ∈ cs, h.get? p.2 = some { cls := .none, data := .fields #[] }) ∧ (∀ p ∈ cs, K.lookup p.2 = none) ∧ (∀ p ∈ cs, PySem.W.CodeHd h p.1 p.2) ∧ (∀ (s : Shared) (v : Value), BindsTo s fd ⟨[v], []⟩ [("_law_script", v)]) ∧ ∀ base : Heap, K.In base → base.Ns mainGlobals mg → (∀ p ∈ cs, LamX.TabB base mg p.1 p.2) → FnOk l.prog w K mg base CX0 8 fa fd ["_law_script"] (spLawTs K (cs.map (·.2)))) := by
  intro x_Short x_UnknownHop x_Started x_BadAmount x_BadLink x_BadFlow x_BadAge x_BadPart x_TooMany x_DuplicateName x_Idle x_Overpromised x_Small x_BadText x_BadManner x_BadCapacity x_BadSharing x_BadBand x_NotPlain x_Future x_BadValue x_BadState x_BadCount x_BadDeed x_UnknownName x_UnknownChannel x_NoSuchLetter x_NoSuchTick x_NotStrange x_NotShaky x_Unseen x_BandError x_Missing x_Refused x_Started_init x_UnknownHop_init x_Short_init x_BadAmount_init x_BadLink_init x_BadFlow_init x_BadAge_init x_BadPart_init x_TooMany_init x_DuplicateName_init x_Idle_init x_Overpromised_init x_Small_init x_BadText_init x_BadManner_init x_BadCapacity_init x_BadSharing_init x_BadBand_init x_Future_init x_BadValue_init x_BadState_init x_BadCount_init x_BadDeed_init x_UnknownName_init x_UnknownChannel_init x_NoSuchLetter_init x_NoSuchTick_init x_NotStrange_init x_NotShaky_init x_Unseen_init x_law_bag x_law_draw x_law_of x_law_taken x_law_last_made x_law_like x_law_odd x_law_word x_law_pair x_law_wide x_law_great x_law_amount x_law_first_made x_law_middle_made x_law_last_ones x_law_middle_ones x_law_first_ones x_law_known x_law_rows_so x_law_thrown x_law_missed x_law_refused x_law x_cb_law x_tb_law oc_Started_init kV_Started_init dc_Started_init pm_Started_init cd_Started_init ct_Started_init od_Started_init an_Started_init sl_Started_init oc_UnknownHop_init kV_UnknownHop_init dc_UnknownHop_init pm_UnknownHop_init cd_UnknownHop_init ct_UnknownHop_init od_UnknownHop_init an_UnknownHop_init sl_UnknownHop_init oc_Short_init kV_Short_init dc_Short_init pm_Short_init cd_Short_init ct_Short_init od_Short_init an_Short_init sl_Short_init oc_BadAmount_init kV_BadAmount_init dc_BadAmount_init pm_BadAmount_init cd_BadAmount_init ct_BadAmount_init od_BadAmount_init an_BadAmount_init sl_BadAmount_init oc_BadLink_init kV_BadLink_init dc_BadLink_init pm_BadLink_init cd_BadLink_init ct_BadLink_init od_BadLink_init an_BadLink_init sl_BadLink_init oc_BadFlow_init kV_BadFlow_init dc_BadFlow_init pm_BadFlow_init cd_BadFlow_init ct_BadFlow_init od_BadFlow_init an_BadFlow_init sl_BadFlow_init oc_BadAge_init kV_BadAge_init dc_BadAge_init pm_BadAge_init cd_BadAge_init ct_BadAge_init od_BadAge_init an_BadAge_init sl_BadAge_init oc_BadPart_init kV_BadPart_init dc_BadPart_init pm_BadPart_init cd_BadPart_init ct_BadPart_init od_BadPart_init an_BadPart_init sl_BadPart_init oc_TooMany_init kV_TooMany_init dc_TooMany_init pm_TooMany_init cd_TooMany_init ct_TooMany_init od_TooMany_init an_TooMany_init sl_TooMany_init oc_DuplicateName_init kV_DuplicateName_init dc_DuplicateName_init pm_DuplicateName_init cd_DuplicateName_init ct_DuplicateName_init od_DuplicateName_init an_DuplicateName_init sl_DuplicateName_init oc_Idle_init kV_Idle_init dc_Idle_init pm_Idle_init cd_Idle_init ct_Idle_init od_Idle_init an_Idle_init sl_Idle_init oc_Overpromised_init kV_Overpromised_init dc_Overpromised_init pm_Overpromised_init cd_Overpromised_init ct_Overpromised_init od_Overpromised_init an_Overpromised_init sl_Overpromised_init oc_Small_init kV_Small_init dc_Small_init pm_Small_init cd_Small_init ct_Small_init od_Small_init an_Small_init sl_Small_init oc_BadText_init kV_BadText_init dc_BadText_init pm_BadText_init cd_BadText_init ct_BadText_init od_BadText_init an_BadText_init sl_BadText_init oc_BadManner_init kV_BadManner_init dc_BadManner_init pm_BadManner_init cd_BadManner_init ct_BadManner_init od_BadManner_init an_BadManner_init sl_BadManner_init oc_BadCapacity_init kV_BadCapacity_init dc_BadCapacity_init pm_BadCapacity_init cd_BadCapacity_init ct_BadCapacity_init od_BadCapacity_init an_BadCapacity_init sl_BadCapacity_init oc_BadSharing_init kV_BadSharing_init dc_BadSharing_init pm_BadSharing_init cd_BadSharing_init ct_BadSharing_init od_BadSharing_init an_BadSharing_init sl_BadSharing_init oc_BadBand_init kV_BadBand_init dc_BadBand_init pm_BadBand_init cd_BadBand_init ct_BadBand_init od_BadBand_init an_BadBand_init sl_BadBand_init oc_Future_init kV_Future_init dc_Future_init pm_Future_init cd_Future_init ct_Future_init od_Future_init an_Future_init sl_Future_init oc_BadValue_init kV_BadValue_init dc_BadValue_init pm_BadValue_init cd_BadValue_init ct_BadValue_init od_BadValue_init an_BadValue_init sl_BadValue_init oc_BadState_init kV_BadState_init dc_BadState_init pm_BadState_init cd_BadState_init ct_BadState_init od_BadState_init an_BadState_init sl_BadState_init oc_BadCount_init kV_BadCount_init dc_BadCount_init pm_BadCount_init cd_BadCount_init ct_BadCount_init od_BadCount_init an_BadCount_init sl_BadCount_init oc_BadDeed_init kV_BadDeed_init dc_BadDeed_init pm_BadDeed_init cd_BadDeed_init ct_BadDeed_init od_BadDeed_init an_BadDeed_init sl_BadDeed_init oc_UnknownName_init kV_UnknownName_init dc_UnknownName_init pm_UnknownName_init cd_UnknownName_init ct_UnknownName_init od_UnknownName_init an_UnknownName_init sl_UnknownName_init oc_UnknownChannel_init kV_UnknownChannel_init dc_UnknownChannel_init pm_UnknownChannel_init cd_UnknownChannel_init ct_UnknownChannel_init od_UnknownChannel_init an_UnknownChannel_init sl_UnknownChannel_init oc_NoSuchLetter_init kV_NoSuchLetter_init dc_NoSuchLetter_init pm_NoSuchLetter_init cd_NoSuchLetter_init ct_NoSuchLetter_init od_NoSuchLetter_init an_NoSuchLetter_init sl_NoSuchLetter_init oc_NoSuchTick_init kV_NoSuchTick_init dc_NoSuchTick_init pm_NoSuchTick_init cd_NoSuchTick_init ct_NoSuchTick_init od_NoSuchTick_init an_NoSuchTick_init sl_NoSuchTick_init oc_NotStrange_init kV_NotStrange_init dc_NotStrange_init pm_NotStrange_init cd_NotStrange_init ct_NotStrange_init od_NotStrange_init an_NotStrange_init sl_NotStrange_init oc_NotShaky_init kV_NotShaky_init dc_NotShaky_init pm_NotShaky_init cd_NotShaky_init ct_NotShaky_init od_NotShaky_init an_NotShaky_init sl_NotShaky_init oc_Unseen_init kV_Unseen_init dc_Unseen_init pm_Unseen_init cd_Unseen_init ct_Unseen_init od_Unseen_init an_Unseen_init sl_Unseen_init oc_law_bag kV_law_bag dc_law_bag pm_law_bag cd_law_bag ct_law_bag od_law_bag an_law_bag sl_law_bag oc_law_draw kV_law_draw dc_law_draw pm_law_draw cd_law_draw ct_law_draw od_law_draw an_law_draw sl_law_draw oc_law_of kV_law_of dc_law_of pm_law_of cd_law_of ct_law_of od_law_of an_law_of sl_law_of oc_law_taken kV_law_taken dc_law_taken pm_law_taken cd_law_taken ct_law_taken od_law_taken an_law_taken sl_law_taken oc_law_last_made kV_law_last_made dc_law_last_made pm_law_last_made cd_law_last_made ct_law_last_made od_law_last_made an_law_last_made sl_law_last_made oc_law_like kV_law_like dc_law_like pm_law_like cd_law_like ct_law_like od_law_like an_law_like sl_law_like oc_law_odd kV_law_odd dc_law_odd pm_law_odd cd_law_odd ct_law_odd od_law_odd an_law_odd sl_law_odd oc_law_word kV_law_word dc_law_word pm_law_word cd_law_word ct_law_word od_law_word an_law_word sl_law_word oc_law_pair kV_law_pair dc_law_pair pm_law_pair cd_law_pair ct_law_pair od_law_pair an_law_pair sl_law_pair oc_law_wide kV_law_wide dc_law_wide pm_law_wide cd_law_wide ct_law_wide od_law_wide an_law_wide sl_law_wide oc_law_great kV_law_great dc_law_great pm_law_great cd_law_great ct_law_great od_law_great an_law_great sl_law_great oc_law_amount kV_law_amount dc_law_amount pm_law_amount cd_law_amount ct_law_amount od_law_amount an_law_amount sl_law_amount oc_law_first_made kV_law_first_made dc_law_first_made pm_law_first_made cd_law_first_made ct_law_first_made od_law_first_made an_law_first_made sl_law_first_made oc_law_middle_made kV_law_middle_made dc_law_middle_made pm_law_middle_made cd_law_middle_made ct_law_middle_made od_law_middle_made an_law_middle_made sl_law_middle_made oc_law_last_ones kV_law_last_ones dc_law_last_ones pm_law_last_ones cd_law_last_ones ct_law_last_ones od_law_last_ones an_law_last_ones sl_law_last_ones oc_law_middle_ones kV_law_middle_ones dc_law_middle_ones pm_law_middle_ones cd_law_middle_ones ct_law_middle_ones od_law_middle_ones an_law_middle_ones sl_law_middle_ones oc_law_first_ones kV_law_first_ones dc_law_first_ones pm_law_first_ones cd_law_first_ones ct_law_first_ones od_law_first_ones an_law_first_ones sl_law_first_ones oc_law_known kV_law_known dc_law_known pm_law_known cd_law_known ct_law_known od_law_known an_law_known sl_law_known oc_law_rows_so kV_law_rows_so dc_law_rows_so pm_law_rows_so cd_law_rows_so ct_law_rows_so od_law_rows_so an_law_rows_so sl_law_rows_so oc_law_thrown kV_law_thrown dc_law_thrown pm_law_thrown cd_law_thrown ct_law_thrown od_law_thrown an_law_thrown sl_law_thrown oc_law_missed kV_law_missed dc_law_missed pm_law_missed cd_law_missed ct_law_missed od_law_missed an_law_missed sl_law_missed oc_law_refused kV_law_refused dc_law_refused pm_law_refused cd_law_refused ct_law_refused od_law_refused an_law_refused sl_law_refused oc_law kV_law dc_law pm_law cd_law ct_law od_law an_law sl_law a_Short a_UnknownHop a_Started a_BadAmount a_BadLink a_BadFlow a_BadAge a_BadPart a_TooMany a_DuplicateName a_Idle a_Overpromised a_Small a_BadText a_BadManner a_BadCapacity a_BadSharing a_BadBand a_NotPlain a_Future a_BadValue a_BadState a_BadCount a_BadDeed a_UnknownName a_UnknownChannel a_NoSuchLetter a_NoSuchTick a_NotStrange a_NotShaky a_Unseen a_BandError a_Missing a_Refused ihn iht lk_Short xs_Short xb_Short xt_Short xp_Short xa_Short xe_Short xd_Short xc_Short xo_Short xf_Short xi_Short xy_Short lk_UnknownHop xs_UnknownHop xb_UnknownHop xt_UnknownHop xp_UnknownHop xa_UnknownHop xe_UnknownHop xd_UnknownHop xc_UnknownHop xo_UnknownHop xf_UnknownHop xi_UnknownHop xy_UnknownHop lk_Started xs_Started xb_Started xt_Started xp_Started xa_Started xe_Started xd_Started xc_Started xo_Started xf_Started xi_Started xy_Started lk_BadAmount yi_BadAmount yb_BadAmount lk_BadLink yi_BadLink yb_BadLink lk_BadFlow yi_BadFlow yb_BadFlow lk_BadAge yi_BadAge yb_BadAge lk_BadPart yi_BadPart yb_BadPart lk_TooMany yi_TooMany yb_TooMany lk_DuplicateName yi_DuplicateName yb_DuplicateName lk_Idle yi_Idle yb_Idle lk_Overpromised yi_Overpromised yb_Overpromised lk_Small yi_Small yb_Small lk_BadText yi_BadText yb_BadText lk_BadManner yi_BadManner yb_BadManner lk_BadCapacity yi_BadCapacity yb_BadCapacity lk_BadSharing yi_BadSharing yb_BadSharing lk_BadBand yi_BadBand yb_BadBand ye_NotPlain yq_NotPlain yo_NotPlain lk_Future yi_Future yb_Future yb_Short lk_BadValue yi_BadValue yb_BadValue lk_BadState yi_BadState yb_BadState lk_BadCount yi_BadCount yb_BadCount lk_BadDeed yi_BadDeed yb_BadDeed lk_UnknownName yi_UnknownName yb_UnknownName lk_UnknownChannel yi_UnknownChannel yb_UnknownChannel yb_UnknownHop lk_NoSuchLetter yi_NoSuchLetter yb_NoSuchLetter lk_NoSuchTick yi_NoSuchTick yb_NoSuchTick yb_Started lk_NotStrange yi_NotStrange yb_NotStrange lk_NotShaky yi_NotShaky yb_NotShaky lk_Unseen yi_Unseen yb_Unseen yt_UnknownName yt_UnknownChannel yt_UnknownHop yt_NoSuchLetter yt_NoSuchTick yt_Started yt_NotStrange yt_NotShaky yt_Unseen yt_BadManner yt_BadCapacity yt_BadSharing yt_BadBand yt_NotPlain yt_Future yt_Short yt_BadValue yt_BadState yt_BadCount yt_BadDeed yt_BadAmount yt_BadLink yt_BadFlow yt_BadAge yt_BadPart yt_TooMany yt_DuplicateName yt_Idle yt_Overpromised yt_Small yt_BadText yt_BandError yt_Missing yt_Refused yt_ValueError yt_LookupError yt_RuntimeError yx_law_taken l_Started_init co_Started_init kp_Started_init l_UnknownHop_init co_UnknownHop_init kp_UnknownHop_init l_Short_init co_Short_init kp_Short_init l_BadAmount_init co_BadAmount_init kp_BadAmount_init l_BadLink_init co_BadLink_init kp_BadLink_init l_BadFlow_init co_BadFlow_init kp_BadFlow_init l_BadAge_init co_BadAge_init kp_BadAge_init l_BadPart_init co_BadPart_init kp_BadPart_init l_TooMany_init co_TooMany_init kp_TooMany_init l_DuplicateName_init co_DuplicateName_init kp_DuplicateName_init l_Idle_init co_Idle_init kp_Idle_init l_Overpromised_init co_Overpromised_init kp_Overpromised_init l_Small_init co_Small_init kp_Small_init l_BadText_init co_BadText_init kp_BadText_init l_BadManner_init co_BadManner_init kp_BadManner_init l_BadCapacity_init co_BadCapacity_init kp_BadCapacity_init l_BadSharing_init co_BadSharing_init kp_BadSharing_init l_BadBand_init co_BadBand_init kp_BadBand_init l_Future_init co_Future_init kp_Future_init l_BadValue_init co_BadValue_init kp_BadValue_init l_BadState_init co_BadState_init kp_BadState_init l_BadCount_init co_BadCount_init kp_BadCount_init l_BadDeed_init co_BadDeed_init kp_BadDeed_init l_UnknownName_init co_UnknownName_init kp_UnknownName_init l_UnknownChannel_init co_UnknownChannel_init kp_UnknownChannel_init l_NoSuchLetter_init co_NoSuchLetter_init kp_NoSuchLetter_init l_NoSuchTick_init co_NoSuchTick_init kp_NoSuchTick_init l_NotStrange_init co_NotStrange_init kp_NotStrange_init l_NotShaky_init co_NotShaky_init kp_NotShaky_init l_Unseen_init co_Unseen_init kp_Unseen_init a_law_bag l_law_bag co_law_bag kp_law_bag a_law_draw l_law_draw co_law_draw kp_law_draw a_law_of l_law_of co_law_of kp_law_of a_law_taken l_law_taken co_law_taken kp_law_taken a_law_last_made l_law_last_made co_law_last_made kp_law_last_made a_law_like l_law_like co_law_like kp_law_like a_law_odd l_law_odd co_law_odd kp_law_odd a_law_word l_law_word co_law_word kp_law_word a_law_pair l_law_pair co_law_pair kp_law_pair a_law_wide l_law_wide co_law_wide kp_law_wide a_law_great l_law_great co_law_great kp_law_great a_law_amount l_law_amount co_law_amount kp_law_amount a_law_first_made l_law_first_made co_law_first_made kp_law_first_made a_law_middle_made l_law_middle_made co_law_middle_made kp_law_middle_made a_law_last_ones l_law_last_ones co_law_last_ones kp_law_last_ones a_law_middle_ones l_law_middle_ones co_law_middle_ones kp_law_middle_ones a_law_first_ones l_law_first_ones co_law_first_ones kp_law_first_ones a_law_known l_law_known co_law_known kp_law_known a_law_rows_so l_law_rows_so co_law_rows_so kp_law_rows_so a_law_thrown l_law_thrown co_law_thrown kp_law_thrown a_law_missed l_law_missed co_law_missed kp_law_missed a_law_refused l_law_refused co_law_refused kp_law_refused a_law l_law co_law kp_law z_int z_list z_len z_isinstance z_tuple z_all z_zip z_bool z_str z_range z_max z_ValueError z_LookupError z_RuntimeError z_sorted tb_law tn_law tc_law te_law hnd
  have e := hfa.symm.trans (PySem.W.mg_of X G a_law)
  cases e
  have yc : ∀ C ∈ [x_BadAmount, x_BadLink, x_BadFlow, x_BadAge, x_BadPart, x_TooMany, x_DuplicateName, x_Idle, x_Overpromised, x_Small, x_BadText, x_BadManner, x_BadCapacity, x_BadSharing, x_BadBand, x_NotPlain, x_Future, x_Short, x_BadValue, x_BadState, x_BadCount, x_BadDeed, x_UnknownName, x_UnknownChannel, x_UnknownHop, x_NoSuchLetter, x_NoSuchTick, x_Started, x_NotStrange, x_NotShaky, x_Unseen], ExcC K C := (List.forall_mem_cons.mpr ⟨(excB_ok (Bool.and_eq_true_iff.mp yb_BadAmount).1).1, (List.forall_mem_cons.mpr ⟨(excB_ok (Bool.and_eq_true_iff.mp yb_BadLink).1).1, (List.forall_mem_cons.mpr ⟨(excB_ok (Bool.and_eq_true_iff.mp yb_BadFlow).1).1, (List.forall_mem_cons.mpr ⟨(excB_ok (Bool.and_eq_true_iff.mp yb_BadAge).1).1, (List.forall_mem_cons.mpr ⟨(excB_ok (Bool.and_eq_true_iff.mp yb_BadPart).1).1, (List.forall_mem_cons.mpr ⟨(excB_ok (Bool.and_eq_true_iff.mp yb_TooMany).1).1, (List.forall_mem_cons.mpr ⟨(excB_ok (Bool.and_eq_true_iff.mp yb_DuplicateName).1).1, (List.forall_mem_cons.mpr ⟨(excB_ok (Bool.and_eq_true_iff.mp yb_Idle).1).1, (List.forall_mem_cons.mpr ⟨(excB_ok (Bool.and_eq_true_iff.mp yb_Overpromised).1).1, (List.forall_mem_cons.mpr ⟨(excB_ok (Bool.and_eq_true_iff.mp yb_Small).1).1, (List.forall_mem_cons.mpr ⟨(excB_ok (Bool.and_eq_true_iff.mp yb_BadText).1).1, (List.forall_mem_cons.mpr ⟨(excB_ok (Bool.and_eq_true_iff.mp yb_BadManner).1).1, (List.forall_mem_cons.mpr ⟨(excB_ok (Bool.and_eq_true_iff.mp yb_BadCapacity).1).1, (List.forall_mem_cons.mpr ⟨(excB_ok (Bool.and_eq_true_iff.mp yb_BadSharing).1).1, (List.forall_mem_cons.mpr ⟨(excB_ok (Bool.and_eq_true_iff.mp yb_BadBand).1).1, (List.forall_mem_cons.mpr ⟨(excB_ok yo_NotPlain).1, (List.forall_mem_cons.mpr ⟨(excB_ok (Bool.and_eq_true_iff.mp yb_Future).1).1, (List.forall_mem_cons.mpr ⟨(excB_ok (Bool.and_eq_true_iff.mp yb_Short).1).1, (List.forall_mem_cons.mpr ⟨(excB_ok (Bool.and_eq_true_iff.mp yb_BadValue).1).1, (List.forall_mem_cons.mpr ⟨(excB_ok (Bool.and_eq_true_iff.mp yb_BadState).1).1, (List.forall_mem_cons.mpr ⟨(excB_ok (Bool.and_eq_true_iff.mp yb_BadCount).1).1, (List.forall_mem_cons.mpr ⟨(excB_ok (Bool.and_eq_true_iff.mp yb_BadDeed).1).1, (List.forall_mem_cons.mpr ⟨(excB_ok (Bool.and_eq_true_iff.mp yb_UnknownName).1).1, (List.forall_mem_cons.mpr ⟨(excB_ok (Bool.and_eq_true_iff.mp yb_UnknownChannel).1).1, (List.forall_mem_cons.mpr ⟨(excB_ok (Bool.and_eq_true_iff.mp yb_UnknownHop).1).1, (List.forall_mem_cons.mpr ⟨(excB_ok (Bool.and_eq_true_iff.mp yb_NoSuchLetter).1).1, (List.forall_mem_cons.mpr ⟨(excB_ok (Bool.and_eq_true_iff.mp yb_NoSuchTick).1).1, (List.forall_mem_cons.mpr ⟨(excB_ok (Bool.and_eq_true_iff.mp yb_Started).1).1, (List.forall_mem_cons.mpr ⟨(excB_ok (Bool.and_eq_true_iff.mp yb_NotStrange).1).1, (List.forall_mem_cons.mpr ⟨(excB_ok (Bool.and_eq_true_iff.mp yb_NotShaky).1).1, (List.forall_mem_cons.mpr ⟨(excB_ok (Bool.and_eq_true_iff.mp yb_Unseen).1).1, (fun _ h => nomatch h)⟩)⟩)⟩)⟩)⟩)⟩)⟩)⟩)⟩)⟩)⟩)⟩)⟩)⟩)⟩)⟩)⟩)⟩)⟩)⟩)⟩)⟩)⟩)⟩)⟩)⟩)⟩)⟩)⟩)⟩)⟩)
  have T : Txt K mg (Adr.mk x_Short x_UnknownHop x_Started x_BadAmount x_BadLink x_BadFlow x_BadAge x_BadPart x_TooMany x_DuplicateName x_Idle x_Overpromised x_Small x_BadText x_BadManner x_BadCapacity x_BadSharing x_BadBand x_NotPlain x_Future x_BadValue x_BadState x_BadCount x_BadDeed x_UnknownName x_UnknownChannel x_NoSuchLetter x_NoSuchTick x_NotStrange x_NotShaky x_Unseen x_BandError x_Missing x_Refused x_Started_init x_UnknownHop_init x_Short_init x_BadAmount_init x_BadLink_init x_BadFlow_init x_BadAge_init x_BadPart_init x_TooMany_init x_DuplicateName_init x_Idle_init x_Overpromised_init x_Small_init x_BadText_init x_BadManner_init x_BadCapacity_init x_BadSharing_init x_BadBand_init x_Future_init x_BadValue_init x_BadState_init x_BadCount_init x_BadDeed_init x_UnknownName_init x_UnknownChannel_init x_NoSuchLetter_init x_NoSuchTick_init x_NotStrange_init x_NotShaky_init x_Unseen_init x_law_bag x_law_draw x_law_of x_law_taken x_law_last_made x_law_like x_law_odd x_law_word x_law_pair x_law_wide x_law_great x_law_amount x_law_first_made x_law_middle_made x_law_last_ones x_law_middle_ones x_law_first_ones x_law_known x_law_rows_so x_law_thrown x_law_missed x_law_refused fa x_cb_law x_tb_law) := ⟨PySem.W.mg_of X G a_law_bag, kp_law_bag, PySem.W.mg_of X G a_law_draw, kp_law_draw, PySem.W.mg_of X G a_law_of, kp_law_of, PySem.W.mg_of X G a_law_taken, kp_law_taken, PySem.W.mg_of X G a_law_last_made, kp_law_last_made, PySem.W.mg_of X G a_law_like, kp_law_like, PySem.W.mg_of X G a_law_odd, kp_law_odd, PySem.W.mg_of X G a_law_word, kp_law_word, PySem.W.mg_of X G a_law_pair, kp_law_pair, PySem.W.mg_of X G a_law_wide, kp_law_wide, PySem.W.mg_of X G a_law_great, kp_law_great, PySem.W.mg_of X G a_law_amount, kp_law_amount, PySem.W.mg_of X G a_law_first_made, kp_law_first_made, PySem.W.mg_of X G a_law_middle_made, kp_law_middle_made, PySem.W.mg_of X G a_law_last_ones, kp_law_last_ones, PySem.W.mg_of X G a_law_middle_ones, kp_law_middle_ones, PySem.W.mg_of X G a_law_first_ones, kp_law_first_ones, PySem.W.mg_of X G a_law_known, kp_law_known, PySem.W.mg_of X G a_law_rows_so, kp_law_rows_so, PySem.W.mg_of X G a_law_thrown, kp_law_thrown, PySem.W.mg_of X G a_law_missed, kp_law_missed, PySem.W.mg_of X G a_law_refused, kp_law_refused, exvk_of (PySem.W.mg_of X G a_BadAmount) lk_BadAmount yb_BadAmount, exvk_of (PySem.W.mg_of X G a_BadLink) lk_BadLink yb_BadLink, exvk_of (PySem.W.mg_of X G a_BadFlow) lk_BadFlow yb_BadFlow, exvk_of (PySem.W.mg_of X G a_BadAge) lk_BadAge yb_BadAge, exvk_of (PySem.W.mg_of X G a_BadPart) lk_BadPart yb_BadPart, exvk_of (PySem.W.mg_of X G a_TooMany) lk_TooMany yb_TooMany, exvk_of (PySem.W.mg_of X G a_DuplicateName) lk_DuplicateName yb_DuplicateName, exvk_of (PySem.W.mg_of X G a_Idle) lk_Idle yb_Idle, exvk_of (PySem.W.mg_of X G a_Overpromised) lk_Overpromised yb_Overpromised, exvk_of (PySem.W.mg_of X G a_Small) lk_Small yb_Small, exvk_of (PySem.W.mg_of X G a_BadText) lk_BadText yb_BadText, exvk_of (PySem.W.mg_of X G a_BadManner) lk_BadManner yb_BadManner, exvk_of (PySem.W.mg_of X G a_BadCapacity) lk_BadCapacity yb_BadCapacity, exvk_of (PySem.W.mg_of X G a_BadSharing) lk_BadSharing yb_BadSharing, exvk_of (PySem.W.mg_of X G a_BadBand) lk_BadBand yb_BadBand, ye_NotPlain, yq_NotPlain, exvk_of (PySem.W.mg_of X G a_Future) lk_Future yb_Future, exvk_of (PySem.W.mg_of X G a_Short) lk_Short yb_Short, exvk_of (PySem.W.mg_of X G a_BadValue) lk_BadValue yb_BadValue, exvk_of (PySem.W.mg_of X G a_BadState) lk_BadState yb_BadState, exvk_of (PySem.W.mg_of X G a_BadCount) lk_BadCount yb_BadCount, exvk_of (PySem.W.mg_of X G a_BadDeed) lk_BadDeed yb_BadDeed, exvk_of (PySem.W.mg_of X G a_UnknownName) lk_UnknownName yb_UnknownName, exvk_of (PySem.W.mg_of X G a_UnknownChannel) lk_UnknownChannel yb_UnknownChannel, exvk_of (PySem.W.mg_of X G a_UnknownHop) lk_UnknownHop yb_UnknownHop, exvk_of (PySem.W.mg_of X G a_NoSuchLetter) lk_NoSuchLetter yb_NoSuchLetter, exvk_of (PySem.W.mg_of X G a_NoSuchTick) lk_NoSuchTick yb_NoSuchTick, exvk_of (PySem.W.mg_of X G a_Started) lk_Started yb_Started, exvk_of (PySem.W.mg_of X G a_NotStrange) lk_NotStrange yb_NotStrange, exvk_of (PySem.W.mg_of X G a_NotShaky) lk_NotShaky yb_NotShaky, exvk_of (PySem.W.mg_of X G a_Unseen) lk_Unseen yb_Unseen, PySem.W.mg_of X G a_UnknownName, PySem.W.mg_of X G a_UnknownChannel, PySem.W.mg_of X G a_UnknownHop, PySem.W.mg_of X G a_NoSuchLetter, PySem.W.mg_of X G a_NoSuchTick, PySem.W.mg_of X G a_Started, PySem.W.mg_of X G a_NotStrange, PySem.W.mg_of X G a_NotShaky, PySem.W.mg_of X G a_Unseen, PySem.W.mg_of X G a_BadManner, PySem.W.mg_of X G a_BadCapacity, PySem.W.mg_of X G a_BadSharing, PySem.W.mg_of X G a_BadBand, PySem.W.mg_of X G a_NotPlain, PySem.W.mg_of X G a_Future, PySem.W.mg_of X G a_Short, PySem.W.mg_of X G a_BadValue, PySem.W.mg_of X G a_BadState, PySem.W.mg_of X G a_BadCount, PySem.W.mg_of X G a_BadDeed, PySem.W.mg_of X G a_BadAmount, PySem.W.mg_of X G a_BadLink, PySem.W.mg_of X G a_BadFlow, PySem.W.mg_of X G a_BadAge, PySem.W.mg_of X G a_BadPart, PySem.W.mg_of X G a_TooMany, PySem.W.mg_of X G a_DuplicateName, PySem.W.mg_of X G a_Idle, PySem.W.mg_of X G a_Overpromised, PySem.W.mg_of X G a_Small, PySem.W.mg_of X G a_BadText, PySem.W.mg_of X G a_BandError, PySem.W.mg_of X G a_Missing, PySem.W.mg_of X G a_Refused, yc, yt_UnknownName, yt_UnknownChannel, yt_UnknownHop, yt_NoSuchLetter, yt_NoSuchTick, yt_Started, yt_NotStrange, yt_NotShaky, yt_Unseen, yt_BadManner, yt_BadCapacity, yt_BadSharing, yt_BadBand, yt_NotPlain, yt_Future, yt_Short, yt_BadValue, yt_BadState, yt_BadCount, yt_BadDeed, yt_BadAmount, yt_BadLink, yt_BadFlow, yt_BadAge, yt_BadPart, yt_TooMany, yt_DuplicateName, yt_Idle, yt_Overpromised, yt_Small, yt_BadText, yt_BandError, yt_Missing, yt_Refused, yt_ValueError, yt_LookupError, yt_RuntimeError, yx_law_taken, PySem.W.mg_none_of X G z_int, PySem.W.mg_none_of X G z_list, PySem.W.mg_none_of X G z_len, PySem.W.mg_none_of X G z_isinstance, PySem.W.mg_none_of X G z_tuple, PySem.W.mg_none_of X G z_all, PySem.W.mg_none_of X G z_zip, PySem.W.mg_none_of X G z_bool, PySem.W.mg_none_of X G z_str, PySem.W.mg_none_of X G z_range, PySem.W.mg_none_of X G z_max, PySem.W.mg_none_of X G z_ValueError, PySem.W.mg_none_of X G z_LookupError, PySem.W.mg_none_of X G z_RuntimeError, PySem.W.mg_none_of X G z_sorted, ⟨PySem.W.mg_of X G a_Short, ⟨lk_Short, xs_Short, xb_Short, xt_Short, xp_Short⟩, ⟨xa_Short, xe_Short, xb_Short, xd_Short⟩, ⟨xa_Short, xe_Short, xb_Short, xd_Short, xc_Short, ihn, iht, xo_Short⟩, xf_Short, xi_Short, xy_Short⟩, ⟨PySem.W.mg_of X G a_UnknownHop, ⟨lk_UnknownHop, xs_UnknownHop, xb_UnknownHop, xt_UnknownHop, xp_UnknownHop⟩, ⟨xa_UnknownHop, xe_UnknownHop, xb_UnknownHop, xd_UnknownHop⟩, ⟨xa_UnknownHop, xe_UnknownHop, xb_UnknownHop, xd_UnknownHop, xc_UnknownHop, ihn, iht, xo_UnknownHop⟩, xf_UnknownHop, xi_UnknownHop, xy_UnknownHop⟩, ⟨PySem.W.mg_of X G a_Started, ⟨lk_Started, xs_Started, xb_Started, xt_Started, xp_Started⟩, ⟨xa_Started, xe_Started, xb_Started, xd_Started⟩, ⟨xa_Started, xe_Started, xb_Started, xd_Started, xc_Started, ihn, iht, xo_Started⟩, xf_Started, xi_Started, xy_Started⟩, PySem.W.mg_of X G a_Short, PySem.W.mg_of X G a_UnknownHop, PySem.W.mg_of X G a_Started, PySem.W.mg_of X G a_BadAmount, PySem.W.mg_of X G a_BadLink, PySem.W.mg_of X G a_BadFlow, PySem.W.mg_of X G a_BadAge, PySem.W.mg_of X G a_BadPart, PySem.W.mg_of X G a_TooMany, PySem.W.mg_of X G a_DuplicateName, PySem.W.mg_of X G a_Idle, PySem.W.mg_of X G a_Overpromised, PySem.W.mg_of X G a_Small, PySem.W.mg_of X G a_BadText, PySem.W.mg_of X G a_BadManner, PySem.W.mg_of X G a_BadCapacity, PySem.W.mg_of X G a_BadSharing, PySem.W.mg_of X G a_BadBand, PySem.W.mg_of X G a_NotPlain, PySem.W.mg_of X G a_Future, PySem.W.mg_of X G a_BadValue, PySem.W.mg_of X G a_BadState, PySem.W.mg_of X G a_BadCount, PySem.W.mg_of X G a_BadDeed, PySem.W.mg_of X G a_UnknownName, PySem.W.mg_of X G a_UnknownChannel, PySem.W.mg_of X G a_NoSuchLetter, PySem.W.mg_of X G a_NoSuchTick, PySem.W.mg_of X G a_NotStrange, PySem.W.mg_of X G a_NotShaky, PySem.W.mg_of X G a_Unseen, PySem.W.mg_of X G a_BandError, PySem.W.mg_of X G a_Missing, PySem.W.mg_of X G a_Refused⟩
  have F_Started_init := fun_mk (st := s_Started_init) l_Started_init co_Started_init kp_Started_init
  have F_UnknownHop_init := fun_mk (st := s_UnknownHop_init) l_UnknownHop_init co_UnknownHop_init kp_UnknownHop_init
  have F_Short_init := fun_mk (st := s_Short_init) l_Short_init co_Short_init kp_Short_init
  have F_BadAmount_init := fun_mk (st := s_BadAmount_init) l_BadAmount_init co_BadAmount_init kp_BadAmount_init
  have F_BadLink_init := fun_mk (st := s_BadLink_init) l_BadLink_init co_BadLink_init kp_BadLink_init
  have F_BadFlow_init := fun_mk (st := s_BadFlow_init) l_BadFlow_init co_BadFlow_init kp_BadFlow_init
  have F_BadAge_init := fun_mk (st := s_BadAge_init) l_BadAge_init co_BadAge_init kp_BadAge_init
  have F_BadPart_init := fun_mk (st := s_BadPart_init) l_BadPart_init co_BadPart_init kp_BadPart_init
  have F_TooMany_init := fun_mk (st := s_TooMany_init) l_TooMany_init co_TooMany_init kp_TooMany_init
  have F_DuplicateName_init := fun_mk (st := s_DuplicateName_init) l_DuplicateName_init co_DuplicateName_init kp_DuplicateName_init
  have F_Idle_init := fun_mk (st := s_Idle_init) l_Idle_init co_Idle_init kp_Idle_init
  have F_Overpromised_init := fun_mk (st := s_Overpromised_init) l_Overpromised_init co_Overpromised_init kp_Overpromised_init
  have F_Small_init := fun_mk (st := s_Small_init) l_Small_init co_Small_init kp_Small_init
  have F_BadText_init := fun_mk (st := s_BadText_init) l_BadText_init co_BadText_init kp_BadText_init
  have F_BadManner_init := fun_mk (st := s_BadManner_init) l_BadManner_init co_BadManner_init kp_BadManner_init
  have F_BadCapacity_init := fun_mk (st := s_BadCapacity_init) l_BadCapacity_init co_BadCapacity_init kp_BadCapacity_init
  have F_BadSharing_init := fun_mk (st := s_BadSharing_init) l_BadSharing_init co_BadSharing_init kp_BadSharing_init
  have F_BadBand_init := fun_mk (st := s_BadBand_init) l_BadBand_init co_BadBand_init kp_BadBand_init
  have F_Future_init := fun_mk (st := s_Future_init) l_Future_init co_Future_init kp_Future_init
  have F_BadValue_init := fun_mk (st := s_BadValue_init) l_BadValue_init co_BadValue_init kp_BadValue_init
  have F_BadState_init := fun_mk (st := s_BadState_init) l_BadState_init co_BadState_init kp_BadState_init
  have F_BadCount_init := fun_mk (st := s_BadCount_init) l_BadCount_init co_BadCount_init kp_BadCount_init
  have F_BadDeed_init := fun_mk (st := s_BadDeed_init) l_BadDeed_init co_BadDeed_init kp_BadDeed_init
  have F_UnknownName_init := fun_mk (st := s_UnknownName_init) l_UnknownName_init co_UnknownName_init kp_UnknownName_init
  have F_UnknownChannel_init := fun_mk (st := s_UnknownChannel_init) l_UnknownChannel_init co_UnknownChannel_init kp_UnknownChannel_init
  have F_NoSuchLetter_init := fun_mk (st := s_NoSuchLetter_init) l_NoSuchLetter_init co_NoSuchLetter_init kp_NoSuchLetter_init
  have F_NoSuchTick_init := fun_mk (st := s_NoSuchTick_init) l_NoSuchTick_init co_NoSuchTick_init kp_NoSuchTick_init
  have F_NotStrange_init := fun_mk (st := s_NotStrange_init) l_NotStrange_init co_NotStrange_init kp_NotStrange_init
  have F_NotShaky_init := fun_mk (st := s_NotShaky_init) l_NotShaky_init co_NotShaky_init kp_NotShaky_init
  have F_Unseen_init := fun_mk (st := s_Unseen_init) l_Unseen_init co_Unseen_init kp_Unseen_init
  have F_law_bag := fun_mk (st := s_law_bag) l_law_bag co_law_bag kp_law_bag
  have F_law_draw := fun_mk (st := s_law_draw) l_law_draw co_law_draw kp_law_draw
  have F_law_of := fun_mk (st := s_law_of) l_law_of co_law_of kp_law_of
  have F_law_taken := fun_mk (st := s_law_taken) l_law_taken co_law_taken kp_law_taken
  have F_law_last_made := fun_mk (st := s_law_last_made) l_law_last_made co_law_last_made kp_law_last_made
  have F_law_like := fun_mk (st := s_law_like) l_law_like co_law_like kp_law_like
  have F_law_odd := fun_mk (st := s_law_odd) l_law_odd co_law_odd kp_law_odd
  have F_law_word := fun_mk (st := s_law_word) l_law_word co_law_word kp_law_word
  have F_law_pair := fun_mk (st := s_law_pair) l_law_pair co_law_pair kp_law_pair
  have F_law_wide := fun_mk (st := s_law_wide) l_law_wide co_law_wide kp_law_wide
  have F_law_great := fun_mk (st := s_law_great) l_law_great co_law_great kp_law_great
  have F_law_amount := fun_mk (st := s_law_amount) l_law_amount co_law_amount kp_law_amount
  have F_law_first_made := fun_mk (st := s_law_first_made) l_law_first_made co_law_first_made kp_law_first_made
  have F_law_middle_made := fun_mk (st := s_law_middle_made) l_law_middle_made co_law_middle_made kp_law_middle_made
  have F_law_last_ones := fun_mk (st := s_law_last_ones) l_law_last_ones co_law_last_ones kp_law_last_ones
  have F_law_middle_ones := fun_mk (st := s_law_middle_ones) l_law_middle_ones co_law_middle_ones kp_law_middle_ones
  have F_law_first_ones := fun_mk (st := s_law_first_ones) l_law_first_ones co_law_first_ones kp_law_first_ones
  have F_law_known := fun_mk (st := s_law_known) l_law_known co_law_known kp_law_known
  have F_law_rows_so := fun_mk (st := s_law_rows_so) l_law_rows_so co_law_rows_so kp_law_rows_so
  have F_law_thrown := fun_mk (st := s_law_thrown) l_law_thrown co_law_thrown kp_law_thrown
  have F_law_missed := fun_mk (st := s_law_missed) l_law_missed co_law_missed kp_law_missed
  have F_law_refused := fun_mk (st := s_law_refused) l_law_refused co_law_refused kp_law_refused
  have F_law := fun_mk (st := s_law) l_law co_law kp_law
  have b_Started_init := F_Started_init.binds (ps := ["self", "tick"]) fun _ _ _ _ _ _ us hl => match us, hl with | [_, _], _ => rfl
  have b_UnknownHop_init := F_UnknownHop_init.binds (ps := ["self", "hop"]) fun _ _ _ _ _ _ us hl => match us, hl with | [_, _], _ => rfl
  have b_Short_init := F_Short_init.binds (ps := ["self", "amount"]) fun _ _ _ _ _ _ us hl => match us, hl with | [_, _], _ => rfl
  have b_BadAmount_init := F_BadAmount_init.binds (ps := ["self", "value"]) fun _ _ _ _ _ _ us hl => match us, hl with | [_, _], _ => rfl
  have b_BadLink_init := F_BadLink_init.binds (ps := ["self", "what"]) fun _ _ _ _ _ _ us hl => match us, hl with | [_, _], _ => rfl
  have b_BadFlow_init := F_BadFlow_init.binds (ps := ["self", "what"]) fun _ _ _ _ _ _ us hl => match us, hl with | [_, _], _ => rfl
  have b_BadAge_init := F_BadAge_init.binds (ps := ["self", "age"]) fun _ _ _ _ _ _ us hl => match us, hl with | [_, _], _ => rfl
  have b_BadPart_init := F_BadPart_init.binds (ps := ["self", "at"]) fun _ _ _ _ _ _ us hl => match us, hl with | [_, _], _ => rfl
  have b_TooMany_init := F_TooMany_init.binds (ps := ["self", "what", "count"]) fun _ _ _ _ _ _ us hl => match us, hl with | [_, _, _], _ => rfl
  have b_DuplicateName_init := F_DuplicateName_init.binds (ps := ["self", "name"]) fun _ _ _ _ _ _ us hl => match us, hl with | [_, _], _ => rfl
  have b_Idle_init := F_Idle_init.binds (ps := ["self", "link"]) fun _ _ _ _ _ _ us hl => match us, hl with | [_, _], _ => rfl
  have b_Overpromised_init := F_Overpromised_init.binds (ps := ["self", "link", "over"]) fun _ _ _ _ _ _ us hl => match us, hl with | [_, _, _], _ => rfl
  have b_Small_init := F_Small_init.binds (ps := ["self", "flow", "link"]) fun _ _ _ _ _ _ us hl => match us, hl with | [_, _, _], _ => rfl
  have b_BadText_init := F_BadText_init.binds (ps := ["self", "line", "word"]) fun _ _ _ _ _ _ us hl => match us, hl with | [_, _, _], _ => rfl
  have b_BadManner_init := F_BadManner_init.binds (ps := ["self", "flow"]) fun _ _ _ _ _ _ us hl => match us, hl with | [_, _], _ => rfl
  have b_BadCapacity_init := F_BadCapacity_init.binds (ps := ["self", "link"]) fun _ _ _ _ _ _ us hl => match us, hl with | [_, _], _ => rfl
  have b_BadSharing_init := F_BadSharing_init.binds (ps := ["self", "name"]) fun _ _ _ _ _ _ us hl => match us, hl with | [_, _], _ => rfl
  have b_BadBand_init := F_BadBand_init.binds (ps := ["self", "link"]) fun _ _ _ _ _ _ us hl => match us, hl with | [_, _], _ => rfl
  have b_Future_init := F_Future_init.binds (ps := ["self", "tick"]) fun _ _ _ _ _ _ us hl => match us, hl with | [_, _], _ => rfl
  have b_BadValue_init := F_BadValue_init.binds (ps := ["self", "channel"]) fun _ _ _ _ _ _ us hl => match us, hl with | [_, _], _ => rfl
  have b_BadState_init := F_BadState_init.binds (ps := ["self", "what", "at"]) fun _ _ _ _ _ _ us hl => match us, hl with | [_, _, _], _ => rfl
  have b_BadCount_init := F_BadCount_init.binds (ps := ["self", "value"]) fun _ _ _ _ _ _ us hl => match us, hl with | [_, _], _ => rfl
  have b_BadDeed_init := F_BadDeed_init.binds (ps := ["self", "at"]) fun _ _ _ _ _ _ us hl => match us, hl with | [_, _], _ => rfl
  have b_UnknownName_init := F_UnknownName_init.binds (ps := ["self", "name"]) fun _ _ _ _ _ _ us hl => match us, hl with | [_, _], _ => rfl
  have b_UnknownChannel_init := F_UnknownChannel_init.binds (ps := ["self", "channel"]) fun _ _ _ _ _ _ us hl => match us, hl with | [_, _], _ => rfl
  have b_NoSuchLetter_init := F_NoSuchLetter_init.binds (ps := ["self", "number"]) fun _ _ _ _ _ _ us hl => match us, hl with | [_, _], _ => rfl
  have b_NoSuchTick_init := F_NoSuchTick_init.binds (ps := ["self", "tick"]) fun _ _ _ _ _ _ us hl => match us, hl with | [_, _], _ => rfl
  have b_NotStrange_init := F_NotStrange_init.binds (ps := ["self", "name"]) fun _ _ _ _ _ _ us hl => match us, hl with | [_, _], _ => rfl
  have b_NotShaky_init := F_NotShaky_init.binds (ps := ["self", "link"]) fun _ _ _ _ _ _ us hl => match us, hl with | [_, _], _ => rfl
  have b_Unseen_init := F_Unseen_init.binds (ps := ["self", "flow"]) fun _ _ _ _ _ _ us hl => match us, hl with | [_, _], _ => rfl
  have b_law_bag := F_law_bag.binds (ps := ["_law_script"]) fun _ _ _ _ _ _ us hl => match us, hl with | [_], _ => rfl
  have b_law_draw := F_law_draw.binds (ps := ["_law_bag_here", "_law_many"]) fun _ _ _ _ _ _ us hl => match us, hl with | [_, _], _ => rfl
  have b_law_of := F_law_of.binds (ps := ["_law_bag_here", "_law_things"]) fun _ _ _ _ _ _ us hl => match us, hl with | [_, _], _ => rfl
  have b_law_taken := F_law_taken.binds (ps := ["_law_deed"]) fun _ _ _ _ _ _ us hl => match us, hl with | [_], _ => rfl
  have b_law_last_made := F_law_last_made.binds (ps := ["_law_x", "_law_y"]) fun _ _ _ _ _ _ us hl => match us, hl with | [_, _], _ => rfl
  have b_law_like := F_law_like.binds (ps := ["_law_told", "_law_due"]) fun _ _ _ _ _ _ us hl => match us, hl with | [_, _], _ => rfl
  have b_law_odd := F_law_odd.binds (ps := ["_law_bag_here"]) fun _ _ _ _ _ _ us hl => match us, hl with | [_], _ => rfl
  have b_law_word := F_law_word.binds (ps := ["_law_bag_here"]) fun _ _ _ _ _ _ us hl => match us, hl with | [_], _ => rfl
  have b_law_pair := F_law_pair.binds (ps := ["_law_a", "_law_b"]) fun _ _ _ _ _ _ us hl => match us, hl with | [_, _], _ => rfl
  have b_law_wide := F_law_wide.binds (ps := ["_law_bag_here", "_law_figures"]) fun _ _ _ _ _ _ us hl => match us, hl with | [_, _], _ => rfl
  have b_law_great := F_law_great.binds (ps := ["_law_bag_here"]) fun _ _ _ _ _ _ us hl => match us, hl with | [_], _ => rfl
  have b_law_amount := F_law_amount.binds (ps := ["_law_bag_here"]) fun _ _ _ _ _ _ us hl => match us, hl with | [_], _ => rfl
  have b_law_first_made := F_law_first_made.binds (ps := ["_law_x", "_law_y"]) fun _ _ _ _ _ _ us hl => match us, hl with | [_, _], _ => rfl
  have b_law_middle_made := F_law_middle_made.binds (ps := ["_law_x", "_law_y"]) fun _ _ _ _ _ _ us hl => match us, hl with | [_, _], _ => rfl
  have b_law_last_ones := F_law_last_ones.binds (ps := ["_law_error"]) fun _ _ _ _ _ _ us hl => match us, hl with | [_], _ => rfl
  have b_law_middle_ones := F_law_middle_ones.binds (ps := ["_law_error"]) fun _ _ _ _ _ _ us hl => match us, hl with | [_], _ => rfl
  have b_law_first_ones := F_law_first_ones.binds (ps := ["_law_error"]) fun _ _ _ _ _ _ us hl => match us, hl with | [_], _ => rfl
  have b_law_known := F_law_known.binds (ps := ["_law_error"]) fun _ _ _ _ _ _ us hl => match us, hl with | [_], _ => rfl
  have b_law_rows_so := F_law_rows_so.binds (ps := ["_law_rows", "_law_x", "_law_y"]) fun _ _ _ _ _ _ us hl => match us, hl with | [_, _, _], _ => rfl
  have b_law_thrown := F_law_thrown.binds (ps := ["_law_x"]) fun _ _ _ _ _ _ us hl => match us, hl with | [_], _ => rfl
  have b_law_missed := F_law_missed.binds (ps := ["_law_x"]) fun _ _ _ _ _ _ us hl => match us, hl with | [_], _ => rfl
  have b_law_refused := F_law_refused.binds (ps := ["_law_x"]) fun _ _ _ _ _ _ us hl => match us, hl with | [_], _ => rfl
  refine ⟨PySem.W.fnOf "law" "law" (defArgs s_law) (defBody s_law) (defScope s_law) .none kV_law dc_law pm_law an_law cd_law ct_law, [(x_cb_law, x_tb_law)], (by intro p hp; simp only [List.mem_cons, List.not_mem_nil, or_false] at hp; rcases hp with rfl <;> first | exact tb_law), (by intro p hp; simp only [List.mem_cons, List.not_mem_nil, or_false] at hp; rcases hp with rfl <;> first | exact tn_law), (by intro p hp; simp only [List.mem_cons, List.not_mem_nil, or_false] at hp; rcases hp with rfl <;> first | exact tc_law), fun s v => .of_eq rfl, fun base _ _ TBs => ?_⟩
  have TB_law := TBs (x_cb_law, x_tb_law) (by simp)
  have V_Started := vx_Started (P := l.prog) (w := w) (base := base) T F_Started_init (kwm_of (K := K) (fd := PySem.W.fnOf "__init__" "Started.__init__" (defArgs s_Started_init) (defBody s_Started_init) (defScope s_Started_init) .none kV_Started_init dc_Started_init pm_Started_init an_Started_init cd_Started_init ct_Started_init) (ps := ["self", "tick"]) (ks := []) (n := 1) (is := [0, 1]) (by intro us ws h1 h2; match us, ws, h1, h2 with | [_, _], [], _, _ => rfl)) (kwm_of (K := K) (fd := PySem.W.fnOf "__init__" "Started.__init__" (defArgs s_Started_init) (defBody s_Started_init) (defScope s_Started_init) .none kV_Started_init dc_Started_init pm_Started_init an_Started_init cd_Started_init ct_Started_init) (ps := ["self", "tick"]) (ks := ["tick"]) (n := 0) (is := [0, 1]) (by intro us ws h1 h2; match us, ws, h1, h2 with | [_], [_], _, _ => rfl))
  have X_Started := ex_Started (P := l.prog) (w := w) (base := base) T F_Started_init b_Started_init
  have V_UnknownHop := vx_UnknownHop (P := l.prog) (w := w) (base := base) T F_UnknownHop_init (kwm_of (K := K) (fd := PySem.W.fnOf "__init__" "UnknownHop.__init__" (defArgs s_UnknownHop_init) (defBody s_UnknownHop_init) (defScope s_UnknownHop_init) .none kV_UnknownHop_init dc_UnknownHop_init pm_UnknownHop_init an_UnknownHop_init cd_UnknownHop_init ct_UnknownHop_init) (ps := ["self", "hop"]) (ks := []) (n := 1) (is := [0, 1]) (by intro us ws h1 h2; match us, ws, h1, h2 with | [_, _], [], _, _ => rfl)) (kwm_of (K := K) (fd := PySem.W.fnOf "__init__" "UnknownHop.__init__" (defArgs s_UnknownHop_init) (defBody s_UnknownHop_init) (defScope s_UnknownHop_init) .none kV_UnknownHop_init dc_UnknownHop_init pm_UnknownHop_init an_UnknownHop_init cd_UnknownHop_init ct_UnknownHop_init) (ps := ["self", "hop"]) (ks := ["hop"]) (n := 0) (is := [0, 1]) (by intro us ws h1 h2; match us, ws, h1, h2 with | [_], [_], _, _ => rfl))
  have X_UnknownHop := ex_UnknownHop (P := l.prog) (w := w) (base := base) T F_UnknownHop_init b_UnknownHop_init
  have V_Short := vx_Short (P := l.prog) (w := w) (base := base) T F_Short_init (kwm_of (K := K) (fd := PySem.W.fnOf "__init__" "Short.__init__" (defArgs s_Short_init) (defBody s_Short_init) (defScope s_Short_init) .none kV_Short_init dc_Short_init pm_Short_init an_Short_init cd_Short_init ct_Short_init) (ps := ["self", "amount"]) (ks := []) (n := 1) (is := [0, 1]) (by intro us ws h1 h2; match us, ws, h1, h2 with | [_, _], [], _, _ => rfl)) (kwm_of (K := K) (fd := PySem.W.fnOf "__init__" "Short.__init__" (defArgs s_Short_init) (defBody s_Short_init) (defScope s_Short_init) .none kV_Short_init dc_Short_init pm_Short_init an_Short_init cd_Short_init ct_Short_init) (ps := ["self", "amount"]) (ks := ["amount"]) (n := 0) (is := [0, 1]) (by intro us ws h1 h2; match us, ws, h1, h2 with | [_], [_], _, _ => rfl))
  have X_Short := ex_Short (P := l.prog) (w := w) (base := base) T F_Short_init b_Short_init
  have V_BadAmount := vx_BadAmount (P := l.prog) (w := w) (base := base) T F_BadAmount_init (kwm_of (K := K) (fd := PySem.W.fnOf "__init__" "BadAmount.__init__" (defArgs s_BadAmount_init) (defBody s_BadAmount_init) (defScope s_BadAmount_init) .none kV_BadAmount_init dc_BadAmount_init pm_BadAmount_init an_BadAmount_init cd_BadAmount_init ct_BadAmount_init) (ps := ["self", "value"]) (ks := []) (n := 1) (is := [0, 1]) (by intro us ws h1 h2; match us, ws, h1, h2 with | [_, _], [], _, _ => rfl)) (kwm_of (K := K) (fd := PySem.W.fnOf "__init__" "BadAmount.__init__" (defArgs s_BadAmount_init) (defBody s_BadAmount_init) (defScope s_BadAmount_init) .none kV_BadAmount_init dc_BadAmount_init pm_BadAmount_init an_BadAmount_init cd_BadAmount_init ct_BadAmount_init) (ps := ["self", "value"]) (ks := ["value"]) (n := 0) (is := [0, 1]) (by intro us ws h1 h2; match us, ws, h1, h2 with | [_], [_], _, _ => rfl))
  have V_BadLink := vx_BadLink (P := l.prog) (w := w) (base := base) T F_BadLink_init (kwm_of (K := K) (fd := PySem.W.fnOf "__init__" "BadLink.__init__" (defArgs s_BadLink_init) (defBody s_BadLink_init) (defScope s_BadLink_init) .none kV_BadLink_init dc_BadLink_init pm_BadLink_init an_BadLink_init cd_BadLink_init ct_BadLink_init) (ps := ["self", "what"]) (ks := []) (n := 1) (is := [0, 1]) (by intro us ws h1 h2; match us, ws, h1, h2 with | [_, _], [], _, _ => rfl)) (kwm_of (K := K) (fd := PySem.W.fnOf "__init__" "BadLink.__init__" (defArgs s_BadLink_init) (defBody s_BadLink_init) (defScope s_BadLink_init) .none kV_BadLink_init dc_BadLink_init pm_BadLink_init an_BadLink_init cd_BadLink_init ct_BadLink_init) (ps := ["self", "what"]) (ks := ["what"]) (n := 0) (is := [0, 1]) (by intro us ws h1 h2; match us, ws, h1, h2 with | [_], [_], _, _ => rfl))
  have V_BadFlow := vx_BadFlow (P := l.prog) (w := w) (base := base) T F_BadFlow_init (kwm_of (K := K) (fd := PySem.W.fnOf "__init__" "BadFlow.__init__" (defArgs s_BadFlow_init) (defBody s_BadFlow_init) (defScope s_BadFlow_init) .none kV_BadFlow_init dc_BadFlow_init pm_BadFlow_init an_BadFlow_init cd_BadFlow_init ct_BadFlow_init) (ps := ["self", "what"]) (ks := []) (n := 1) (is := [0, 1]) (by intro us ws h1 h2; match us, ws, h1, h2 with | [_, _], [], _, _ => rfl)) (kwm_of (K := K) (fd := PySem.W.fnOf "__init__" "BadFlow.__init__" (defArgs s_BadFlow_init) (defBody s_BadFlow_init) (defScope s_BadFlow_init) .none kV_BadFlow_init dc_BadFlow_init pm_BadFlow_init an_BadFlow_init cd_BadFlow_init ct_BadFlow_init) (ps := ["self", "what"]) (ks := ["what"]) (n := 0) (is := [0, 1]) (by intro us ws h1 h2; match us, ws, h1, h2 with | [_], [_], _, _ => rfl))
  have V_BadAge := vx_BadAge (P := l.prog) (w := w) (base := base) T F_BadAge_init (kwm_of (K := K) (fd := PySem.W.fnOf "__init__" "BadAge.__init__" (defArgs s_BadAge_init) (defBody s_BadAge_init) (defScope s_BadAge_init) .none kV_BadAge_init dc_BadAge_init pm_BadAge_init an_BadAge_init cd_BadAge_init ct_BadAge_init) (ps := ["self", "age"]) (ks := []) (n := 1) (is := [0, 1]) (by intro us ws h1 h2; match us, ws, h1, h2 with | [_, _], [], _, _ => rfl)) (kwm_of (K := K) (fd := PySem.W.fnOf "__init__" "BadAge.__init__" (defArgs s_BadAge_init) (defBody s_BadAge_init) (defScope s_BadAge_init) .none kV_BadAge_init dc_BadAge_init pm_BadAge_init an_BadAge_init cd_BadAge_init ct_BadAge_init) (ps := ["self", "age"]) (ks := ["age"]) (n := 0) (is := [0, 1]) (by intro us ws h1 h2; match us, ws, h1, h2 with | [_], [_], _, _ => rfl))
  have V_BadPart := vx_BadPart (P := l.prog) (w := w) (base := base) T F_BadPart_init (kwm_of (K := K) (fd := PySem.W.fnOf "__init__" "BadPart.__init__" (defArgs s_BadPart_init) (defBody s_BadPart_init) (defScope s_BadPart_init) .none kV_BadPart_init dc_BadPart_init pm_BadPart_init an_BadPart_init cd_BadPart_init ct_BadPart_init) (ps := ["self", "at"]) (ks := []) (n := 1) (is := [0, 1]) (by intro us ws h1 h2; match us, ws, h1, h2 with | [_, _], [], _, _ => rfl)) (kwm_of (K := K) (fd := PySem.W.fnOf "__init__" "BadPart.__init__" (defArgs s_BadPart_init) (defBody s_BadPart_init) (defScope s_BadPart_init) .none kV_BadPart_init dc_BadPart_init pm_BadPart_init an_BadPart_init cd_BadPart_init ct_BadPart_init) (ps := ["self", "at"]) (ks := ["at"]) (n := 0) (is := [0, 1]) (by intro us ws h1 h2; match us, ws, h1, h2 with | [_], [_], _, _ => rfl))
  have V_TooMany := vx_TooMany (P := l.prog) (w := w) (base := base) T F_TooMany_init (kwm_of (K := K) (fd := PySem.W.fnOf "__init__" "TooMany.__init__" (defArgs s_TooMany_init) (defBody s_TooMany_init) (defScope s_TooMany_init) .none kV_TooMany_init dc_TooMany_init pm_TooMany_init an_TooMany_init cd_TooMany_init ct_TooMany_init) (ps := ["self", "what", "count"]) (ks := []) (n := 2) (is := [0, 1, 2]) (by intro us ws h1 h2; match us, ws, h1, h2 with | [_, _, _], [], _, _ => rfl)) (kwm_of (K := K) (fd := PySem.W.fnOf "__init__" "TooMany.__init__" (defArgs s_TooMany_init) (defBody s_TooMany_init) (defScope s_TooMany_init) .none kV_TooMany_init dc_TooMany_init pm_TooMany_init an_TooMany_init cd_TooMany_init ct_TooMany_init) (ps := ["self", "what", "count"]) (ks := ["count", "what"]) (n := 0) (is := [0, 2, 1]) (by intro us ws h1 h2; match us, ws, h1, h2 with | [_], [_, _], _, _ => rfl))
  have V_DuplicateName := vx_DuplicateName (P := l.prog) (w := w) (base := base) T F_DuplicateName_init (kwm_of (K := K) (fd := PySem.W.fnOf "__init__" "DuplicateName.__init__" (defArgs s_DuplicateName_init) (defBody s_DuplicateName_init) (defScope s_DuplicateName_init) .none kV_DuplicateName_init dc_DuplicateName_init pm_DuplicateName_init an_DuplicateName_init cd_DuplicateName_init ct_DuplicateName_init) (ps := ["self", "name"]) (ks := []) (n := 1) (is := [0, 1]) (by intro us ws h1 h2; match us, ws, h1, h2 with | [_, _], [], _, _ => rfl)) (kwm_of (K := K) (fd := PySem.W.fnOf "__init__" "DuplicateName.__init__" (defArgs s_DuplicateName_init) (defBody s_DuplicateName_init) (defScope s_DuplicateName_init) .none kV_DuplicateName_init dc_DuplicateName_init pm_DuplicateName_init an_DuplicateName_init cd_DuplicateName_init ct_DuplicateName_init) (ps := ["self", "name"]) (ks := ["name"]) (n := 0) (is := [0, 1]) (by intro us ws h1 h2; match us, ws, h1, h2 with | [_], [_], _, _ => rfl))
  have V_Idle := vx_Idle (P := l.prog) (w := w) (base := base) T F_Idle_init (kwm_of (K := K) (fd := PySem.W.fnOf "__init__" "Idle.__init__" (defArgs s_Idle_init) (defBody s_Idle_init) (defScope s_Idle_init) .none kV_Idle_init dc_Idle_init pm_Idle_init an_Idle_init cd_Idle_init ct_Idle_init) (ps := ["self", "link"]) (ks := []) (n := 1) (is := [0, 1]) (by intro us ws h1 h2; match us, ws, h1, h2 with | [_, _], [], _, _ => rfl)) (kwm_of (K := K) (fd := PySem.W.fnOf "__init__" "Idle.__init__" (defArgs s_Idle_init) (defBody s_Idle_init) (defScope s_Idle_init) .none kV_Idle_init dc_Idle_init pm_Idle_init an_Idle_init cd_Idle_init ct_Idle_init) (ps := ["self", "link"]) (ks := ["link"]) (n := 0) (is := [0, 1]) (by intro us ws h1 h2; match us, ws, h1, h2 with | [_], [_], _, _ => rfl))
  have V_Overpromised := vx_Overpromised (P := l.prog) (w := w) (base := base) T F_Overpromised_init (kwm_of (K := K) (fd := PySem.W.fnOf "__init__" "Overpromised.__init__" (defArgs s_Overpromised_init) (defBody s_Overpromised_init) (defScope s_Overpromised_init) .none kV_Overpromised_init dc_Overpromised_init pm_Overpromised_init an_Overpromised_init cd_Overpromised_init ct_Overpromised_init) (ps := ["self", "link", "over"]) (ks := []) (n := 2) (is := [0, 1, 2]) (by intro us ws h1 h2; match us, ws, h1, h2 with | [_, _, _], [], _, _ => rfl)) (kwm_of (K := K) (fd := PySem.W.fnOf "__init__" "Overpromised.__init__" (defArgs s_Overpromised_init) (defBody s_Overpromised_init) (defScope s_Overpromised_init) .none kV_Overpromised_init dc_Overpromised_init pm_Overpromised_init an_Overpromised_init cd_Overpromised_init ct_Overpromised_init) (ps := ["self", "link", "over"]) (ks := ["over", "link"]) (n := 0) (is := [0, 2, 1]) (by intro us ws h1 h2; match us, ws, h1, h2 with | [_], [_, _], _, _ => rfl))
  have V_Small := vx_Small (P := l.prog) (w := w) (base := base) T F_Small_init (kwm_of (K := K) (fd := PySem.W.fnOf "__init__" "Small.__init__" (defArgs s_Small_init) (defBody s_Small_init) (defScope s_Small_init) .none kV_Small_init dc_Small_init pm_Small_init an_Small_init cd_Small_init ct_Small_init) (ps := ["self", "flow", "link"]) (ks := []) (n := 2) (is := [0, 1, 2]) (by intro us ws h1 h2; match us, ws, h1, h2 with | [_, _, _], [], _, _ => rfl)) (kwm_of (K := K) (fd := PySem.W.fnOf "__init__" "Small.__init__" (defArgs s_Small_init) (defBody s_Small_init) (defScope s_Small_init) .none kV_Small_init dc_Small_init pm_Small_init an_Small_init cd_Small_init ct_Small_init) (ps := ["self", "flow", "link"]) (ks := ["link", "flow"]) (n := 0) (is := [0, 2, 1]) (by intro us ws h1 h2; match us, ws, h1, h2 with | [_], [_, _], _, _ => rfl))
  have V_BadText := vx_BadText (P := l.prog) (w := w) (base := base) T F_BadText_init (kwm_of (K := K) (fd := PySem.W.fnOf "__init__" "BadText.__init__" (defArgs s_BadText_init) (defBody s_BadText_init) (defScope s_BadText_init) .none kV_BadText_init dc_BadText_init pm_BadText_init an_BadText_init cd_BadText_init ct_BadText_init) (ps := ["self", "line", "word"]) (ks := []) (n := 2) (is := [0, 1, 2]) (by intro us ws h1 h2; match us, ws, h1, h2 with | [_, _, _], [], _, _ => rfl)) (kwm_of (K := K) (fd := PySem.W.fnOf "__init__" "BadText.__init__" (defArgs s_BadText_init) (defBody s_BadText_init) (defScope s_BadText_init) .none kV_BadText_init dc_BadText_init pm_BadText_init an_BadText_init cd_BadText_init ct_BadText_init) (ps := ["self", "line", "word"]) (ks := ["word", "line"]) (n := 0) (is := [0, 2, 1]) (by intro us ws h1 h2; match us, ws, h1, h2 with | [_], [_, _], _, _ => rfl))
  have V_BadManner := vx_BadManner (P := l.prog) (w := w) (base := base) T F_BadManner_init (kwm_of (K := K) (fd := PySem.W.fnOf "__init__" "BadManner.__init__" (defArgs s_BadManner_init) (defBody s_BadManner_init) (defScope s_BadManner_init) .none kV_BadManner_init dc_BadManner_init pm_BadManner_init an_BadManner_init cd_BadManner_init ct_BadManner_init) (ps := ["self", "flow"]) (ks := []) (n := 1) (is := [0, 1]) (by intro us ws h1 h2; match us, ws, h1, h2 with | [_, _], [], _, _ => rfl)) (kwm_of (K := K) (fd := PySem.W.fnOf "__init__" "BadManner.__init__" (defArgs s_BadManner_init) (defBody s_BadManner_init) (defScope s_BadManner_init) .none kV_BadManner_init dc_BadManner_init pm_BadManner_init an_BadManner_init cd_BadManner_init ct_BadManner_init) (ps := ["self", "flow"]) (ks := ["flow"]) (n := 0) (is := [0, 1]) (by intro us ws h1 h2; match us, ws, h1, h2 with | [_], [_], _, _ => rfl))
  have V_BadCapacity := vx_BadCapacity (P := l.prog) (w := w) (base := base) T F_BadCapacity_init (kwm_of (K := K) (fd := PySem.W.fnOf "__init__" "BadCapacity.__init__" (defArgs s_BadCapacity_init) (defBody s_BadCapacity_init) (defScope s_BadCapacity_init) .none kV_BadCapacity_init dc_BadCapacity_init pm_BadCapacity_init an_BadCapacity_init cd_BadCapacity_init ct_BadCapacity_init) (ps := ["self", "link"]) (ks := []) (n := 1) (is := [0, 1]) (by intro us ws h1 h2; match us, ws, h1, h2 with | [_, _], [], _, _ => rfl)) (kwm_of (K := K) (fd := PySem.W.fnOf "__init__" "BadCapacity.__init__" (defArgs s_BadCapacity_init) (defBody s_BadCapacity_init) (defScope s_BadCapacity_init) .none kV_BadCapacity_init dc_BadCapacity_init pm_BadCapacity_init an_BadCapacity_init cd_BadCapacity_init ct_BadCapacity_init) (ps := ["self", "link"]) (ks := ["link"]) (n := 0) (is := [0, 1]) (by intro us ws h1 h2; match us, ws, h1, h2 with | [_], [_], _, _ => rfl))
  have V_BadSharing := vx_BadSharing (P := l.prog) (w := w) (base := base) T F_BadSharing_init (kwm_of (K := K) (fd := PySem.W.fnOf "__init__" "BadSharing.__init__" (defArgs s_BadSharing_init) (defBody s_BadSharing_init) (defScope s_BadSharing_init) .none kV_BadSharing_init dc_BadSharing_init pm_BadSharing_init an_BadSharing_init cd_BadSharing_init ct_BadSharing_init) (ps := ["self", "name"]) (ks := []) (n := 1) (is := [0, 1]) (by intro us ws h1 h2; match us, ws, h1, h2 with | [_, _], [], _, _ => rfl)) (kwm_of (K := K) (fd := PySem.W.fnOf "__init__" "BadSharing.__init__" (defArgs s_BadSharing_init) (defBody s_BadSharing_init) (defScope s_BadSharing_init) .none kV_BadSharing_init dc_BadSharing_init pm_BadSharing_init an_BadSharing_init cd_BadSharing_init ct_BadSharing_init) (ps := ["self", "name"]) (ks := ["name"]) (n := 0) (is := [0, 1]) (by intro us ws h1 h2; match us, ws, h1, h2 with | [_], [_], _, _ => rfl))
  have V_BadBand := vx_BadBand (P := l.prog) (w := w) (base := base) T F_BadBand_init (kwm_of (K := K) (fd := PySem.W.fnOf "__init__" "BadBand.__init__" (defArgs s_BadBand_init) (defBody s_BadBand_init) (defScope s_BadBand_init) .none kV_BadBand_init dc_BadBand_init pm_BadBand_init an_BadBand_init cd_BadBand_init ct_BadBand_init) (ps := ["self", "link"]) (ks := []) (n := 1) (is := [0, 1]) (by intro us ws h1 h2; match us, ws, h1, h2 with | [_, _], [], _, _ => rfl)) (kwm_of (K := K) (fd := PySem.W.fnOf "__init__" "BadBand.__init__" (defArgs s_BadBand_init) (defBody s_BadBand_init) (defScope s_BadBand_init) .none kV_BadBand_init dc_BadBand_init pm_BadBand_init an_BadBand_init cd_BadBand_init ct_BadBand_init) (ps := ["self", "link"]) (ks := ["link"]) (n := 0) (is := [0, 1]) (by intro us ws h1 h2; match us, ws, h1, h2 with | [_], [_], _, _ => rfl))
  have V_Future := vx_Future (P := l.prog) (w := w) (base := base) T F_Future_init (kwm_of (K := K) (fd := PySem.W.fnOf "__init__" "Future.__init__" (defArgs s_Future_init) (defBody s_Future_init) (defScope s_Future_init) .none kV_Future_init dc_Future_init pm_Future_init an_Future_init cd_Future_init ct_Future_init) (ps := ["self", "tick"]) (ks := []) (n := 1) (is := [0, 1]) (by intro us ws h1 h2; match us, ws, h1, h2 with | [_, _], [], _, _ => rfl)) (kwm_of (K := K) (fd := PySem.W.fnOf "__init__" "Future.__init__" (defArgs s_Future_init) (defBody s_Future_init) (defScope s_Future_init) .none kV_Future_init dc_Future_init pm_Future_init an_Future_init cd_Future_init ct_Future_init) (ps := ["self", "tick"]) (ks := ["tick"]) (n := 0) (is := [0, 1]) (by intro us ws h1 h2; match us, ws, h1, h2 with | [_], [_], _, _ => rfl))
  have V_BadValue := vx_BadValue (P := l.prog) (w := w) (base := base) T F_BadValue_init (kwm_of (K := K) (fd := PySem.W.fnOf "__init__" "BadValue.__init__" (defArgs s_BadValue_init) (defBody s_BadValue_init) (defScope s_BadValue_init) .none kV_BadValue_init dc_BadValue_init pm_BadValue_init an_BadValue_init cd_BadValue_init ct_BadValue_init) (ps := ["self", "channel"]) (ks := []) (n := 1) (is := [0, 1]) (by intro us ws h1 h2; match us, ws, h1, h2 with | [_, _], [], _, _ => rfl)) (kwm_of (K := K) (fd := PySem.W.fnOf "__init__" "BadValue.__init__" (defArgs s_BadValue_init) (defBody s_BadValue_init) (defScope s_BadValue_init) .none kV_BadValue_init dc_BadValue_init pm_BadValue_init an_BadValue_init cd_BadValue_init ct_BadValue_init) (ps := ["self", "channel"]) (ks := ["channel"]) (n := 0) (is := [0, 1]) (by intro us ws h1 h2; match us, ws, h1, h2 with | [_], [_], _, _ => rfl))
  have V_BadState := vx_BadState (P := l.prog) (w := w) (base := base) T F_BadState_init (kwm_of (K := K) (fd := PySem.W.fnOf "__init__" "BadState.__init__" (defArgs s_BadState_init) (defBody s_BadState_init) (defScope s_BadState_init) .none kV_BadState_init dc_BadState_init pm_BadState_init an_BadState_init cd_BadState_init ct_BadState_init) (ps := ["self", "what", "at"]) (ks := []) (n := 2) (is := [0, 1, 2]) (by intro us ws h1 h2; match us, ws, h1, h2 with | [_, _, _], [], _, _ => rfl)) (kwm_of (K := K) (fd := PySem.W.fnOf "__init__" "BadState.__init__" (defArgs s_BadState_init) (defBody s_BadState_init) (defScope s_BadState_init) .none kV_BadState_init dc_BadState_init pm_BadState_init an_BadState_init cd_BadState_init ct_BadState_init) (ps := ["self", "what", "at"]) (ks := ["at", "what"]) (n := 0) (is := [0, 2, 1]) (by intro us ws h1 h2; match us, ws, h1, h2 with | [_], [_, _], _, _ => rfl))
  have V_BadCount := vx_BadCount (P := l.prog) (w := w) (base := base) T F_BadCount_init (kwm_of (K := K) (fd := PySem.W.fnOf "__init__" "BadCount.__init__" (defArgs s_BadCount_init) (defBody s_BadCount_init) (defScope s_BadCount_init) .none kV_BadCount_init dc_BadCount_init pm_BadCount_init an_BadCount_init cd_BadCount_init ct_BadCount_init) (ps := ["self", "value"]) (ks := []) (n := 1) (is := [0, 1]) (by intro us ws h1 h2; match us, ws, h1, h2 with | [_, _], [], _, _ => rfl)) (kwm_of (K := K) (fd := PySem.W.fnOf "__init__" "BadCount.__init__" (defArgs s_BadCount_init) (defBody s_BadCount_init) (defScope s_BadCount_init) .none kV_BadCount_init dc_BadCount_init pm_BadCount_init an_BadCount_init cd_BadCount_init ct_BadCount_init) (ps := ["self", "value"]) (ks := ["value"]) (n := 0) (is := [0, 1]) (by intro us ws h1 h2; match us, ws, h1, h2 with | [_], [_], _, _ => rfl))
  have V_BadDeed := vx_BadDeed (P := l.prog) (w := w) (base := base) T F_BadDeed_init (kwm_of (K := K) (fd := PySem.W.fnOf "__init__" "BadDeed.__init__" (defArgs s_BadDeed_init) (defBody s_BadDeed_init) (defScope s_BadDeed_init) .none kV_BadDeed_init dc_BadDeed_init pm_BadDeed_init an_BadDeed_init cd_BadDeed_init ct_BadDeed_init) (ps := ["self", "at"]) (ks := []) (n := 1) (is := [0, 1]) (by intro us ws h1 h2; match us, ws, h1, h2 with | [_, _], [], _, _ => rfl)) (kwm_of (K := K) (fd := PySem.W.fnOf "__init__" "BadDeed.__init__" (defArgs s_BadDeed_init) (defBody s_BadDeed_init) (defScope s_BadDeed_init) .none kV_BadDeed_init dc_BadDeed_init pm_BadDeed_init an_BadDeed_init cd_BadDeed_init ct_BadDeed_init) (ps := ["self", "at"]) (ks := ["at"]) (n := 0) (is := [0, 1]) (by intro us ws h1 h2; match us, ws, h1, h2 with | [_], [_], _, _ => rfl))
  have V_UnknownName := vx_UnknownName (P := l.prog) (w := w) (base := base) T F_UnknownName_init (kwm_of (K := K) (fd := PySem.W.fnOf "__init__" "UnknownName.__init__" (defArgs s_UnknownName_init) (defBody s_UnknownName_init) (defScope s_UnknownName_init) .none kV_UnknownName_init dc_UnknownName_init pm_UnknownName_init an_UnknownName_init cd_UnknownName_init ct_UnknownName_init) (ps := ["self", "name"]) (ks := []) (n := 1) (is := [0, 1]) (by intro us ws h1 h2; match us, ws, h1, h2 with | [_, _], [], _, _ => rfl)) (kwm_of (K := K) (fd := PySem.W.fnOf "__init__" "UnknownName.__init__" (defArgs s_UnknownName_init) (defBody s_UnknownName_init) (defScope s_UnknownName_init) .none kV_UnknownName_init dc_UnknownName_init pm_UnknownName_init an_UnknownName_init cd_UnknownName_init ct_UnknownName_init) (ps := ["self", "name"]) (ks := ["name"]) (n := 0) (is := [0, 1]) (by intro us ws h1 h2; match us, ws, h1, h2 with | [_], [_], _, _ => rfl))
  have V_UnknownChannel := vx_UnknownChannel (P := l.prog) (w := w) (base := base) T F_UnknownChannel_init (kwm_of (K := K) (fd := PySem.W.fnOf "__init__" "UnknownChannel.__init__" (defArgs s_UnknownChannel_init) (defBody s_UnknownChannel_init) (defScope s_UnknownChannel_init) .none kV_UnknownChannel_init dc_UnknownChannel_init pm_UnknownChannel_init an_UnknownChannel_init cd_UnknownChannel_init ct_UnknownChannel_init) (ps := ["self", "channel"]) (ks := []) (n := 1) (is := [0, 1]) (by intro us ws h1 h2; match us, ws, h1, h2 with | [_, _], [], _, _ => rfl)) (kwm_of (K := K) (fd := PySem.W.fnOf "__init__" "UnknownChannel.__init__" (defArgs s_UnknownChannel_init) (defBody s_UnknownChannel_init) (defScope s_UnknownChannel_init) .none kV_UnknownChannel_init dc_UnknownChannel_init pm_UnknownChannel_init an_UnknownChannel_init cd_UnknownChannel_init ct_UnknownChannel_init) (ps := ["self", "channel"]) (ks := ["channel"]) (n := 0) (is := [0, 1]) (by intro us ws h1 h2; match us, ws, h1, h2 with | [_], [_], _, _ => rfl))
  have V_NoSuchLetter := vx_NoSuchLetter (P := l.prog) (w := w) (base := base) T F_NoSuchLetter_init (kwm_of (K := K) (fd := PySem.W.fnOf "__init__" "NoSuchLetter.__init__" (defArgs s_NoSuchLetter_init) (defBody s_NoSuchLetter_init) (defScope s_NoSuchLetter_init) .none kV_NoSuchLetter_init dc_NoSuchLetter_init pm_NoSuchLetter_init an_NoSuchLetter_init cd_NoSuchLetter_init ct_NoSuchLetter_init) (ps := ["self", "number"]) (ks := []) (n := 1) (is := [0, 1]) (by intro us ws h1 h2; match us, ws, h1, h2 with | [_, _], [], _, _ => rfl)) (kwm_of (K := K) (fd := PySem.W.fnOf "__init__" "NoSuchLetter.__init__" (defArgs s_NoSuchLetter_init) (defBody s_NoSuchLetter_init) (defScope s_NoSuchLetter_init) .none kV_NoSuchLetter_init dc_NoSuchLetter_init pm_NoSuchLetter_init an_NoSuchLetter_init cd_NoSuchLetter_init ct_NoSuchLetter_init) (ps := ["self", "number"]) (ks := ["number"]) (n := 0) (is := [0, 1]) (by intro us ws h1 h2; match us, ws, h1, h2 with | [_], [_], _, _ => rfl))
  have V_NoSuchTick := vx_NoSuchTick (P := l.prog) (w := w) (base := base) T F_NoSuchTick_init (kwm_of (K := K) (fd := PySem.W.fnOf "__init__" "NoSuchTick.__init__" (defArgs s_NoSuchTick_init) (defBody s_NoSuchTick_init) (defScope s_NoSuchTick_init) .none kV_NoSuchTick_init dc_NoSuchTick_init pm_NoSuchTick_init an_NoSuchTick_init cd_NoSuchTick_init ct_NoSuchTick_init) (ps := ["self", "tick"]) (ks := []) (n := 1) (is := [0, 1]) (by intro us ws h1 h2; match us, ws, h1, h2 with | [_, _], [], _, _ => rfl)) (kwm_of (K := K) (fd := PySem.W.fnOf "__init__" "NoSuchTick.__init__" (defArgs s_NoSuchTick_init) (defBody s_NoSuchTick_init) (defScope s_NoSuchTick_init) .none kV_NoSuchTick_init dc_NoSuchTick_init pm_NoSuchTick_init an_NoSuchTick_init cd_NoSuchTick_init ct_NoSuchTick_init) (ps := ["self", "tick"]) (ks := ["tick"]) (n := 0) (is := [0, 1]) (by intro us ws h1 h2; match us, ws, h1, h2 with | [_], [_], _, _ => rfl))
  have V_NotStrange := vx_NotStrange (P := l.prog) (w := w) (base := base) T F_NotStrange_init (kwm_of (K := K) (fd := PySem.W.fnOf "__init__" "NotStrange.__init__" (defArgs s_NotStrange_init) (defBody s_NotStrange_init) (defScope s_NotStrange_init) .none kV_NotStrange_init dc_NotStrange_init pm_NotStrange_init an_NotStrange_init cd_NotStrange_init ct_NotStrange_init) (ps := ["self", "name"]) (ks := []) (n := 1) (is := [0, 1]) (by intro us ws h1 h2; match us, ws, h1, h2 with | [_, _], [], _, _ => rfl)) (kwm_of (K := K) (fd := PySem.W.fnOf "__init__" "NotStrange.__init__" (defArgs s_NotStrange_init) (defBody s_NotStrange_init) (defScope s_NotStrange_init) .none kV_NotStrange_init dc_NotStrange_init pm_NotStrange_init an_NotStrange_init cd_NotStrange_init ct_NotStrange_init) (ps := ["self", "name"]) (ks := ["name"]) (n := 0) (is := [0, 1]) (by intro us ws h1 h2; match us, ws, h1, h2 with | [_], [_], _, _ => rfl))
  have V_NotShaky := vx_NotShaky (P := l.prog) (w := w) (base := base) T F_NotShaky_init (kwm_of (K := K) (fd := PySem.W.fnOf "__init__" "NotShaky.__init__" (defArgs s_NotShaky_init) (defBody s_NotShaky_init) (defScope s_NotShaky_init) .none kV_NotShaky_init dc_NotShaky_init pm_NotShaky_init an_NotShaky_init cd_NotShaky_init ct_NotShaky_init) (ps := ["self", "link"]) (ks := []) (n := 1) (is := [0, 1]) (by intro us ws h1 h2; match us, ws, h1, h2 with | [_, _], [], _, _ => rfl)) (kwm_of (K := K) (fd := PySem.W.fnOf "__init__" "NotShaky.__init__" (defArgs s_NotShaky_init) (defBody s_NotShaky_init) (defScope s_NotShaky_init) .none kV_NotShaky_init dc_NotShaky_init pm_NotShaky_init an_NotShaky_init cd_NotShaky_init ct_NotShaky_init) (ps := ["self", "link"]) (ks := ["link"]) (n := 0) (is := [0, 1]) (by intro us ws h1 h2; match us, ws, h1, h2 with | [_], [_], _, _ => rfl))
  have V_Unseen := vx_Unseen (P := l.prog) (w := w) (base := base) T F_Unseen_init (kwm_of (K := K) (fd := PySem.W.fnOf "__init__" "Unseen.__init__" (defArgs s_Unseen_init) (defBody s_Unseen_init) (defScope s_Unseen_init) .none kV_Unseen_init dc_Unseen_init pm_Unseen_init an_Unseen_init cd_Unseen_init ct_Unseen_init) (ps := ["self", "flow"]) (ks := []) (n := 1) (is := [0, 1]) (by intro us ws h1 h2; match us, ws, h1, h2 with | [_, _], [], _, _ => rfl)) (kwm_of (K := K) (fd := PySem.W.fnOf "__init__" "Unseen.__init__" (defArgs s_Unseen_init) (defBody s_Unseen_init) (defScope s_Unseen_init) .none kV_Unseen_init dc_Unseen_init pm_Unseen_init an_Unseen_init cd_Unseen_init ct_Unseen_init) (ps := ["self", "flow"]) (ks := ["flow"]) (n := 0) (is := [0, 1]) (by intro us ws h1 h2; match us, ws, h1, h2 with | [_], [_], _, _ => rfl))
  have G_law_bag := d_law_bag (P := l.prog) (w := w) (base := base) T F_law_bag b_law_bag
  have G_law_draw := d_law_draw (P := l.prog) (w := w) (base := base) T F_law_draw b_law_draw
  have G_law_of := d_law_of (P := l.prog) (w := w) (base := base) T F_law_of b_law_of G_law_draw
  have G_law_last_made := d_law_last_made (P := l.prog) (w := w) (base := base) T F_law_last_made b_law_last_made V_UnknownName V_UnknownChannel V_UnknownHop V_NoSuchLetter V_NoSuchTick V_Started V_NotStrange V_NotShaky V_Unseen
  have G_law_like := d_law_like (P := l.prog) (w := w) (base := base) T F_law_like b_law_like 6
  have G_law_odd := d_law_odd (P := l.prog) (w := w) (base := base) T F_law_odd b_law_odd G_law_of
  have G_law_word := d_law_word (P := l.prog) (w := w) (base := base) T F_law_word b_law_word G_law_draw G_law_of
  have G_law_pair := d_law_pair (P := l.prog) (w := w) (base := base) T F_law_pair b_law_pair
  have G_law_wide := d_law_wide (P := l.prog) (w := w) (base := base) T F_law_wide b_law_wide G_law_draw
  have G_law_great := d_law_great (P := l.prog) (w := w) (base := base) T F_law_great b_law_great G_law_wide G_law_of G_law_draw
  have G_law_amount := d_law_amount (P := l.prog) (w := w) (base := base) T F_law_amount b_law_amount G_law_draw G_law_of G_law_pair G_law_wide G_law_great
  have G_law_first_made := d_law_first_made (P := l.prog) (w := w) (base := base) T F_law_first_made b_law_first_made V_BadAmount V_BadLink V_BadFlow V_BadAge V_BadPart V_TooMany V_DuplicateName V_Idle V_Overpromised V_Small V_BadText
  have G_law_middle_made := d_law_middle_made (P := l.prog) (w := w) (base := base) T F_law_middle_made b_law_middle_made V_BadManner V_BadCapacity V_BadSharing V_BadBand V_Future V_Short V_BadValue V_BadState V_BadCount V_BadDeed
  have G_law_last_ones := d_law_last_ones (P := l.prog) (w := w) (base := base) T F_law_last_ones b_law_last_ones
  have G_law_middle_ones := d_law_middle_ones (P := l.prog) (w := w) (base := base) T F_law_middle_ones b_law_middle_ones
  have G_law_first_ones := d_law_first_ones (P := l.prog) (w := w) (base := base) T F_law_first_ones b_law_first_ones
  have G_law_known := d_law_known (P := l.prog) (w := w) (base := base) T F_law_known b_law_known G_law_first_ones G_law_middle_ones G_law_last_ones
  have G_law_rows_so := d_law_rows_so (P := l.prog) (w := w) (base := base) T F_law_rows_so b_law_rows_so G_law_like G_law_known
  have OZ_law_thrown := oz_law_thrown (P := l.prog) (w := w) (base := base) T F_law_thrown X_Short
  have Z_law_thrown := fndZ_of OZ_law_thrown b_law_thrown
  have OZ_law_missed := oz_law_missed (P := l.prog) (w := w) (base := base) T F_law_missed X_UnknownHop
  have Z_law_missed := fndZ_of OZ_law_missed b_law_missed
  have OZ_law_refused := oz_law_refused (P := l.prog) (w := w) (base := base) T F_law_refused X_Started
  have Z_law_refused := fndZ_of OZ_law_refused b_law_refused
  exact FnOk.imp_lawTs (T := [(x_tb_law, lamq "law")]) hnd (d_law T F_law te_law TB_law G_law_bag G_law_of G_law_amount G_law_word G_law_odd G_law_draw G_law_first_made G_law_middle_made G_law_last_made G_law_rows_so G_law_like Z_law_thrown Z_law_missed Z_law_refused F_law_taken b_law_taken)
theorem walk {l : PySem.W.OpenLaw} {q : Program} {loose : List Str} {XP : (Str → Option Value) → Heap → Prop} {YP : World → Heap → Prop} {d : DefRec} {K : Params → PySem.W.Frag} (hn : l.most = some 63) (hdf : d.params.defaults = [])
    (hY : ∀ (w : World) (h : Heap), YP w h → (K w.params).In h)
    (F : ∀ (w : World) (mg : Str → Option Value) (fa : Addr) (h : Heap) (s₀ : Shared) (mb : Str → Option Value), PySem.W.Ground q loose [] XP w s₀ mg mb h → (K w.params).In h → h.Ns mainGlobals mg → mg d.name = some (.ref fa) →
      ∃ (fd : FuncData) (cs : List (Addr × Addr)), (∀ p ∈ cs, h.get? p.2 = some { cls := .none, data := .fields #[] }) ∧ (∀ p ∈ cs, (K w.params).lookup p.2 = none) ∧ (∀ p ∈ cs, PySem.W.CodeHd h p.1 p.2) ∧ (∀ (s : Shared) (u : Value), BindsTo s fd ⟨[u], []⟩ [("_law_script", u)]) ∧
        ∀ base : Heap, (K w.params).In base → base.Ns mainGlobals mg → (∀ p ∈ cs, LamX.TabB base mg p.1 p.2) → FnOk l.prog w (K w.params) mg base CX0 8 fa fd ["_law_script"] (spLawTs (K w.params) (cs.map (·.2)))) :
    PySem.W.WalkO q loose XP YP l.row.toRowW d [] (fun f vs => PySem.call f vs) :=
  walk_Ts (x := "_law_script") (kk := 8) hn hdf ⟨rfl, by decide, by decide⟩ hY F
end K70
end
open PySem PySem.W PyProof.Rows
set_option maxRecDepth 100000 in
set_option maxHeartbeats 0 in
theorem PySem.Challenge.cw_bandheld_k70_errors_by_themselves_holds : PySem.Challenge.rw_bandheld_k70_errors_by_themselves.Holds := by
  obtain ⟨q, loose, K, as, ek, d, hd, hn, hh, ff⟩ := K70.headF
  refine hh (K70.walk (l := PySem.Challenge.rw_bandheld_k70_errors_by_themselves) rfl hd (fun w h Y => PySem.W.kIn_of Y) ?_)
  intro w mg fa h s₀ mb GG KX G hmg
  rw [hn] at hmg
  exact ff w mg h s₀ mb GG KX _ (K70.all_mk KX G hmg)
