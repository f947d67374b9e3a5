/- EvalFull returns true, and leaves all that was there: from the checks. Conditions: none beyond the table that is listed. -/
import Derived.Test.YtibhfcbgmlhojaaGreatDoorEd
import Derived.Test.YtibhfcbgmlhojaaGreatDoorEe
import Derived.Test.YtibhfcbgmlhojaaGreatDoorC1
import Derived.Test.YtibhfcbgmlhojaaGreatDoorC2
import Derived.Test.YtibhfcbgmlhojaaGreatDoorC3
import Derived.Test.YtibhfcbgmlhojaaGreatDoorC4
import Derived.Test.YtibhfcbgmlhojaaGreatDoorC5
import Derived.Test.YtibhfcbgmlhojaaGreatDoorC6
import Derived.Test.YtibhfcbgmlhojaaGreatDoorC7
import Derived.Test.YtibhfcbgmlhojaaGreatDoorC8
import Derived.Test.YtibhfcbgmlhojaaGreatDoorC9
import Derived.Test.YtibhfcbgmlhojaaGreatDoorPk
set_option linter.unusedVariables false
namespace Go.Proofs.YtibhfcbgmlhojaaGreatDoor
open Go.Kx
theorem hT : TOK TT0 Tryz.prog := tok_of Tryz.prog
theorem names_ok : Tryz.prog.funcs.toList.all (fun f => !(f.name == "runtime.NumGoroutine")) = true := by decide +kernel
theorem Eb_fns : Eb.fns = ofList (Tryz.prog.funcs.toList.map (cFn TT0 1)) := by simp only [Eb]
theorem Eb_pr : Eb.pr = .e := by simp only [Eb]
theorem okb : OKE Tryz.prog TT0 Eb := oke_base names_ok Eb_fns Eb_pr
theorem ok0 : OKE Tryz.prog TT0 E0 := oke_gc okb _
theorem onil {f : Nat} : ∀ x ∈ ([] : List Memo), OKM Tryz.prog TT0 f x := fun x hx => by cases hx
theorem ocons {f : Nat} {m : Memo} {l : List Memo} (h : OKM Tryz.prog TT0 f m) (t : ∀ x ∈ l, OKM Tryz.prog TT0 f x) : ∀ x ∈ m :: l, OKM Tryz.prog TT0 f x := fun x hx => by
  rcases List.mem_cons.1 hx with rfl | hx
  · exact h
  · exact t x hx
theorem oone {f : Nat} {m : Memo} (h : OKM Tryz.prog TT0 f m) : ∀ x ∈ [m], OKM Tryz.prog TT0 f x := ocons h onil
theorem o_ta0 : OKM Tryz.prog TT0 35 m_ta0 := okm_run hT ok0 c_ta0
theorem o_ta1 : OKM Tryz.prog TT0 35 m_ta1 := okm_run hT ok0 c_ta1
theorem o_ta2 : OKM Tryz.prog TT0 35 m_ta2 := okm_run hT ok0 c_ta2
theorem o_ta3 : OKM Tryz.prog TT0 35 m_ta3 := okm_run hT ok0 c_ta3
theorem o_ta4 : OKM Tryz.prog TT0 35 m_ta4 := okm_run hT ok0 c_ta4
theorem o_ta5 : OKM Tryz.prog TT0 35 m_ta5 := okm_run hT ok0 c_ta5
theorem o_ta6 : OKM Tryz.prog TT0 35 m_ta6 := okm_run hT ok0 c_ta6
theorem o_ta7 : OKM Tryz.prog TT0 35 m_ta7 := okm_run hT ok0 c_ta7
theorem o_ta8 : OKM Tryz.prog TT0 35 m_ta8 := okm_run hT ok0 c_ta8
theorem o_ta9 : OKM Tryz.prog TT0 35 m_ta9 := okm_run hT ok0 c_ta9
theorem o_ta10 : OKM Tryz.prog TT0 35 m_ta10 := okm_run hT ok0 c_ta10
theorem o_ta11 : OKM Tryz.prog TT0 35 m_ta11 := okm_run hT ok0 c_ta11
theorem o_ta12 : OKM Tryz.prog TT0 35 m_ta12 := okm_run hT ok0 c_ta12
theorem o_ta13 : OKM Tryz.prog TT0 35 m_ta13 := okm_run hT ok0 c_ta13
theorem o_ta14 : OKM Tryz.prog TT0 35 m_ta14 := okm_run hT ok0 c_ta14
theorem o_ta15 : OKM Tryz.prog TT0 35 m_ta15 := okm_run hT ok0 c_ta15
theorem o_ta16 : OKM Tryz.prog TT0 35 m_ta16 := okm_run hT ok0 c_ta16
theorem o_ta17 : OKM Tryz.prog TT0 35 m_ta17 := okm_run hT ok0 c_ta17
theorem o_ta18 : OKM Tryz.prog TT0 35 m_ta18 := okm_run hT ok0 c_ta18
theorem o_ta19 : OKM Tryz.prog TT0 35 m_ta19 := okm_run hT ok0 c_ta19
theorem o_ta20 : OKM Tryz.prog TT0 35 m_ta20 := okm_run hT ok0 c_ta20
theorem o_ta21 : OKM Tryz.prog TT0 35 m_ta21 := okm_run hT ok0 c_ta21
theorem o_ta22 : OKM Tryz.prog TT0 35 m_ta22 := okm_run hT ok0 c_ta22
theorem o_ta23 : OKM Tryz.prog TT0 35 m_ta23 := okm_run hT ok0 c_ta23
theorem o_ta24 : OKM Tryz.prog TT0 35 m_ta24 := okm_run hT ok0 c_ta24
theorem o_ta25 : OKM Tryz.prog TT0 35 m_ta25 := okm_run hT ok0 c_ta25
theorem o_ta26 : OKM Tryz.prog TT0 35 m_ta26 := okm_run hT ok0 c_ta26
theorem o_ta27 : OKM Tryz.prog TT0 35 m_ta27 := okm_run hT ok0 c_ta27
theorem o_ta28 : OKM Tryz.prog TT0 35 m_ta28 := okm_run hT ok0 c_ta28
theorem o_ta29 : OKM Tryz.prog TT0 35 m_ta29 := okm_run hT ok0 c_ta29
theorem o_ta30 : OKM Tryz.prog TT0 35 m_ta30 := okm_run hT ok0 c_ta30
theorem o_ta31 : OKM Tryz.prog TT0 35 m_ta31 := okm_run hT ok0 c_ta31
theorem o_ta32 : OKM Tryz.prog TT0 35 m_ta32 := okm_run hT ok0 c_ta32
theorem o_ta33 : OKM Tryz.prog TT0 35 m_ta33 := okm_run hT ok0 c_ta33
theorem o_ta34 : OKM Tryz.prog TT0 35 m_ta34 := okm_run hT ok0 c_ta34
theorem o_ta35 : OKM Tryz.prog TT0 35 m_ta35 := okm_run hT ok0 c_ta35
theorem o_ta36 : OKM Tryz.prog TT0 35 m_ta36 := okm_run hT ok0 c_ta36
theorem o_ta37 : OKM Tryz.prog TT0 35 m_ta37 := okm_run hT ok0 c_ta37
theorem o_ta38 : OKM Tryz.prog TT0 35 m_ta38 := okm_run hT ok0 c_ta38
theorem o_ta39 : OKM Tryz.prog TT0 35 m_ta39 := okm_run hT ok0 c_ta39
theorem o_ta40 : OKM Tryz.prog TT0 35 m_ta40 := okm_run hT ok0 c_ta40
theorem o_ta41 : OKM Tryz.prog TT0 35 m_ta41 := okm_run hT ok0 c_ta41
theorem o_ta42 : OKM Tryz.prog TT0 35 m_ta42 := okm_run hT ok0 c_ta42
theorem o_ta43 : OKM Tryz.prog TT0 35 m_ta43 := okm_run hT ok0 c_ta43
theorem o_ta44 : OKM Tryz.prog TT0 35 m_ta44 := okm_run hT ok0 c_ta44
theorem o_ta45 : OKM Tryz.prog TT0 35 m_ta45 := okm_run hT ok0 c_ta45
theorem o_ta46 : OKM Tryz.prog TT0 35 m_ta46 := okm_run hT ok0 c_ta46
theorem o_ta47 : OKM Tryz.prog TT0 35 m_ta47 := okm_run hT ok0 c_ta47
theorem o_ta48 : OKM Tryz.prog TT0 35 m_ta48 := okm_run hT ok0 c_ta48
theorem o_ta49 : OKM Tryz.prog TT0 35 m_ta49 := okm_run hT ok0 c_ta49
theorem o_ta50 : OKM Tryz.prog TT0 35 m_ta50 := okm_run hT ok0 c_ta50
theorem o_ta51 : OKM Tryz.prog TT0 35 m_ta51 := okm_run hT ok0 c_ta51
theorem o_ta52 : OKM Tryz.prog TT0 35 m_ta52 := okm_run hT ok0 c_ta52
theorem o_ta53 : OKM Tryz.prog TT0 35 m_ta53 := okm_run hT ok0 c_ta53
theorem o_ta54 : OKM Tryz.prog TT0 35 m_ta54 := okm_run hT ok0 c_ta54
theorem o_ta55 : OKM Tryz.prog TT0 35 m_ta55 := okm_run hT ok0 c_ta55
theorem o_ta56 : OKM Tryz.prog TT0 35 m_ta56 := okm_run hT ok0 c_ta56
theorem o_ta57 : OKM Tryz.prog TT0 35 m_ta57 := okm_run hT ok0 c_ta57
theorem ol_ta : ∀ x ∈ l_ta, OKM Tryz.prog TT0 35 x := ocons o_ta0 (ocons o_ta1 (ocons o_ta2 (ocons o_ta3 (ocons o_ta4 (ocons o_ta5 (ocons o_ta6 (ocons o_ta7 (ocons o_ta8 (ocons o_ta9 (ocons o_ta10 (ocons o_ta11 (ocons o_ta12 (ocons o_ta13 (ocons o_ta14 (ocons o_ta15 (ocons o_ta16 (ocons o_ta17 (ocons o_ta18 (ocons o_ta19 (ocons o_ta20 (ocons o_ta21 (ocons o_ta22 (ocons o_ta23 (ocons o_ta24 (ocons o_ta25 (ocons o_ta26 (ocons o_ta27 (ocons o_ta28 (ocons o_ta29 (ocons o_ta30 (ocons o_ta31 (ocons o_ta32 (ocons o_ta33 (ocons o_ta34 (ocons o_ta35 (ocons o_ta36 (ocons o_ta37 (ocons o_ta38 (ocons o_ta39 (ocons o_ta40 (ocons o_ta41 (ocons o_ta42 (ocons o_ta43 (ocons o_ta44 (ocons o_ta45 (ocons o_ta46 (ocons o_ta47 (ocons o_ta48 (ocons o_ta49 (ocons o_ta50 (ocons o_ta51 (ocons o_ta52 (ocons o_ta53 (ocons o_ta54 (ocons o_ta55 (ocons o_ta56 (ocons o_ta57 (onil))))))))))))))))))))))))))))))))))))))))))))))))))))))))))
theorem o_tb0 : OKM Tryz.prog TT0 35 m_tb0 := okm_run hT ok0 c_tb0
theorem o_tb1 : OKM Tryz.prog TT0 35 m_tb1 := okm_run hT ok0 c_tb1
theorem o_tb2 : OKM Tryz.prog TT0 35 m_tb2 := okm_run hT ok0 c_tb2
theorem o_tb3 : OKM Tryz.prog TT0 35 m_tb3 := okm_run hT ok0 c_tb3
theorem o_tb4 : OKM Tryz.prog TT0 35 m_tb4 := okm_run hT ok0 c_tb4
theorem o_tb5 : OKM Tryz.prog TT0 35 m_tb5 := okm_run hT ok0 c_tb5
theorem o_tb6 : OKM Tryz.prog TT0 35 m_tb6 := okm_run hT ok0 c_tb6
theorem o_tb7 : OKM Tryz.prog TT0 35 m_tb7 := okm_run hT ok0 c_tb7
theorem o_tb8 : OKM Tryz.prog TT0 35 m_tb8 := okm_run hT ok0 c_tb8
theorem o_tb9 : OKM Tryz.prog TT0 35 m_tb9 := okm_run hT ok0 c_tb9
theorem o_tb10 : OKM Tryz.prog TT0 35 m_tb10 := okm_run hT ok0 c_tb10
theorem o_tb11 : OKM Tryz.prog TT0 35 m_tb11 := okm_run hT ok0 c_tb11
theorem o_tb12 : OKM Tryz.prog TT0 35 m_tb12 := okm_run hT ok0 c_tb12
theorem o_tb13 : OKM Tryz.prog TT0 35 m_tb13 := okm_run hT ok0 c_tb13
theorem o_tb14 : OKM Tryz.prog TT0 35 m_tb14 := okm_run hT ok0 c_tb14
theorem o_tb15 : OKM Tryz.prog TT0 35 m_tb15 := okm_run hT ok0 c_tb15
theorem o_tb16 : OKM Tryz.prog TT0 35 m_tb16 := okm_run hT ok0 c_tb16
theorem o_tb17 : OKM Tryz.prog TT0 35 m_tb17 := okm_run hT ok0 c_tb17
theorem o_tb18 : OKM Tryz.prog TT0 35 m_tb18 := okm_run hT ok0 c_tb18
theorem o_tb19 : OKM Tryz.prog TT0 35 m_tb19 := okm_run hT ok0 c_tb19
theorem o_tb20 : OKM Tryz.prog TT0 35 m_tb20 := okm_run hT ok0 c_tb20
theorem o_tb21 : OKM Tryz.prog TT0 35 m_tb21 := okm_run hT ok0 c_tb21
theorem o_tb22 : OKM Tryz.prog TT0 35 m_tb22 := okm_run hT ok0 c_tb22
theorem o_tb23 : OKM Tryz.prog TT0 35 m_tb23 := okm_run hT ok0 c_tb23
theorem o_tb24 : OKM Tryz.prog TT0 35 m_tb24 := okm_run hT ok0 c_tb24
theorem o_tb25 : OKM Tryz.prog TT0 35 m_tb25 := okm_run hT ok0 c_tb25
theorem o_tb26 : OKM Tryz.prog TT0 35 m_tb26 := okm_run hT ok0 c_tb26
theorem o_tb27 : OKM Tryz.prog TT0 35 m_tb27 := okm_run hT ok0 c_tb27
theorem o_tb28 : OKM Tryz.prog TT0 35 m_tb28 := okm_run hT ok0 c_tb28
theorem o_tb29 : OKM Tryz.prog TT0 35 m_tb29 := okm_run hT ok0 c_tb29
theorem o_tb30 : OKM Tryz.prog TT0 35 m_tb30 := okm_run hT ok0 c_tb30
theorem o_tb31 : OKM Tryz.prog TT0 35 m_tb31 := okm_run hT ok0 c_tb31
theorem o_tb32 : OKM Tryz.prog TT0 35 m_tb32 := okm_run hT ok0 c_tb32
theorem o_tb33 : OKM Tryz.prog TT0 35 m_tb33 := okm_run hT ok0 c_tb33
theorem o_tb34 : OKM Tryz.prog TT0 35 m_tb34 := okm_run hT ok0 c_tb34
theorem o_tb35 : OKM Tryz.prog TT0 35 m_tb35 := okm_run hT ok0 c_tb35
theorem o_tb36 : OKM Tryz.prog TT0 35 m_tb36 := okm_run hT ok0 c_tb36
theorem o_tb37 : OKM Tryz.prog TT0 35 m_tb37 := okm_run hT ok0 c_tb37
theorem o_tb38 : OKM Tryz.prog TT0 35 m_tb38 := okm_run hT ok0 c_tb38
theorem o_tb39 : OKM Tryz.prog TT0 35 m_tb39 := okm_run hT ok0 c_tb39
theorem o_tb40 : OKM Tryz.prog TT0 35 m_tb40 := okm_run hT ok0 c_tb40
theorem o_tb41 : OKM Tryz.prog TT0 35 m_tb41 := okm_run hT ok0 c_tb41
theorem o_tb42 : OKM Tryz.prog TT0 35 m_tb42 := okm_run hT ok0 c_tb42
theorem o_tb43 : OKM Tryz.prog TT0 35 m_tb43 := okm_run hT ok0 c_tb43
theorem o_tb44 : OKM Tryz.prog TT0 35 m_tb44 := okm_run hT ok0 c_tb44
theorem o_tb45 : OKM Tryz.prog TT0 35 m_tb45 := okm_run hT ok0 c_tb45
theorem o_tb46 : OKM Tryz.prog TT0 35 m_tb46 := okm_run hT ok0 c_tb46
theorem o_tb47 : OKM Tryz.prog TT0 35 m_tb47 := okm_run hT ok0 c_tb47
theorem o_tb48 : OKM Tryz.prog TT0 35 m_tb48 := okm_run hT ok0 c_tb48
theorem o_tb49 : OKM Tryz.prog TT0 35 m_tb49 := okm_run hT ok0 c_tb49
theorem o_tb50 : OKM Tryz.prog TT0 35 m_tb50 := okm_run hT ok0 c_tb50
theorem o_tb51 : OKM Tryz.prog TT0 35 m_tb51 := okm_run hT ok0 c_tb51
theorem o_tb52 : OKM Tryz.prog TT0 35 m_tb52 := okm_run hT ok0 c_tb52
theorem o_tb53 : OKM Tryz.prog TT0 35 m_tb53 := okm_run hT ok0 c_tb53
theorem o_tb54 : OKM Tryz.prog TT0 35 m_tb54 := okm_run hT ok0 c_tb54
theorem o_tb55 : OKM Tryz.prog TT0 35 m_tb55 := okm_run hT ok0 c_tb55
theorem o_tb56 : OKM Tryz.prog TT0 35 m_tb56 := okm_run hT ok0 c_tb56
theorem o_tb57 : OKM Tryz.prog TT0 35 m_tb57 := okm_run hT ok0 c_tb57
theorem o_tb58 : OKM Tryz.prog TT0 35 m_tb58 := okm_run hT ok0 c_tb58
theorem o_tb59 : OKM Tryz.prog TT0 35 m_tb59 := okm_run hT ok0 c_tb59
theorem o_tb60 : OKM Tryz.prog TT0 35 m_tb60 := okm_run hT ok0 c_tb60
theorem o_tb61 : OKM Tryz.prog TT0 35 m_tb61 := okm_run hT ok0 c_tb61
theorem o_tb62 : OKM Tryz.prog TT0 35 m_tb62 := okm_run hT ok0 c_tb62
theorem o_tb63 : OKM Tryz.prog TT0 35 m_tb63 := okm_run hT ok0 c_tb63
theorem o_tb64 : OKM Tryz.prog TT0 35 m_tb64 := okm_run hT ok0 c_tb64
theorem o_tb65 : OKM Tryz.prog TT0 35 m_tb65 := okm_run hT ok0 c_tb65
theorem o_tb66 : OKM Tryz.prog TT0 35 m_tb66 := okm_run hT ok0 c_tb66
theorem o_tb67 : OKM Tryz.prog TT0 35 m_tb67 := okm_run hT ok0 c_tb67
theorem o_tb68 : OKM Tryz.prog TT0 35 m_tb68 := okm_run hT ok0 c_tb68
theorem o_tb69 : OKM Tryz.prog TT0 35 m_tb69 := okm_run hT ok0 c_tb69
theorem o_tb70 : OKM Tryz.prog TT0 35 m_tb70 := okm_run hT ok0 c_tb70
theorem o_tb71 : OKM Tryz.prog TT0 35 m_tb71 := okm_run hT ok0 c_tb71
theorem o_tb72 : OKM Tryz.prog TT0 35 m_tb72 := okm_run hT ok0 c_tb72
theorem o_tb73 : OKM Tryz.prog TT0 35 m_tb73 := okm_run hT ok0 c_tb73
theorem o_tb74 : OKM Tryz.prog TT0 35 m_tb74 := okm_run hT ok0 c_tb74
theorem o_tb75 : OKM Tryz.prog TT0 35 m_tb75 := okm_run hT ok0 c_tb75
theorem o_tb76 : OKM Tryz.prog TT0 35 m_tb76 := okm_run hT ok0 c_tb76
theorem o_tb77 : OKM Tryz.prog TT0 35 m_tb77 := okm_run hT ok0 c_tb77
theorem o_tb78 : OKM Tryz.prog TT0 35 m_tb78 := okm_run hT ok0 c_tb78
theorem o_tb79 : OKM Tryz.prog TT0 35 m_tb79 := okm_run hT ok0 c_tb79
theorem o_tb80 : OKM Tryz.prog TT0 35 m_tb80 := okm_run hT ok0 c_tb80
theorem o_tb81 : OKM Tryz.prog TT0 35 m_tb81 := okm_run hT ok0 c_tb81
theorem o_tb82 : OKM Tryz.prog TT0 35 m_tb82 := okm_run hT ok0 c_tb82
theorem o_tb83 : OKM Tryz.prog TT0 35 m_tb83 := okm_run hT ok0 c_tb83
theorem o_tb84 : OKM Tryz.prog TT0 35 m_tb84 := okm_run hT ok0 c_tb84
theorem o_tb85 : OKM Tryz.prog TT0 35 m_tb85 := okm_run hT ok0 c_tb85
theorem o_tb86 : OKM Tryz.prog TT0 35 m_tb86 := okm_run hT ok0 c_tb86
theorem o_tb87 : OKM Tryz.prog TT0 35 m_tb87 := okm_run hT ok0 c_tb87
theorem o_tb88 : OKM Tryz.prog TT0 35 m_tb88 := okm_run hT ok0 c_tb88
theorem o_tb89 : OKM Tryz.prog TT0 35 m_tb89 := okm_run hT ok0 c_tb89
theorem o_tb90 : OKM Tryz.prog TT0 35 m_tb90 := okm_run hT ok0 c_tb90
theorem o_tb91 : OKM Tryz.prog TT0 35 m_tb91 := okm_run hT ok0 c_tb91
theorem o_tb92 : OKM Tryz.prog TT0 35 m_tb92 := okm_run hT ok0 c_tb92
theorem o_tb93 : OKM Tryz.prog TT0 35 m_tb93 := okm_run hT ok0 c_tb93
theorem o_tb94 : OKM Tryz.prog TT0 35 m_tb94 := okm_run hT ok0 c_tb94
theorem o_tb95 : OKM Tryz.prog TT0 35 m_tb95 := okm_run hT ok0 c_tb95
theorem o_tb96 : OKM Tryz.prog TT0 35 m_tb96 := okm_run hT ok0 c_tb96
theorem ol_tb : ∀ x ∈ l_tb, OKM Tryz.prog TT0 35 x := ocons o_tb0 (ocons o_tb1 (ocons o_tb2 (ocons o_tb3 (ocons o_tb4 (ocons o_tb5 (ocons o_tb6 (ocons o_tb7 (ocons o_tb8 (ocons o_tb9 (ocons o_tb10 (ocons o_tb11 (ocons o_tb12 (ocons o_tb13 (ocons o_tb14 (ocons o_tb15 (ocons o_tb16 (ocons o_tb17 (ocons o_tb18 (ocons o_tb19 (ocons o_tb20 (ocons o_tb21 (ocons o_tb22 (ocons o_tb23 (ocons o_tb24 (ocons o_tb25 (ocons o_tb26 (ocons o_tb27 (ocons o_tb28 (ocons o_tb29 (ocons o_tb30 (ocons o_tb31 (ocons o_tb32 (ocons o_tb33 (ocons o_tb34 (ocons o_tb35 (ocons o_tb36 (ocons o_tb37 (ocons o_tb38 (ocons o_tb39 (ocons o_tb40 (ocons o_tb41 (ocons o_tb42 (ocons o_tb43 (ocons o_tb44 (ocons o_tb45 (ocons o_tb46 (ocons o_tb47 (ocons o_tb48 (ocons o_tb49 (ocons o_tb50 (ocons o_tb51 (ocons o_tb52 (ocons o_tb53 (ocons o_tb54 (ocons o_tb55 (ocons o_tb56 (ocons o_tb57 (ocons o_tb58 (ocons o_tb59 (ocons o_tb60 (ocons o_tb61 (ocons o_tb62 (ocons o_tb63 (ocons o_tb64 (ocons o_tb65 (ocons o_tb66 (ocons o_tb67 (ocons o_tb68 (ocons o_tb69 (ocons o_tb70 (ocons o_tb71 (ocons o_tb72 (ocons o_tb73 (ocons o_tb74 (ocons o_tb75 (ocons o_tb76 (ocons o_tb77 (ocons o_tb78 (ocons o_tb79 (ocons o_tb80 (ocons o_tb81 (ocons o_tb82 (ocons o_tb83 (ocons o_tb84 (ocons o_tb85 (ocons o_tb86 (ocons o_tb87 (ocons o_tb88 (ocons o_tb89 (ocons o_tb90 (ocons o_tb91 (ocons o_tb92 (ocons o_tb93 (ocons o_tb94 (ocons o_tb95 (ocons o_tb96 (onil)))))))))))))))))))))))))))))))))))))))))))))))))))))))))))))))))))))))))))))))))))))))))))))))))
theorem o_tk1 : OKM Tryz.prog TT0 18 m_tk1 := okm_run hT (oke_put ok0 ol_ta) c_tk1
theorem o_rd1 : OKM Tryz.prog TT0 5 m_rd1 := okm_run hT (oke_put ok0 (oone o_tk1)) c_rd1
theorem o_lk1 : OKM Tryz.prog TT0 24 m_lk1 := okm_run hT (oke_put ok0 (oone o_rd1)) c_lk1
theorem o_aw : OKM Tryz.prog TT0 4 m_aw := okm_run hT (oke_put (oke_put ok0 (oone o_rd1)) (oone o_lk1)) c_aw
theorem o_tk2 : OKM Tryz.prog TT0 18 m_tk2 := okm_run hT (oke_put ok0 ol_tb) c_tk2
theorem o_rd2 : OKM Tryz.prog TT0 5 m_rd2 := okm_run hT (oke_put ok0 (oone o_tk2)) c_rd2
theorem o_lk2 : OKM Tryz.prog TT0 24 m_lk2 := okm_run hT ok0 c_lk2
theorem o_ri0 : OKM Tryz.prog TT0 188 m_ri0 := okm_run hT ok0 c_ri0
theorem o_ri1 : OKM Tryz.prog TT0 188 m_ri1 := okm_run hT ok0 c_ri1
theorem o_z0 : OKM Tryz.prog TT0 131 m_z0 := okm_run hT ok0 c_z0
theorem o_sz0 : OKM Tryz.prog TT0 197 m_sz0 := okm_run hT ok0 c_sz0
theorem o_sz1 : OKM Tryz.prog TT0 197 m_sz1 := okm_run hT (oke_put ok0 (oone o_sz0)) c_sz1
theorem o_sz2 : OKM Tryz.prog TT0 197 m_sz2 := okm_run hT (oke_put ok0 (oone o_sz1)) c_sz2
theorem o_sz3 : OKM Tryz.prog TT0 197 m_sz3 := okm_run hT (oke_put ok0 (oone o_sz2)) c_sz3
theorem o_sz4 : OKM Tryz.prog TT0 197 m_sz4 := okm_run hT (oke_put ok0 (oone o_sz3)) c_sz4
theorem o_sz5 : OKM Tryz.prog TT0 197 m_sz5 := okm_run hT (oke_put ok0 (oone o_sz4)) c_sz5
theorem o_sz6 : OKM Tryz.prog TT0 197 m_sz6 := okm_run hT (oke_put ok0 (oone o_sz5)) c_sz6
theorem o_sz7 : OKM Tryz.prog TT0 197 m_sz7 := okm_run hT (oke_put ok0 (oone o_sz6)) c_sz7
theorem o_sz8 : OKM Tryz.prog TT0 197 m_sz8 := okm_run hT (oke_put ok0 (oone o_sz7)) c_sz8
theorem o_sz9 : OKM Tryz.prog TT0 197 m_sz9 := okm_run hT (oke_put ok0 (oone o_sz8)) c_sz9
theorem o_sz10 : OKM Tryz.prog TT0 197 m_sz10 := okm_run hT (oke_put ok0 (oone o_sz9)) c_sz10
theorem ol_sz : ∀ x ∈ l_sz, OKM Tryz.prog TT0 197 x := ocons o_sz10 (ocons o_sz9 (ocons o_sz8 (ocons o_sz7 (ocons o_sz6 (ocons o_sz5 (ocons o_sz4 (ocons o_sz3 (ocons o_sz2 (ocons o_sz1 (ocons o_sz0 (onil)))))))))))
theorem okER : OKE Tryz.prog TT0 ER := oke_put (oke_put ok0 (ocons o_ri1 (oone o_ri0))) (oone o_z0)
theorem okb2 : OKE Tryz.prog TT0 Eb2 := oke_put (oke_put okb (ocons o_ri1 (oone o_ri0))) (oone o_z0)
theorem o_ro0 : OKM Tryz.prog TT0 30 m_ro0 := okm_run hT (oke_put okER (oone o_sz0)) c_ro0
theorem o_ro1 : OKM Tryz.prog TT0 30 m_ro1 := okm_run hT (oke_put okER (oone o_sz1)) c_ro1
theorem o_ro2 : OKM Tryz.prog TT0 30 m_ro2 := okm_run hT (oke_put okER (oone o_sz2)) c_ro2
theorem o_ro3 : OKM Tryz.prog TT0 30 m_ro3 := okm_run hT (oke_put okER (oone o_sz3)) c_ro3
theorem o_ro4 : OKM Tryz.prog TT0 30 m_ro4 := okm_run hT (oke_put okER (oone o_sz4)) c_ro4
theorem o_ro5 : OKM Tryz.prog TT0 30 m_ro5 := okm_run hT (oke_put okER (oone o_sz5)) c_ro5
theorem o_ro6 : OKM Tryz.prog TT0 30 m_ro6 := okm_run hT (oke_put okER (oone o_sz6)) c_ro6
theorem o_ro7 : OKM Tryz.prog TT0 30 m_ro7 := okm_run hT (oke_put okER (oone o_sz7)) c_ro7
theorem o_ro8 : OKM Tryz.prog TT0 30 m_ro8 := okm_run hT (oke_put okER (oone o_sz8)) c_ro8
theorem o_ro9 : OKM Tryz.prog TT0 30 m_ro9 := okm_run hT (oke_put okER (oone o_sz9)) c_ro9
theorem o_ro10 : OKM Tryz.prog TT0 30 m_ro10 := okm_run hT (oke_put okER ol_sz) c_ro10
theorem ol_ro : ∀ x ∈ l_ro, OKM Tryz.prog TT0 30 x := ocons o_ro0 (ocons o_ro1 (ocons o_ro2 (ocons o_ro3 (ocons o_ro4 (ocons o_ro5 (ocons o_ro6 (ocons o_ro7 (ocons o_ro8 (ocons o_ro9 (ocons o_ro10 (onil)))))))))))
theorem o_cp0 : OKM Tryz.prog TT0 14 m_cp0 := okm_run hT ok0 c_cp0
theorem o_cp1 : OKM Tryz.prog TT0 14 m_cp1 := okm_run hT (oke_put ok0 (oone o_cp0)) c_cp1
theorem o_cp2 : OKM Tryz.prog TT0 14 m_cp2 := okm_run hT (oke_put ok0 (oone o_cp1)) c_cp2
theorem o_cp3 : OKM Tryz.prog TT0 14 m_cp3 := okm_run hT (oke_put ok0 (oone o_cp2)) c_cp3
theorem o_cp4 : OKM Tryz.prog TT0 14 m_cp4 := okm_run hT (oke_put ok0 (oone o_cp3)) c_cp4
theorem o_cp5 : OKM Tryz.prog TT0 14 m_cp5 := okm_run hT (oke_put ok0 (oone o_cp4)) c_cp5
theorem o_cp6 : OKM Tryz.prog TT0 14 m_cp6 := okm_run hT (oke_put ok0 (oone o_cp5)) c_cp6
theorem o_cp7 : OKM Tryz.prog TT0 14 m_cp7 := okm_run hT (oke_put ok0 (oone o_cp6)) c_cp7
theorem o_cp8 : OKM Tryz.prog TT0 14 m_cp8 := okm_run hT (oke_put ok0 (oone o_cp7)) c_cp8
theorem o_cp9 : OKM Tryz.prog TT0 14 m_cp9 := okm_run hT (oke_put ok0 (oone o_cp8)) c_cp9
theorem o_cp10 : OKM Tryz.prog TT0 14 m_cp10 := okm_run hT (oke_put ok0 (oone o_cp9)) c_cp10
theorem o_vo8 : OKM Tryz.prog TT0 9 m_vo8 := okm_sim hT okb c_vo8
theorem o_cx10 : OKM Tryz.prog TT0 14 m_cx10 := okm_sim hT (oke_put okb (oone o_cp10)) c_cx10
theorem o_vx10 : OKM Tryz.prog TT0 9 m_vx10 := okm_sim hT (oke_put okb (oone o_vo8)) c_vx10
theorem o_lp1018 : OKM Tryz.prog TT0 98 (lpLo 1018) := okm_hint (t := hnLo 1018) hT okb2 c_lp1018
theorem o_lp1019 : OKM Tryz.prog TT0 98 (lpLo 1019) := okm_hint (t := hnLo 1019) hT okb2 c_lp1019
theorem o_lp1020 : OKM Tryz.prog TT0 98 (lpLo 1020) := okm_hint (t := hnLo 1020) hT okb2 c_lp1020
theorem o_lp1021 : OKM Tryz.prog TT0 98 (lpLo 1021) := okm_hint (t := hnLo 1021) hT okb2 c_lp1021
theorem o_lp1022 : OKM Tryz.prog TT0 98 (lpLo 1022) := okm_hint (t := hnLo 1022) hT okb2 c_lp1022
theorem o_lp1023 : OKM Tryz.prog TT0 98 (lpLo 1023) := okm_hint (t := hnLo 1023) hT okb2 c_lp1023
theorem o_lp1024 : OKM Tryz.prog TT0 98 (lpLo 1024) := okm_hint (t := hnLo 1024) hT okb2 c_lp1024
theorem o_lp1025 : OKM Tryz.prog TT0 98 (lpHi 1025) := okm_hint (t := hnHi 1025) hT okb2 c_lp1025
theorem o_lp1026 : OKM Tryz.prog TT0 98 (lpHi 1026) := okm_hint (t := hnHi 1026) hT okb2 c_lp1026
theorem o_lp1027 : OKM Tryz.prog TT0 98 (lpHi 1027) := okm_hint (t := hnHi 1027) hT okb2 c_lp1027
theorem put_fns (E : Env) (f : Nat) (l : List Memo) : (E.put f l).fns = E.fns := rfl
theorem exact_fns (E : Env) (f : Nat) (m : Memo) : (E.exact f m).fns = E.fns := rfl
theorem withP_fns (E : Env) (q : List AV → H → Option CR) : (withP E q).fns = E.fns := rfl
theorem gc_fns (E : Env) (t : Tr Unit) : ({ E with gc := t } : Env).fns = E.fns := rfl
theorem EA_fns (n : Nat) (m : Memo) : (EAd n m).fns = Eb.fns := by
  unfold EAd EA0
  rw [withP_fns, put_fns, put_fns, put_fns, put_fns, put_fns]
theorem EB0_fns : EB0.fns = Eb.fns := by
  unfold EB0 Eb2
  rw [put_fns, put_fns, put_fns, put_fns]
theorem EB_fns (m : Memo) (l : List Memo) : ((EB0.put 14 [m]).put 9 l).fns = Eb.fns := by rw [put_fns, put_fns, EB0_fns]
theorem EB10_fns : EB10.fns = Eb.fns := by
  unfold EB10
  rw [exact_fns, exact_fns, gc_fns, EB0_fns]
theorem stageA (d : Nat) (h : d < 10) : ∃ m, OKM Tryz.prog TT0 98 m ∧ cutN (1018 + d) m = true := by
  have hd : d = 0 ∨ d = 1 ∨ d = 2 ∨ d = 3 ∨ d = 4 ∨ d = 5 ∨ d = 6 ∨ d = 7 ∨ d = 8 ∨ d = 9 := by omega
  rcases hd with rfl | rfl | rfl | rfl | rfl | rfl | rfl | rfl | rfl | rfl
  · exact ⟨_, o_lp1018, c_cut1018⟩
  · exact ⟨_, o_lp1019, c_cut1019⟩
  · exact ⟨_, o_lp1020, c_cut1020⟩
  · exact ⟨_, o_lp1021, c_cut1021⟩
  · exact ⟨_, o_lp1022, c_cut1022⟩
  · exact ⟨_, o_lp1023, c_cut1023⟩
  · exact ⟨_, o_lp1024, c_cut1024⟩
  · exact ⟨_, o_lp1025, c_cut1025⟩
  · exact ⟨_, o_lp1026, c_cut1026⟩
  · exact ⟨_, o_lp1027, c_cut1027⟩
theorem okEA {m : Memo} (hm : OKM Tryz.prog TT0 98 m) : OKE Tryz.prog TT0 (EA0.put 98 [m]) :=
  oke_put (oke_put (oke_put (oke_put (oke_put okb (oone o_aw)) (oone o_rd2)) (oone o_lk2)) (ocons o_ri1 (oone o_ri0))) (oone hm)
theorem okEB {m : Memo} {l : List Memo} (hm : OKM Tryz.prog TT0 14 m) (hl : ∀ x ∈ l, OKM Tryz.prog TT0 9 x) : OKE Tryz.prog TT0 ((EB0.put 14 [m]).put 9 l) :=
  oke_put (oke_put (oke_put (oke_put okb2 (oone o_lk2)) ol_ro) (oone hm)) hl
theorem int_VR {ρ : Rho} {d : Nat} (h : d < 100) : VR ρ (.int .i64 d) (.int .i64 (d : Int)) :=
  ⟨show d < 18446744073709551616 by omega, by rw [toI_lt (k := .i64) (show d < 9223372036854775808 by omega)]⟩
theorem big_VR {ρ : Rho} {k : Int} (h1 : 11 ≤ k) (h2 : k < 70) (h : ρ.sy 3 = k) : VR ρ kBig (.int .i64 k) := by
  show Value.int .i64 k = .int .i64 (clampI 11 69 (ρ.sy 3) + 0)
  rw [h, clampI_in (by omega) (by omega), Int.add_zero]
theorem okEB10 : OKE Tryz.prog TT0 EB10 := oke_exact (oke_exact (oke_gc (oke_put (oke_put okb2 (oone o_lk2)) ol_ro) _) o_cx10) o_vx10
theorem stageB (k : Int) (h1 : 0 ≤ k) (h2 : k < 70) : ∃ (E : Env) (v : AV), OKE Tryz.prog TT0 E ∧ E.fns = Eb.fns ∧ (∀ ρ : Rho, ρ.sy 3 = k → VR ρ v (.int .i64 k)) ∧ restC (withP E (pickB v)) 10000 3 6 frX hX = true := by
  have hk : k = 0 ∨ k = 1 ∨ k = 2 ∨ k = 3 ∨ k = 4 ∨ k = 5 ∨ k = 6 ∨ k = 7 ∨ k = 8 ∨ k = 9 ∨ k = 10 ∨ 11 ≤ k := by omega
  rcases hk with rfl | rfl | rfl | rfl | rfl | rfl | rfl | rfl | rfl | rfl | rfl | hk
  · exact ⟨_, _, okEB o_cp0 onil, EB_fns _ _, fun ρ _ => int_VR (d := 0) (by omega), c_rest0⟩
  · exact ⟨_, _, okEB o_cp1 onil, EB_fns _ _, fun ρ _ => int_VR (d := 1) (by omega), c_rest1⟩
  · exact ⟨_, _, okEB o_cp2 onil, EB_fns _ _, fun ρ _ => int_VR (d := 2) (by omega), c_rest2⟩
  · exact ⟨_, _, okEB o_cp3 onil, EB_fns _ _, fun ρ _ => int_VR (d := 3) (by omega), c_rest3⟩
  · exact ⟨_, _, okEB o_cp4 onil, EB_fns _ _, fun ρ _ => int_VR (d := 4) (by omega), c_rest4⟩
  · exact ⟨_, _, okEB o_cp5 onil, EB_fns _ _, fun ρ _ => int_VR (d := 5) (by omega), c_rest5⟩
  · exact ⟨_, _, okEB o_cp6 onil, EB_fns _ _, fun ρ _ => int_VR (d := 6) (by omega), c_rest6⟩
  · exact ⟨_, _, okEB o_cp7 onil, EB_fns _ _, fun ρ _ => int_VR (d := 7) (by omega), c_rest7⟩
  · exact ⟨_, _, okEB o_cp8 (oone o_vo8), EB_fns _ _, fun ρ _ => int_VR (d := 8) (by omega), c_rest8⟩
  · exact ⟨_, _, okEB o_cp9 (oone o_vo8), EB_fns _ _, fun ρ _ => int_VR (d := 9) (by omega), c_rest9⟩
  · exact ⟨_, _, okEB10, EB10_fns, fun ρ _ => int_VR (d := 10) (by omega), c_rest10⟩
  · exact ⟨_, _, okEB o_cp0 onil, EB_fns _ _, fun ρ h => big_VR hk h2 h, c_restBig⟩
theorem kept_refl (w : World) : KeptAll w w := ⟨rfl, rfl, Nat.le_refl _, fun _ _ => rfl⟩
section pick
variable {ro : Option (Nat × Obj)} {S : (Nat → Int) → Prop} {E : Env} (hE : EnvOK (theLp TT0 1 ro S) E Tryz.prog TT0 1)
include hE
theorem pickA_ok {d : AV} (hy : ∀ y, S y → -9223372036854775808 ≤ y 0 ∧ y 0 ≤ 9223372036854775807) (hd : ∀ ρ : Rho, S ρ.sy → VR ρ d (.int .i64 (pickV (ρ.sy 0) 10))) : EnvOK (theLp TT0 1 ro S) (withP E (pickA d)) Tryz.prog TT0 1 := by
  refine tell_ok hE fun args h cr hcr ρ w args' hr hg ha => .inr ?_
  unfold pickA at hcr
  split at hcr
  case h_2 => cases hcr
  rename_i a b
  split at hcr
  case h_2 => cases hcr
  rename_i hc
  cases hcr
  simp only [Bool.and_eq_true] at hc
  have ea := same_eq _ _ hc.1
  have eb := same_eq _ _ hc.2
  subst ea eb
  obtain ⟨v1, l1, e1, h1, v2, l2, e2, h2, h3⟩ := ha
  have h1 : v1 = .int .i64 ((argI 0).val ρ.sy) := h1
  have h2 : _ ∧ v2 = .int .i64 (toI .i64 10) := h2
  have h3 : l2 = [] := h3
  rw [argI_val (hy _ hr.sy).1 (hy _ hr.sy).2] at h1
  have ea : args' = #[.int .i64 (ρ.sy 0), .int .i64 10] := by
    apply Array.toList_inj.1
    rw [e1, e2, h3, h1, h2.2]
    rfl
  subst ea
  refine ⟨callFunc_ok Tryz.func6 rfl rfl _ _, fun cs => LG.kept hr (hd ρ hr.sy) ?_ cs⟩
  exact (pick10 (ρ.sy 0) w).mono fun e w' ⟨he, hw⟩ => ⟨he, by subst hw; exact kept_refl _⟩
theorem pickB_ok {d : AV} (hy : ∀ y, S y → -9223372036854775808 ≤ y 1 ∧ y 1 ≤ 9223372036854775807) (hd : ∀ ρ : Rho, S ρ.sy → VR ρ d (.int .i64 (pickV (ρ.sy 1) 70))) : EnvOK (theLp TT0 1 ro S) (withP E (pickB d)) Tryz.prog TT0 1 := by
  refine tell_ok hE fun args h cr hcr ρ w args' hr hg ha => .inr ?_
  unfold pickB at hcr
  split at hcr
  case h_2 => cases hcr
  rename_i a b
  split at hcr
  case h_2 => cases hcr
  rename_i hc
  cases hcr
  simp only [Bool.and_eq_true] at hc
  have ea := same_eq _ _ hc.1
  have eb := same_eq _ _ hc.2
  subst ea eb
  obtain ⟨v1, l1, e1, h1, v2, l2, e2, h2, h3⟩ := ha
  have h1 : v1 = .int .i64 ((argI 1).val ρ.sy) := h1
  have h2 : _ ∧ v2 = .int .i64 (toI .i64 70) := h2
  have h3 : l2 = [] := h3
  rw [argI_val (hy _ hr.sy).1 (hy _ hr.sy).2] at h1
  have ea : args' = #[.int .i64 (ρ.sy 1), .int .i64 70] := by
    apply Array.toList_inj.1
    rw [e1, e2, h3, h1, h2.2]
    rfl
  subst ea
  refine ⟨callFunc_ok Tryz.func6 rfl rfl _ _, fun cs => LG.kept hr (hd ρ hr.sy) ?_ cs⟩
  exact (pick70 (ρ.sy 1) w).mono fun e w' ⟨he, hw⟩ => ⟨he, by subst hw; exact kept_refl _⟩
end pick
theorem known_one : known.all oneC = true := rfl
/-- THE WALK. -/
theorem walk (a b : Int) (ha1 : -9223372036854775808 ≤ a) (ha2 : a ≤ 9223372036854775807) (hb1 : -9223372036854775808 ≤ b) (hb2 : b ≤ 9223372036854775807) (W : World) {c : Array Value} {e : TypeId} {fz : Nat × Nat} (h0 : W.heap[0]? = some (.cells c e fz)) (hl : ∀ ρ : Rho, VRs ρ known c.toList) :
    Calls Tryz.prog 3 #[.int .i64 a, .int .i64 b] W fun e w' => e = .returned (.bool true) ∧ KeptAll W w' := by
  obtain ⟨p1, p2⟩ := pickV_in a 10 (by omega)
  obtain ⟨q1, q2⟩ := pickV_in b 70 (by omega)
  obtain ⟨d, hd⟩ : ∃ d : Nat, pickV a 10 = d := ⟨(pickV a 10).toNat, by omega⟩
  obtain ⟨m, hm, hA⟩ := stageA d (by omega)
  obtain ⟨E2, v, hE2, hf2, hv, hB⟩ := stageB (pickV b 70) q1 q2
  let sy : Nat → Int := fun i => if i = 0 then a else if i = 1 then b else if i = 3 then pickV b 70 else 0
  have s0 : sy 0 = a := rfl
  have s1 : sy 1 = b := rfl
  have s3 : sy 3 = pickV b 70 := rfl
  refine law3 hT hl known_one h0 rfl (sy := sy) (EA := EAd (1018 + d) m) (EB := withP E2 (pickB v)) (fun ro hro => ?_) (fun ro hro => ?_) (((withP_fns _ _).trans hf2).trans (EA_fns _ _).symm) hA hB ha1 ha2 hb1 hb2 s0 s1
  · refine pickA_ok (okEA hm ro _ hro) (fun y hy => ?_) fun ρ hρ => ?_
    · rw [show y = sy from hy, s0]; exact ⟨ha1, ha2⟩
    · rw [show ρ.sy = sy from hρ, s0, hd, show 1018 + d - 1018 = d by omega]
      exact int_VR (by omega)
  · refine pickB_ok (hE2 ro _ hro) (fun y hy => ?_) fun ρ hρ => ?_
    · rw [show y = sy from hy, s1]; exact ⟨hb1, hb2⟩
    · rw [show ρ.sy = sy from hρ, s1]
      exact hv ρ (by rw [show ρ.sy = sy from hρ, s3])
end Go.Proofs.YtibhfcbgmlhojaaGreatDoor
