/- Part 7 of a proof that a law of the program answers true for every input. -/
import Derived.Laws.Cover1
import Derived.Test.YtcjbghmhdefdiaaD2
import Derived.Test.YtcjbghmhdefdiaaD3
set_option linter.unusedSimpArgs false
set_option linter.unusedVariables false
namespace Go.Proofs.Ytcjbghmhdefdiaa.S
abbrev tb7_0 : Array Bool := #[false, false, false, false, false, false, false, false, false, false, false, false, false, false, false, false, false, false, false, false, false, false, false, false, false]
abbrev tb7_1 : Array Bool := #[true, false, false, false, false, false, false, false, false, false, false, false, false, false, false, false, false, false, false, false, false, false, false, false, false]
abbrev tb7_2 : Array Bool := #[true, false, true, false, false, false, false, false, false, false, false, false, false, false, false, false, false, false, false, false, false, false, false, false, false]
abbrev tb7_3 : Array Bool := #[true, true, true, false, false, false, false, false, false, false, false, false, false, false, false, false, false, false, false, false, false, false, false, false, false]
abbrev tb7_4 : Array Bool := #[true, true, true, true, false, false, false, false, false, false, false, false, false, false, false, false, false, false, false, false, false, false, false, false, false]
abbrev tb7_5 : Array Bool := #[true, true, true, true, true, false, false, false, false, false, false, false, false, false, false, false, false, false, false, false, false, false, false, false, false]
abbrev tb7_6 : Array Bool := #[true, true, true, true, true, true, false, false, false, false, false, false, false, false, false, false, false, false, false, false, false, false, false, false, false]
abbrev tb7_7 : Array Bool := #[true, true, true, true, true, true, true, false, false, false, false, false, false, false, false, false, false, false, false, false, false, false, false, false, false]
abbrev tb7_8 : Array Bool := #[true, true, true, true, true, true, true, true, false, false, false, false, false, false, false, false, false, false, false, false, false, false, false, false, false]
abbrev tb7_9 : Array Bool := #[true, true, true, true, true, true, true, true, true, false, false, false, false, false, false, false, false, false, false, false, false, false, false, false, false]
abbrev tb7_10 : Array Bool := #[true, true, true, true, true, true, true, true, true, true, false, false, false, false, false, false, false, false, false, false, false, false, false, false, false]
abbrev tb7_11 : Array Bool := #[true, true, true, true, true, true, true, true, true, true, true, false, false, false, false, false, false, false, false, false, false, false, false, false, false]
abbrev tb7_12 : Array Bool := #[true, true, true, true, true, true, true, true, true, true, true, true, false, false, false, false, false, false, false, false, false, false, false, false, false]
abbrev tb7_13 : Array Bool := #[true, true, true, true, true, true, true, true, true, true, true, true, false, true, false, false, false, false, false, false, false, false, false, false, false]
abbrev tb7_14 : Array Bool := #[true, true, true, true, true, true, true, true, true, true, true, true, false, true, true, false, false, false, false, false, false, false, false, false, false]
abbrev tb7_15 : Array Bool := #[true, true, true, true, true, true, true, true, true, true, true, true, false, true, true, false, false, true, false, false, false, false, false, false, false]
abbrev tb7_16 : Array Bool := #[true, true, true, true, true, true, true, true, true, true, true, true, false, true, true, false, false, true, false, true, false, false, false, false, false]
abbrev tb7_17 : Array Bool := #[true, true, true, true, true, true, true, true, true, true, true, true, true, true, true, false, false, true, false, true, false, false, false, false, false]
abbrev tb7_18 : Array Bool := #[true, true, true, true, true, true, true, true, true, true, true, true, true, true, true, true, false, true, false, true, false, false, false, false, false]
abbrev tb7_19 : Array Bool := #[true, true, true, true, true, true, true, true, true, true, true, true, true, true, true, true, true, true, false, true, false, false, false, false, false]
abbrev tb7_20 : Array Bool := #[true, true, true, true, true, true, true, true, true, true, true, true, true, true, true, true, true, true, true, true, false, false, false, false, false]
abbrev tb7_21 : Array Bool := #[true, true, true, true, true, true, true, true, true, true, true, true, true, true, true, true, true, true, true, true, true, false, false, false, false]
abbrev tb7_22 : Array Bool := #[true, true, true, true, true, true, true, true, true, true, true, true, true, true, true, true, true, true, true, true, true, true, false, false, false]
abbrev tb7_23 : Array Bool := #[true, true, true, true, true, true, true, true, true, true, true, true, true, true, true, true, true, true, true, true, true, true, true, false, false]
abbrev tb7_24 : Array Bool := #[true, true, true, true, true, true, true, true, true, true, true, true, true, true, true, true, true, true, true, true, true, true, true, true, false]
abbrev tb7_25 : Array Bool := #[true, true, true, true, true, true, true, true, true, true, true, true, true, true, true, true, true, true, true, true, true, true, true, true, true]
abbrev tb7_26 : Array Bool := #[true, true, true, true, true, true, true, true, true, true, true, true, true, false, false, false, false, false, false, false, false, false, false, false, false]
abbrev tb7_27 : Array Bool := #[true, true, true, true, true, true, true, true, true, true, true, true, true, true, false, false, false, false, false, false, false, false, false, false, false]
abbrev tb7_28 : Array Bool := #[true, true, true, true, true, true, true, true, true, true, true, true, true, true, true, false, false, false, false, false, false, false, false, false, false]
abbrev tb7_29 : Array Bool := #[true, true, true, true, true, true, true, true, true, true, true, true, true, true, true, true, false, false, false, false, false, false, false, false, false]
abbrev tb7_30 : Array Bool := #[true, true, true, true, true, true, true, true, true, true, true, true, true, true, true, true, true, false, false, false, false, false, false, false, false]
abbrev tb7_31 : Array Bool := #[true, true, true, true, true, true, true, true, true, true, true, true, true, true, true, true, true, true, false, false, false, false, false, false, false]
abbrev tb7_32 : Array Bool := #[true, true, true, true, true, true, true, true, true, true, true, true, true, true, true, true, true, true, true, false, false, false, false, false, false]
abbrev tb7_33 : Array Bool := #[false, false, false, false, false, false, false, false, false, false, false, false, false, false, false, false, false, false, false, false, false, false, false, false, false, false, false, false, false, false, false, false, false, false, false, false, false, false, false, false, false, false, false, false, false, false, false, false, false, false]
abbrev tb7_34 : Array Bool := #[true, false, false, false, false, false, false, false, false, false, false, false, false, false, false, false, false, false, false, false, false, false, false, false, false, false, false, false, false, false, false, false, false, false, false, false, false, false, false, false, false, false, false, false, false, false, false, false, false, false]
abbrev tb7_35 : Array Bool := #[true, true, false, false, false, false, false, false, false, false, false, false, false, false, false, false, false, false, false, false, false, false, false, false, false, false, false, false, false, false, false, false, false, false, false, false, false, false, false, false, false, false, false, false, false, false, false, false, false, false]
abbrev tb7_36 : Array Bool := #[true, true, true, false, false, false, false, false, false, false, false, false, false, false, false, false, false, false, false, false, false, false, false, false, false, false, false, false, false, false, false, false, false, false, false, false, false, false, false, false, false, false, false, false, false, false, false, false, false, false]
abbrev tb7_37 : Array Bool := #[true, true, true, true, false, false, false, false, false, false, false, false, false, false, false, false, false, false, false, false, false, false, false, false, false, false, false, false, false, false, false, false, false, false, false, false, false, false, false, false, false, false, false, false, false, false, false, false, false, false]
abbrev tb7_38 : Array Bool := #[true, true, true, true, true, false, false, false, false, false, false, false, false, false, false, false, false, false, false, false, false, false, false, false, false, false, false, false, false, false, false, false, false, false, false, false, false, false, false, false, false, false, false, false, false, false, false, false, false, false]
abbrev tb7_39 : Array Bool := #[true, true, true, true, true, false, true, false, false, false, false, false, false, false, false, false, false, false, false, false, false, false, false, false, false, false, false, false, false, false, false, false, false, false, false, false, false, false, false, false, false, false, false, false, false, false, false, false, false, false]
abbrev tb7_40 : Array Bool := #[true, true, true, true, true, true, true, false, false, false, false, false, false, false, false, false, false, false, false, false, false, false, false, false, false, false, false, false, false, false, false, false, false, false, false, false, false, false, false, false, false, false, false, false, false, false, false, false, false, false]
abbrev tb7_41 : Array Bool := #[true, true, true, true, true, true, true, true, false, false, false, false, false, false, false, false, false, false, false, false, false, false, false, false, false, false, false, false, false, false, false, false, false, false, false, false, false, false, false, false, false, false, false, false, false, false, false, false, false, false]
abbrev tb7_42 : Array Bool := #[true, true, true, true, true, true, true, true, true, false, false, false, false, false, false, false, false, false, false, false, false, false, false, false, false, false, false, false, false, false, false, false, false, false, false, false, false, false, false, false, false, false, false, false, false, false, false, false, false, false]
abbrev tb7_43 : Array Bool := #[true, true, true, true, true, true, true, true, true, true, false, false, false, false, false, false, false, false, false, false, false, false, false, false, false, false, false, false, false, false, false, false, false, false, false, false, false, false, false, false, false, false, false, false, false, false, false, false, false, false]
abbrev tb7_44 : Array Bool := #[true, true, true, true, true, true, true, true, true, true, true, false, false, false, false, false, false, false, false, false, false, false, false, false, false, false, false, false, false, false, false, false, false, false, false, false, false, false, false, false, false, false, false, false, false, false, false, false, false, false]
abbrev tb7_45 : Array Bool := #[true, true, true, true, true, true, true, true, true, true, true, true, false, false, false, false, false, false, false, false, false, false, false, false, false, false, false, false, false, false, false, false, false, false, false, false, false, false, false, false, false, false, false, false, false, false, false, false, false, false]
abbrev tb7_46 : Array Bool := #[true, true, true, true, true, true, true, true, true, true, true, true, true, false, false, false, false, false, false, false, false, false, false, false, false, false, false, false, false, false, false, false, false, false, false, false, false, false, false, false, false, false, false, false, false, false, false, false, false, false]
abbrev tb7_47 : Array Bool := #[true, true, true, true, true, true, true, true, true, true, true, true, true, true, false, false, false, false, false, false, false, false, false, false, false, false, false, false, false, false, false, false, false, false, false, false, false, false, false, false, false, false, false, false, false, false, false, false, false, false]
abbrev tb7_48 : Array Bool := #[true, true, true, true, true, true, true, true, true, true, true, true, true, true, true, false, false, false, false, false, false, false, false, false, false, false, false, false, false, false, false, false, false, false, false, false, false, false, false, false, false, false, false, false, false, false, false, false, false, false]
abbrev tb7_49 : Array Bool := #[true, true, true, true, true, true, true, true, true, true, true, true, true, true, true, true, false, false, false, false, false, false, false, false, false, false, false, false, false, false, false, false, false, false, false, false, false, false, false, false, false, false, false, false, false, false, false, false, false, false]
abbrev tb7_50 : Array Bool := #[true, true, true, true, true, true, true, true, true, true, true, true, true, true, true, true, true, false, false, false, false, false, false, false, false, false, false, false, false, false, false, false, false, false, false, false, false, false, false, false, false, false, false, false, false, false, false, false, false, false]
abbrev tb7_51 : Array Bool := #[true, true, true, true, true, true, true, true, true, true, true, true, true, true, true, true, true, false, true, false, false, false, false, false, false, false, false, false, false, false, false, false, false, false, false, false, false, false, false, false, false, false, false, false, false, false, false, false, false, false]
abbrev tb7_52 : Array Bool := #[true, true, true, true, true, true, true, true, true, true, true, true, true, true, true, true, true, true, true, false, false, false, false, false, false, false, false, false, false, false, false, false, false, false, false, false, false, false, false, false, false, false, false, false, false, false, false, false, false, false]
abbrev tb7_53 : Array Bool := #[true, true, true, true, true, true, true, true, true, true, true, true, true, true, true, true, true, true, true, true, false, false, false, false, false, false, false, false, false, false, false, false, false, false, false, false, false, false, false, false, false, false, false, false, false, false, false, false, false, false]
abbrev tb7_54 : Array Bool := #[true, true, true, true, true, true, true, true, true, true, true, true, true, true, true, true, true, true, true, true, true, false, false, false, false, false, false, false, false, false, false, false, false, false, false, false, false, false, false, false, false, false, false, false, false, false, false, false, false, false]
abbrev tb7_55 : Array Bool := #[true, true, true, true, true, true, true, true, true, true, true, true, true, true, true, true, true, true, true, true, true, true, false, false, false, false, false, false, false, false, false, false, false, false, false, false, false, false, false, false, false, false, false, false, false, false, false, false, false, false]
abbrev tb7_56 : Array Bool := #[true, true, true, true, true, true, true, true, true, true, true, true, true, true, true, true, true, true, true, true, true, true, true, false, false, false, false, false, false, false, false, false, false, false, false, false, false, false, false, false, false, false, false, false, false, false, false, false, false, false]
abbrev tb7_57 : Array Bool := #[true, true, true, true, true, true, true, true, true, true, true, true, true, true, true, true, true, true, true, true, true, true, true, true, false, false, false, false, false, false, false, false, false, false, false, false, false, false, false, false, false, false, false, false, false, false, false, false, false, false]
abbrev tb7_58 : Array Bool := #[true, true, true, true, true, true, true, true, true, true, true, true, true, true, true, true, true, true, true, true, true, true, true, true, true, false, false, false, false, false, false, false, false, false, false, false, false, false, false, false, false, false, false, false, false, false, false, false, false, false]
abbrev tb7_59 : Array Bool := #[true, true, true, true, true, true, true, true, true, true, true, true, true, true, true, true, true, true, true, true, true, true, true, true, true, true, false, false, false, false, false, false, false, false, false, false, false, false, false, false, false, false, false, false, false, false, false, false, false, false]
abbrev tb7_60 : Array Bool := #[true, true, true, true, true, true, true, true, true, true, true, true, true, true, true, true, true, true, true, true, true, true, true, true, true, true, true, false, false, false, false, false, false, false, false, false, false, false, false, false, false, false, false, false, false, false, false, false, false, false]
abbrev tb7_61 : Array Bool := #[true, true, true, true, true, true, true, true, true, true, true, true, true, true, true, true, true, true, true, true, true, true, true, true, true, true, true, true, false, false, false, false, false, false, false, false, false, false, false, false, false, false, false, false, false, false, false, false, false, false]
abbrev tb7_62 : Array Bool := #[true, true, true, true, true, true, true, true, true, true, true, true, true, true, true, true, true, true, true, true, true, true, true, true, true, true, true, true, true, false, false, false, false, false, false, false, false, false, false, false, false, false, false, false, false, false, false, false, false, false]
abbrev tb7_63 : Array Bool := #[true, true, true, true, true, true, true, true, true, true, true, true, true, true, true, true, true, true, true, true, true, true, true, true, true, true, true, true, true, false, true, false, false, false, false, false, false, false, false, false, false, false, false, false, false, false, false, false, false, false]
abbrev tb7_64 : Array Bool := #[true, true, true, true, true, true, true, true, true, true, true, true, true, true, true, true, true, true, true, true, true, true, true, true, true, true, true, true, true, true, true, false, false, false, false, false, false, false, false, false, false, false, false, false, false, false, false, false, false, false]
abbrev tb7_65 : Array Bool := #[true, true, true, true, true, true, true, true, true, true, true, true, true, true, true, true, true, true, true, true, true, true, true, true, true, true, true, true, true, true, true, true, false, false, false, false, false, false, false, false, false, false, false, false, false, false, false, false, false, false]
abbrev tb7_66 : Array Bool := #[true, true, true, true, true, true, true, true, true, true, true, true, true, true, true, true, true, true, true, true, true, true, true, true, true, true, true, true, true, true, true, true, true, false, false, false, false, false, false, false, false, false, false, false, false, false, false, false, false, false]
abbrev tb7_67 : Array Bool := #[true, true, true, true, true, true, true, true, true, true, true, true, true, true, true, true, true, true, true, true, true, true, true, true, true, true, true, true, true, true, true, true, true, true, false, false, false, false, false, false, false, false, false, false, false, false, false, false, false, false]
abbrev tb7_68 : Array Bool := #[true, true, true, true, true, true, true, true, true, true, true, true, true, true, true, true, true, true, true, true, true, true, true, true, true, true, true, true, true, true, true, true, true, true, true, false, false, false, false, false, false, false, false, false, false, false, false, false, false, false]
abbrev tb7_69 : Array Bool := #[true, true, true, true, true, true, true, true, true, true, true, true, true, true, true, true, true, true, true, true, true, true, true, true, true, true, true, true, true, true, true, true, true, true, true, true, false, false, false, false, false, false, false, false, false, false, false, false, false, false]
abbrev tb7_70 : Array Bool := #[true, true, true, true, true, true, true, true, true, true, true, true, true, true, true, true, true, true, true, true, true, true, true, true, true, true, true, true, true, true, true, true, true, true, true, true, true, false, false, false, false, false, false, false, false, false, false, false, false, false]
abbrev tb7_71 : Array Bool := #[true, true, true, true, true, true, true, true, true, true, true, true, true, true, true, true, true, true, true, true, true, true, true, true, true, true, true, true, true, true, true, true, true, true, true, true, true, true, false, false, false, false, false, false, false, false, false, false, false, false]
abbrev tb7_72 : Array Bool := #[true, true, true, true, true, true, true, true, true, true, true, true, true, true, true, true, true, true, true, true, true, true, true, true, true, true, true, true, true, true, true, true, true, true, true, true, true, true, true, false, false, false, false, false, false, false, false, false, false, false]
abbrev tb7_73 : Array Bool := #[true, true, true, true, true, true, true, true, true, true, true, true, true, true, true, true, true, true, true, true, true, true, true, true, true, true, true, true, true, true, true, true, true, true, true, true, true, true, true, true, false, false, false, false, false, false, false, false, false, false]
abbrev tb7_74 : Array Bool := #[true, true, true, true, true, true, true, true, true, true, true, true, true, true, true, true, true, true, true, true, true, true, true, true, true, true, true, true, true, true, true, true, true, true, true, true, true, true, true, true, false, true, false, false, false, false, false, false, false, false]
abbrev tb7_75 : Array Bool := #[true, true, true, true, true, true, true, true, true, true, true, true, true, true, true, true, true, true, true, true, true, true, true, true, true, true, true, true, true, true, true, true, true, true, true, true, true, true, true, true, false, true, true, false, false, false, false, false, false, false]
abbrev tb7_76 : Array Bool := #[true, true, true, true, true, true, true, true, true, true, true, true, true, true, true, true, true, true, true, true, true, true, true, true, true, true, true, true, true, true, true, true, true, true, true, true, true, true, true, true, true, true, true, false, false, false, false, false, false, false]
abbrev tb7_77 : Array Bool := #[true, true, true, true, true, true, true, true, true, true, true, true, true, true, true, true, true, true, true, true, true, true, true, true, true, true, true, true, true, true, true, true, true, true, true, true, true, true, true, true, true, true, true, true, false, false, false, false, false, false]
abbrev tb7_78 : Array Bool := #[true, true, true, true, true, true, true, true, true, true, true, true, true, true, true, true, true, true, true, true, true, true, true, true, true, true, true, true, true, true, true, true, true, true, true, true, true, true, true, true, true, true, true, true, true, false, false, false, false, false]
abbrev tb7_79 : Array Bool := #[true, true, true, true, true, true, true, true, true, true, true, true, true, true, true, true, true, true, true, true, true, true, true, true, true, true, true, true, true, true, true, true, true, true, true, true, true, true, true, true, true, true, true, true, true, true, false, false, false, false]
abbrev tb7_80 : Array Bool := #[true, true, true, true, true, true, true, true, true, true, true, true, true, true, true, true, true, true, true, true, true, true, true, true, true, true, true, true, true, true, true, true, true, true, true, true, true, true, true, true, true, true, true, true, true, true, true, false, false, false]
abbrev tb7_81 : Array Bool := #[true, true, true, true, true, true, true, true, true, true, true, true, true, true, true, true, true, true, true, true, true, true, true, true, true, true, true, true, true, true, true, true, true, true, true, true, true, true, true, true, true, true, true, true, true, true, true, true, false, false]
abbrev tb7_82 : Array Bool := #[true, true, true, true, true, true, true, true, true, true, true, true, true, true, true, true, true, true, true, true, true, true, true, true, true, true, true, true, true, true, true, true, true, true, true, true, true, true, true, true, true, true, true, true, true, true, true, true, true, false]
abbrev tb7_83 : Array Bool := #[true, true, true, true, true, true, true, true, true, true, true, true, true, true, true, true, true, true, true, true, true, true, true, true, true, true, true, true, true, true, true, true, true, true, true, true, true, true, true, true, true, true, true, true, true, true, true, true, true, true]
abbrev tb7_84 : Array Bool := #[true, true, true, true, true, true, false, false, false, false, false, false, false, false, false, false, false, false, false, false, false, false, false, false, false, false, false, false, false, false, false, false, false, false, false, false, false, false, false, false, false, false, false, false, false, false, false, false, false, false]
abbrev tb7_85 : Array Bool := #[true, true, true, true, true, true, true, true, true, true, true, true, true, true, true, true, true, true, false, false, false, false, false, false, false, false, false, false, false, false, false, false, false, false, false, false, false, false, false, false, false, false, false, false, false, false, false, false, false, false]
abbrev tb7_86 : Array Bool := #[true, true, true, true, true, true, true, true, true, true, true, true, true, true, true, true, true, true, true, true, true, true, true, true, true, true, true, true, true, true, false, false, false, false, false, false, false, false, false, false, false, false, false, false, false, false, false, false, false, false]
abbrev tb7_87 : Array Bool := #[true, true, true, true, true, true, true, true, true, true, true, true, true, true, true, true, true, true, true, true, true, true, true, true, true, true, true, true, true, true, true, true, true, true, true, true, true, true, true, true, true, false, false, false, false, false, false, false, false, false]
abbrev tb7_88 : Array Bool := #[true, true, true, true, true, true, true, true, true, true, true, true, true, true, true, true, true, true, true, true, true, true, true, true, true, true, true, true, true, true, true, true, true, true, true, true, true, true, true, true, true, true, false, false, false, false, false, false, false, false]
end Go.Proofs.Ytcjbghmhdefdiaa.S
namespace Go.Proofs.Ytcjbghmhdefdiaa.S
open Go.RowKit Go.Proofs.YtcjbghmhdefdiaaW.PrintWords Go.Proofs.YtcjbghmhdefdiaaW.PrintLast Go.Proofs.YtcjbghmhdefdiaaW.PrintMore
set_option linter.unusedVariables false
set_option linter.unusedSimpArgs false
def q8.f (n : Int) (ls : List ByteArray) (es : List S55) : Option Bool := some (mayF n ls es)
theorem y9 (a b : S55) : vw.f a.f0 a.f1 a.f2 b.f0 b.f1 b.f2 = some (decide (cmpE a b < 0)) := by
 unfold vw.f cmpE
 repeat' split
 all_goals first | omega | (congr 1; first | (apply decide_eq_decide.2; omega) | (symm; apply decide_eq_true; omega) | (symm; apply decide_eq_false; omega) | (apply decide_eq_true; omega) | (apply decide_eq_false; omega))
theorem jD {p : Nat → Prop} {k : Nat} (h : ∀ j, j < k → p j) (hk : p k) : ∀ j, j < k + 1 → p j := by
 intro j hj
 by_cases h1 : j < k
 ·exact h j h1
 ·obtain rfl : j = k := by omega
  exact hk
set_option maxHeartbeats 4000000 in
set_option maxRecDepth 100000 in
theorem may_walk (n : Int) (A1 : Option Addr) (c1 : Nat) (ls : List ByteArray) (A2 : Option Addr) (c2 : Nat) (es : List S55) (r : Bool) (w : World) (hr1 : Kd.C Kd.string w A1 ls.length ls) (hr2 : Kd.C k55 w A2 es.length es) (h1 : 1 ≤ n) (h2 : n ≤ 2048) (h3 : ls.length ≤ 64) (h4 : es.length ≤ 1000000) (hR : (zG ls && zw n ls.length es) = r) :
  Calls Try.prog 21 #[.agg #[.int .i64 n, .slice A1 ls.length c1, .slice A2 es.length c2]] w fun e w' => e = .returned (.bool r) ∧ Below w.heap.size w w' := by
 have hu25 := Try.underlying25
 have hu55 := Try.underlying55
 have HR1 := qa.mk hr1
 have HR := qa.mk hr2
 have HQ := qa.mk hR
 clear hr1 hr2 hR
 have b1 : decide (n < 1) = false := decide_eq_false (by omega)
 have b2 : decide (2048 < n) = false := decide_eq_false (by omega)
 have b3 : decide (64 < (ls.length : Int)) = false := decide_eq_false (by omega)
 have b4 : decide (64 < ls.length) = false := decide_eq_false (by omega)
 have b5 : decide (1000000 < (es.length : Int)) = false := decide_eq_false (by omega)
 have b6 : decide (1000000 < es.length) = false := decide_eq_false (by omega)
 go_enter Try.func21, Try.ntmps21
 go_wp2
 have BK1 := qa.mk (zY w (.cells #[.int .i64 n, .slice A1 ls.length c1, .slice A2 es.length c2] 25))
 have HB1 := qa.mk (qg (Below.refl w.heap.size w) (.cells #[.int .i64 n, .slice A1 ls.length c1, .slice A2 es.length c2] 25))
 obtain ⟨g1, hg1⟩ : ∃ g1, g1 = w.heap.size := ⟨_, rfl⟩
 rw [← hg1] at BK1 ⊢
 clear hg1 b1 b2 b3 b4 b5 b6
 generalize (w.alloc (.cells #[.int .i64 n, .slice A1 ls.length c1, .slice A2 es.length c2] 25)) = wA at BK1 HB1 ⊢
 go_loopw [3] (fun x wr => ∃ k : Nat, x = .int .i64 k ∧ k ≤ ls.length ∧ qa (∀ j, j < k → wC ls j = true) ∧ qa (wr.heap[g1]? = some (.cells #[.int .i64 n, .slice A1 ls.length c1, .slice A2 es.length c2] 25 (0, 0))) ∧ qa (Below w.heap.size w wr)) (fun x _ => ls.length - (intOf x).toNat)
 case atStart => exact ⟨0, rfl, Nat.zero_le _, ⟨fun j hj => absurd hj (Nat.not_lt_zero _)⟩, BK1, HB1⟩
 case round =>
  clear BK1 HB1
  obtain ⟨k, rfl, hk, HOK, BK, HB⟩ := hrel
  have h3_ := (qj BK.out 0).trans rfl
  have h4_ := (qj BK.out 1).trans rfl
  have h5_ := (qj BK.out 2).trans rfl
  by_cases hlt : k < ls.length
  ·have d1 : decide ((k : Int) < (ls.length : Int)) = true := decide_eq_true (by omega)
   have d2 : decide (k < ls.length) = true := decide_eq_true hlt
   go_wp2
   have n1_ := qa.mk (BK.out)
   have n2_ := qa.mk (HB.out)
   clear BK HB d1 d2
   obtain ⟨ad, ead, x0⟩ := Kd.zy (Kd.qU HR1.out n2_.out) (k : Int) (by omega) (by omega)
   cases ead
   rw [Int.toNat_natCast] at x0
   by_cases e1 : ((rdOf ByteArray.empty ls (k : Int)).size : Int) ≤ 200
   ·have d3 : decide (200 < ((rdOf ByteArray.empty ls (k : Int)).size : Int)) = false := decide_eq_false (by omega)
    have d3b : decide (200 < (rdOf ByteArray.empty ls (k : Int)).size) = false := decide_eq_false (by omega)
    by_cases e2 : 0 < k
    ·have d5 : decide (0 < (k : Int)) = true := decide_eq_true (by omega)
     have d6 : decide (0 < k) = true := decide_eq_true e2
     have hwr : wrap64 ((k : Int) - 1) = (k : Int) - 1 := by unfold wrap64; omega
     have hcE : qa (wC ls k = Op.bytesLess ((rdOf ByteArray.empty ls (wrap64 ((k : Int) - 1))).toList) ((rdOf ByteArray.empty ls (k : Int)).toList)) := ⟨by unfold wC; rw [hwr, decide_eq_true e1, show decide (k = 0) = false from decide_eq_false (by omega)]; simp⟩
     have p1 : (0 ≤ wrap64 ((k : Int) - 1)) = True := eq_true (by rw [hwr]; omega)
     have p2 : (wrap64 ((k : Int) - 1) < (ls.length : Int)) = True := eq_true (by rw [hwr]; omega)
     obtain ⟨ad2, ead, x1⟩ := Kd.zy (Kd.qU HR1.out n2_.out) (wrap64 ((k : Int) - 1)) (of_eq_true p1) (of_eq_true p2)
     cases ead
     clear hwr
     rcases hbl : Op.bytesLess ((rdOf ByteArray.empty ls (wrap64 ((k : Int) - 1))).toList) ((rdOf ByteArray.empty ls (k : Int)).toList) with _ | _
     ·rw [hbl] at hcE
      have hbad : zG ls = false := jr hlt hcE.out
      have hQ := HQ.out
      rw [hbad, Bool.false_and] at hQ
      subst hQ
      clear hbad
      refine zI (n := 25) (S := fun w' => w'.cell? ⟨g1, 0, none⟩ = some (.int .i64 n) ∧ w'.cell? ⟨g1, 1, none⟩ = some (.slice (some ad) ls.length c1) ∧ w'.cell? ⟨g1, 2, none⟩ = some (.slice A2 es.length c2) ∧ w'.cell? (ad.add k) = some (.string (rdOf ByteArray.empty ls (k : Int))) ∧ w'.cell? (ad.add (wrap64 ((k : Int) - 1)).toNat) = some (.string (rdOf ByteArray.empty ls (wrap64 ((k : Int) - 1))))) (ds := []) tb7_0 (by kernel_rfl) rfl rfl ⟨h3_, h4_, h5_, x0, x1⟩ (fun hHeld => ?_)
      refine qy (i := 0) (N := some 33) tb7_1 rfl rfl (by kernel_rfl) (fun _ _ _ h => h) (.inl ⟨by rfl, by intro w'; go_simp; with_reducible rfl⟩) (by simp only [Act.put, sA, sB, sC, qw, qx]; rfl) ?_
      refine qy (i := 2) (N := some 35) tb7_2 rfl rfl (by kernel_rfl) (fun _ _ _ h => h) (.inl ⟨by rfl, by intro w'; go_simp; with_reducible rfl⟩) (by simp only [Act.put, sA, sB, sC, qw, qx]; rfl) ?_
      refine vJ (i := 1) (N := some 34) tb7_3 rfl rfl (by kernel_rfl) (fun _ _ _ h => h) (.inl ⟨by rfl, by rintro w' ⟨s0, s1, s2, s3, s4⟩; go_simp; with_reducible rfl⟩) hHeld (by simp only [Act.put, sA, sB, sC, qw, qx]; rfl) ?_
      refine qy (i := 3) (N := some 36) tb7_4 rfl rfl (by kernel_rfl) (fun _ _ _ h => h) (.inl ⟨by rfl, by intro w'; go_simp; with_reducible rfl⟩) (by simp only [Act.put, sA, sB, sC, qw, qx]; rfl) ?_
      refine vJ (i := 4) (N := some 37) tb7_5 rfl rfl (by kernel_rfl) (fun _ _ _ h => h) (.inl ⟨by rfl, by rintro w' ⟨s0, s1, s2, s3, s4⟩; go_simp; with_reducible rfl⟩) hHeld (by simp only [Act.put, sA, sB, sC, qw, qx]; rfl) ?_
      refine qy (i := 5) (N := some 38) tb7_6 rfl rfl (by kernel_rfl) (fun _ _ _ h => h) (.inl ⟨by rfl, by intro w'; go_simp; with_reducible rfl⟩) (by simp only [Act.put, sA, sB, sC, qw, qx]; rfl) ?_
      refine qy (i := 6) (N := some 39) tb7_7 rfl rfl (by kernel_rfl) (fun _ _ _ h => h) (.inl ⟨by rfl, by intro w'; go_simp; with_reducible rfl⟩) (by simp only [Act.put, sA, sB, sC, qw, qx]; rfl) ?_
      refine qy (i := 7) (N := some 40) tb7_8 rfl rfl (by kernel_rfl) (fun _ _ _ h => h) (.inl ⟨by rfl, by intro w'; go_simp; with_reducible rfl⟩) (by simp only [Act.put, sA, sB, sC, qw, qx]; rfl) ?_
      refine qy (i := 8) (N := some 41) tb7_9 rfl rfl (by kernel_rfl) (fun _ _ _ h => h) (.inl ⟨by rfl, by intro w'; go_simp; with_reducible rfl⟩) (by simp only [Act.put, sA, sB, sC, qw, qx]; rfl) ?_
      refine qy (i := 9) (N := some 42) tb7_10 rfl rfl (by kernel_rfl) (fun _ _ _ h => h) (.inl ⟨by rfl, by intro w'; go_simp; with_reducible rfl⟩) (by simp only [Act.put, sA, sB, sC, qw, qx]; rfl) ?_
      refine qy (i := 10) (N := some 43) tb7_11 rfl rfl (by kernel_rfl) (fun _ _ _ h => h) (.inl ⟨by rfl, by intro w'; go_simp; with_reducible rfl⟩) (by simp only [Act.put, sA, sB, sC, qw, qx]; rfl) ?_
      refine qy (i := 11) (N := some 44) tb7_12 rfl rfl (by kernel_rfl) (fun _ _ _ h => h) (.inl ⟨by rfl, by intro w'; go_simp; with_reducible rfl⟩) (by simp only [Act.put, sA, sB, sC, qw, qx]; rfl) ?_
      refine qy (i := 13) (N := some 46) tb7_13 rfl rfl (by kernel_rfl) (fun _ _ _ h => h) (.inl ⟨by rfl, by intro w'; go_simp; with_reducible rfl⟩) (by simp only [Act.put, sA, sB, sC, qw, qx]; rfl) ?_
      refine qy (i := 14) (N := some 47) tb7_14 rfl rfl (by kernel_rfl) (fun _ _ _ h => h) (.inl ⟨by rfl, by intro w'; go_simp; with_reducible rfl⟩) (by simp only [Act.put, sA, sB, sC, qw, qx]; rfl) ?_
      refine qy (i := 17) (N := some 50) tb7_15 rfl rfl (by kernel_rfl) (fun _ _ _ h => h) (.inl ⟨by rfl, by intro w'; go_simp; with_reducible rfl⟩) (by simp only [Act.put, sA, sB, sC, qw, qx]; rfl) ?_
      refine qy (i := 19) (N := some 52) tb7_16 rfl rfl (by kernel_rfl) (fun _ _ _ h => h) (.inl ⟨by rfl, by intro w'; go_simp; with_reducible rfl⟩) (by simp only [Act.put, sA, sB, sC, qw, qx]; rfl) ?_
      refine vJ (i := 12) (N := some 45) tb7_17 rfl rfl (by kernel_rfl) (fun _ _ _ h => h) (.inl ⟨by rfl, by rintro w' ⟨s0, s1, s2, s3, s4⟩; go_simp; with_reducible rfl⟩) hHeld (by simp only [Act.put, sA, sB, sC, qw, qx]; rfl) ?_
      refine qy (i := 15) (N := some 48) tb7_18 rfl rfl (by kernel_rfl) (fun _ _ _ h => h) (.inl ⟨by rfl, by intro w'; go_simp; with_reducible rfl⟩) (by simp only [Act.put, sA, sB, sC, qw, qx]; rfl) ?_
      refine vJ (i := 16) (N := some 49) tb7_19 rfl rfl (by kernel_rfl) (fun _ _ _ h => h) (.inl ⟨by rfl, by rintro w' ⟨s0, s1, s2, s3, s4⟩; go_simp; with_reducible rfl⟩) hHeld (by simp only [Act.put, sA, sB, sC, qw, qx]; rfl) ?_
      refine vJ (i := 18) (N := some 51) tb7_20 rfl rfl (by kernel_rfl) (fun _ _ _ h => h) (.inl ⟨by rfl, by rintro w' ⟨s0, s1, s2, s3, s4⟩; go_simp; with_reducible rfl⟩) hHeld (by simp only [Act.put, sA, sB, sC, qw, qx]; rfl) ?_
      refine qy (i := 20) (N := some 53) tb7_21 rfl rfl (by kernel_rfl) (fun _ _ _ h => h) (.inl ⟨by rfl, by intro w'; go_simp; with_reducible rfl⟩) (by simp only [Act.put, sA, sB, sC, qw, qx]; rfl) ?_
      refine vJ (i := 21) (N := some 54) tb7_22 rfl rfl (by kernel_rfl) (fun _ _ _ h => h) (.inl ⟨by rfl, by rintro w' ⟨s0, s1, s2, s3, s4⟩; go_simp; with_reducible rfl⟩) hHeld (by simp only [Act.put, sA, sB, sC, qw, qx]; rfl) ?_
      refine qy (i := 22) (N := some 55) tb7_23 rfl rfl (by kernel_rfl) (fun _ _ _ h => h) (.inl ⟨by rfl, by intro w'; go_simp; with_reducible rfl⟩) (by simp only [Act.put, sA, sB, sC, qw, qx]; rfl) ?_
      refine qy (i := 23) (N := some 56) tb7_24 rfl rfl (by kernel_rfl) (fun _ _ _ h => h) (.inl ⟨by rfl, by intro w'; go_simp; with_reducible rfl⟩) (by simp only [Act.put, sA, sB, sC, qw, qx]; rfl) ?_
      refine qy (i := 24) (N := some 57) tb7_25 rfl rfl (by kernel_rfl) (fun _ _ _ h => h) (.inl ⟨by rfl, by intro w'; go_simp; with_reducible rfl⟩) (by simp only [Act.put, sA, sB, sC, qw, qx]; rfl) ?_
      refine zP (by kernel_rfl) ?_
      go_wp2
      go_ret
      exact ⟨rfl, qf n2_.out⟩
     ·rw [hbl] at hcE
      refine zI (n := 25) (S := fun w' => w'.cell? ⟨g1, 0, none⟩ = some (.int .i64 n) ∧ w'.cell? ⟨g1, 1, none⟩ = some (.slice (some ad) ls.length c1) ∧ w'.cell? ⟨g1, 2, none⟩ = some (.slice A2 es.length c2) ∧ w'.cell? (ad.add k) = some (.string (rdOf ByteArray.empty ls (k : Int))) ∧ w'.cell? (ad.add (wrap64 ((k : Int) - 1)).toNat) = some (.string (rdOf ByteArray.empty ls (wrap64 ((k : Int) - 1))))) (ds := []) tb7_0 (by kernel_rfl) rfl rfl ⟨h3_, h4_, h5_, x0, x1⟩ (fun hHeld => ?_)
      refine qy (i := 0) (N := some 33) tb7_1 rfl rfl (by kernel_rfl) (fun _ _ _ h => h) (.inl ⟨by rfl, by intro w'; go_simp; with_reducible rfl⟩) (by simp only [Act.put, sA, sB, sC, qw, qx]; rfl) ?_
      refine qy (i := 2) (N := some 35) tb7_2 rfl rfl (by kernel_rfl) (fun _ _ _ h => h) (.inl ⟨by rfl, by intro w'; go_simp; with_reducible rfl⟩) (by simp only [Act.put, sA, sB, sC, qw, qx]; rfl) ?_
      refine vJ (i := 1) (N := some 34) tb7_3 rfl rfl (by kernel_rfl) (fun _ _ _ h => h) (.inl ⟨by rfl, by rintro w' ⟨s0, s1, s2, s3, s4⟩; go_simp; with_reducible rfl⟩) hHeld (by simp only [Act.put, sA, sB, sC, qw, qx]; rfl) ?_
      refine qy (i := 3) (N := some 36) tb7_4 rfl rfl (by kernel_rfl) (fun _ _ _ h => h) (.inl ⟨by rfl, by intro w'; go_simp; with_reducible rfl⟩) (by simp only [Act.put, sA, sB, sC, qw, qx]; rfl) ?_
      refine vJ (i := 4) (N := some 37) tb7_5 rfl rfl (by kernel_rfl) (fun _ _ _ h => h) (.inl ⟨by rfl, by rintro w' ⟨s0, s1, s2, s3, s4⟩; go_simp; with_reducible rfl⟩) hHeld (by simp only [Act.put, sA, sB, sC, qw, qx]; rfl) ?_
      refine qy (i := 5) (N := some 38) tb7_6 rfl rfl (by kernel_rfl) (fun _ _ _ h => h) (.inl ⟨by rfl, by intro w'; go_simp; with_reducible rfl⟩) (by simp only [Act.put, sA, sB, sC, qw, qx]; rfl) ?_
      refine qy (i := 6) (N := some 39) tb7_7 rfl rfl (by kernel_rfl) (fun _ _ _ h => h) (.inl ⟨by rfl, by intro w'; go_simp; with_reducible rfl⟩) (by simp only [Act.put, sA, sB, sC, qw, qx]; rfl) ?_
      refine qy (i := 7) (N := some 40) tb7_8 rfl rfl (by kernel_rfl) (fun _ _ _ h => h) (.inl ⟨by rfl, by intro w'; go_simp; with_reducible rfl⟩) (by simp only [Act.put, sA, sB, sC, qw, qx]; rfl) ?_
      refine qy (i := 8) (N := some 41) tb7_9 rfl rfl (by kernel_rfl) (fun _ _ _ h => h) (.inl ⟨by rfl, by intro w'; go_simp; with_reducible rfl⟩) (by simp only [Act.put, sA, sB, sC, qw, qx]; rfl) ?_
      refine qy (i := 9) (N := some 42) tb7_10 rfl rfl (by kernel_rfl) (fun _ _ _ h => h) (.inl ⟨by rfl, by intro w'; go_simp; with_reducible rfl⟩) (by simp only [Act.put, sA, sB, sC, qw, qx]; rfl) ?_
      refine qy (i := 10) (N := some 43) tb7_11 rfl rfl (by kernel_rfl) (fun _ _ _ h => h) (.inl ⟨by rfl, by intro w'; go_simp; with_reducible rfl⟩) (by simp only [Act.put, sA, sB, sC, qw, qx]; rfl) ?_
      refine qy (i := 11) (N := some 44) tb7_12 rfl rfl (by kernel_rfl) (fun _ _ _ h => h) (.inl ⟨by rfl, by intro w'; go_simp; with_reducible rfl⟩) (by simp only [Act.put, sA, sB, sC, qw, qx]; rfl) ?_
      refine qy (i := 13) (N := some 46) tb7_13 rfl rfl (by kernel_rfl) (fun _ _ _ h => h) (.inl ⟨by rfl, by intro w'; go_simp; with_reducible rfl⟩) (by simp only [Act.put, sA, sB, sC, qw, qx]; rfl) ?_
      refine qy (i := 14) (N := some 47) tb7_14 rfl rfl (by kernel_rfl) (fun _ _ _ h => h) (.inl ⟨by rfl, by intro w'; go_simp; with_reducible rfl⟩) (by simp only [Act.put, sA, sB, sC, qw, qx]; rfl) ?_
      refine qy (i := 17) (N := some 50) tb7_15 rfl rfl (by kernel_rfl) (fun _ _ _ h => h) (.inl ⟨by rfl, by intro w'; go_simp; with_reducible rfl⟩) (by simp only [Act.put, sA, sB, sC, qw, qx]; rfl) ?_
      refine qy (i := 19) (N := some 52) tb7_16 rfl rfl (by kernel_rfl) (fun _ _ _ h => h) (.inl ⟨by rfl, by intro w'; go_simp; with_reducible rfl⟩) (by simp only [Act.put, sA, sB, sC, qw, qx]; rfl) ?_
      refine vJ (i := 12) (N := some 45) tb7_17 rfl rfl (by kernel_rfl) (fun _ _ _ h => h) (.inl ⟨by rfl, by rintro w' ⟨s0, s1, s2, s3, s4⟩; go_simp; with_reducible rfl⟩) hHeld (by simp only [Act.put, sA, sB, sC, qw, qx]; rfl) ?_
      refine qy (i := 15) (N := some 48) tb7_18 rfl rfl (by kernel_rfl) (fun _ _ _ h => h) (.inl ⟨by rfl, by intro w'; go_simp; with_reducible rfl⟩) (by simp only [Act.put, sA, sB, sC, qw, qx]; rfl) ?_
      refine vJ (i := 16) (N := some 49) tb7_19 rfl rfl (by kernel_rfl) (fun _ _ _ h => h) (.inl ⟨by rfl, by rintro w' ⟨s0, s1, s2, s3, s4⟩; go_simp; with_reducible rfl⟩) hHeld (by simp only [Act.put, sA, sB, sC, qw, qx]; rfl) ?_
      refine vJ (i := 18) (N := some 51) tb7_20 rfl rfl (by kernel_rfl) (fun _ _ _ h => h) (.inl ⟨by rfl, by rintro w' ⟨s0, s1, s2, s3, s4⟩; go_simp; with_reducible rfl⟩) hHeld (by simp only [Act.put, sA, sB, sC, qw, qx]; rfl) ?_
      refine qy (i := 20) (N := some 53) tb7_21 rfl rfl (by kernel_rfl) (fun _ _ _ h => h) (.inl ⟨by rfl, by intro w'; go_simp; with_reducible rfl⟩) (by simp only [Act.put, sA, sB, sC, qw, qx]; rfl) ?_
      refine vJ (i := 21) (N := some 54) tb7_22 rfl rfl (by kernel_rfl) (fun _ _ _ h => h) (.inl ⟨by rfl, by rintro w' ⟨s0, s1, s2, s3, s4⟩; go_simp; with_reducible rfl⟩) hHeld (by simp only [Act.put, sA, sB, sC, qw, qx]; rfl) ?_
      refine qy (i := 22) (N := some 55) tb7_23 rfl rfl (by kernel_rfl) (fun _ _ _ h => h) (.inl ⟨by rfl, by intro w'; go_simp; with_reducible rfl⟩) (by simp only [Act.put, sA, sB, sC, qw, qx]; rfl) ?_
      refine qy (i := 23) (N := some 56) tb7_24 rfl rfl (by kernel_rfl) (fun _ _ _ h => h) (.inl ⟨by rfl, by intro w'; go_simp; with_reducible rfl⟩) (by simp only [Act.put, sA, sB, sC, qw, qx]; rfl) ?_
      refine qy (i := 24) (N := some 57) tb7_25 rfl rfl (by kernel_rfl) (fun _ _ _ h => h) (.inl ⟨by rfl, by intro w'; go_simp; with_reducible rfl⟩) (by simp only [Act.put, sA, sB, sC, qw, qx]; rfl) ?_
      refine zP (by kernel_rfl) ?_
      go_wp2
      go_roundw
      case rel => exact ⟨k + 1, by go_num, by omega, ⟨jD HOK.out hcE.out⟩, ⟨ql n1_.out⟩, ⟨qf n2_.out⟩⟩
      case measure => simp [intOf]; omega
    ·have d5 : decide (0 < (k : Int)) = false := decide_eq_false (by omega)
     have d6 : decide (0 < k) = false := decide_eq_false e2
     have hgood : qa (wC ls k = true) := ⟨by unfold wC; rw [decide_eq_true e1, show decide (k = 0) = true from decide_eq_true (by omega)]; simp⟩
     refine zI (n := 25) (S := fun w' => w'.cell? ⟨g1, 0, none⟩ = some (.int .i64 n) ∧ w'.cell? ⟨g1, 1, none⟩ = some (.slice (some ad) ls.length c1) ∧ w'.cell? ⟨g1, 2, none⟩ = some (.slice A2 es.length c2) ∧ w'.cell? (ad.add k) = some (.string (rdOf ByteArray.empty ls (k : Int)))) (ds := []) tb7_0 (by kernel_rfl) rfl rfl ⟨h3_, h4_, h5_, x0⟩ (fun hHeld => ?_)
     refine qy (i := 0) (N := some 33) tb7_1 rfl rfl (by kernel_rfl) (fun _ _ _ h => h) (.inl ⟨by rfl, by intro w'; go_simp; with_reducible rfl⟩) (by simp only [Act.put, sA, sB, sC, qw, qx]; rfl) ?_
     refine qy (i := 2) (N := some 35) tb7_2 rfl rfl (by kernel_rfl) (fun _ _ _ h => h) (.inl ⟨by rfl, by intro w'; go_simp; with_reducible rfl⟩) (by simp only [Act.put, sA, sB, sC, qw, qx]; rfl) ?_
     refine vJ (i := 1) (N := some 34) tb7_3 rfl rfl (by kernel_rfl) (fun _ _ _ h => h) (.inl ⟨by rfl, by rintro w' ⟨s0, s1, s2, s3⟩; go_simp; with_reducible rfl⟩) hHeld (by simp only [Act.put, sA, sB, sC, qw, qx]; rfl) ?_
     refine qy (i := 3) (N := some 36) tb7_4 rfl rfl (by kernel_rfl) (fun _ _ _ h => h) (.inl ⟨by rfl, by intro w'; go_simp; with_reducible rfl⟩) (by simp only [Act.put, sA, sB, sC, qw, qx]; rfl) ?_
     refine vJ (i := 4) (N := some 37) tb7_5 rfl rfl (by kernel_rfl) (fun _ _ _ h => h) (.inl ⟨by rfl, by rintro w' ⟨s0, s1, s2, s3⟩; go_simp; with_reducible rfl⟩) hHeld (by simp only [Act.put, sA, sB, sC, qw, qx]; rfl) ?_
     refine qy (i := 5) (N := some 38) tb7_6 rfl rfl (by kernel_rfl) (fun _ _ _ h => h) (.inl ⟨by rfl, by intro w'; go_simp; with_reducible rfl⟩) (by simp only [Act.put, sA, sB, sC, qw, qx]; rfl) ?_
     refine qy (i := 6) (N := some 39) tb7_7 rfl rfl (by kernel_rfl) (fun _ _ _ h => h) (.inl ⟨by rfl, by intro w'; go_simp; with_reducible rfl⟩) (by simp only [Act.put, sA, sB, sC, qw, qx]; rfl) ?_
     refine qy (i := 7) (N := some 40) tb7_8 rfl rfl (by kernel_rfl) (fun _ _ _ h => h) (.inl ⟨by rfl, by intro w'; go_simp; with_reducible rfl⟩) (by simp only [Act.put, sA, sB, sC, qw, qx]; rfl) ?_
     refine qy (i := 8) (N := some 41) tb7_9 rfl rfl (by kernel_rfl) (fun _ _ _ h => h) (.inl ⟨by rfl, by intro w'; go_simp; with_reducible rfl⟩) (by simp only [Act.put, sA, sB, sC, qw, qx]; rfl) ?_
     refine qy (i := 9) (N := some 42) tb7_10 rfl rfl (by kernel_rfl) (fun _ _ _ h => h) (.inl ⟨by rfl, by intro w'; go_simp; with_reducible rfl⟩) (by simp only [Act.put, sA, sB, sC, qw, qx]; rfl) ?_
     refine qy (i := 10) (N := some 43) tb7_11 rfl rfl (by kernel_rfl) (fun _ _ _ h => h) (.inl ⟨by rfl, by intro w'; go_simp; with_reducible rfl⟩) (by simp only [Act.put, sA, sB, sC, qw, qx]; rfl) ?_
     refine qy (i := 11) (N := some 44) (v := undef) tb7_12 rfl rfl (by kernel_rfl) (fun _ _ _ h => h) (.inr ⟨by rfl, rfl⟩) (by simp only [Act.put, sA, sB, sC, qw, qx]; rfl) ?_
     refine qy (i := 12) (N := some 45) (v := undef) tb7_26 rfl rfl (by kernel_rfl) (fun _ _ _ h => h) (.inr ⟨by rfl, rfl⟩) (by simp only [Act.put, sA, sB, sC, qw, qx]; rfl) ?_
     refine qy (i := 13) (N := some 46) (v := undef) tb7_27 rfl rfl (by kernel_rfl) (fun _ _ _ h => h) (.inr ⟨by rfl, rfl⟩) (by simp only [Act.put, sA, sB, sC, qw, qx]; rfl) ?_
     refine qy (i := 14) (N := some 47) (v := undef) tb7_28 rfl rfl (by kernel_rfl) (fun _ _ _ h => h) (.inr ⟨by rfl, rfl⟩) (by simp only [Act.put, sA, sB, sC, qw, qx]; rfl) ?_
     refine qy (i := 15) (N := some 48) (v := undef) tb7_29 rfl rfl (by kernel_rfl) (fun _ _ _ h => h) (.inr ⟨by rfl, rfl⟩) (by simp only [Act.put, sA, sB, sC, qw, qx]; rfl) ?_
     refine qy (i := 16) (N := some 49) (v := undef) tb7_30 rfl rfl (by kernel_rfl) (fun _ _ _ h => h) (.inr ⟨by rfl, rfl⟩) (by simp only [Act.put, sA, sB, sC, qw, qx]; rfl) ?_
     refine qy (i := 17) (N := some 50) (v := undef) tb7_31 rfl rfl (by kernel_rfl) (fun _ _ _ h => h) (.inr ⟨by rfl, rfl⟩) (by simp only [Act.put, sA, sB, sC, qw, qx]; rfl) ?_
     refine qy (i := 18) (N := some 51) (v := undef) tb7_32 rfl rfl (by kernel_rfl) (fun _ _ _ h => h) (.inr ⟨by rfl, rfl⟩) (by simp only [Act.put, sA, sB, sC, qw, qx]; rfl) ?_
     refine qy (i := 19) (N := some 52) (v := undef) tb7_20 rfl rfl (by kernel_rfl) (fun _ _ _ h => h) (.inr ⟨by rfl, rfl⟩) (by simp only [Act.put, sA, sB, sC, qw, qx]; rfl) ?_
     refine qy (i := 20) (N := some 53) (v := undef) tb7_21 rfl rfl (by kernel_rfl) (fun _ _ _ h => h) (.inr ⟨by rfl, rfl⟩) (by simp only [Act.put, sA, sB, sC, qw, qx]; rfl) ?_
     refine qy (i := 21) (N := some 54) (v := undef) tb7_22 rfl rfl (by kernel_rfl) (fun _ _ _ h => h) (.inr ⟨by rfl, rfl⟩) (by simp only [Act.put, sA, sB, sC, qw, qx]; rfl) ?_
     refine qy (i := 22) (N := some 55) (v := undef) tb7_23 rfl rfl (by kernel_rfl) (fun _ _ _ h => h) (.inr ⟨by rfl, rfl⟩) (by simp only [Act.put, sA, sB, sC, qw, qx]; rfl) ?_
     refine qy (i := 23) (N := some 56) tb7_24 rfl rfl (by kernel_rfl) (fun _ _ _ h => h) (.inl ⟨by rfl, by intro w'; go_simp; with_reducible rfl⟩) (by simp only [Act.put, sA, sB, sC, qw, qx]; rfl) ?_
     refine qy (i := 24) (N := some 57) tb7_25 rfl rfl (by kernel_rfl) (fun _ _ _ h => h) (.inl ⟨by rfl, by intro w'; go_simp; with_reducible rfl⟩) (by simp only [Act.put, sA, sB, sC, qw, qx]; rfl) ?_
     refine zP (by kernel_rfl) ?_
     go_wp2
     go_roundw
     case rel => exact ⟨k + 1, by go_num, by omega, ⟨jD HOK.out hgood.out⟩, ⟨ql n1_.out⟩, ⟨qf n2_.out⟩⟩
     case measure => simp [intOf]; omega
   ·have d3 : decide (200 < ((rdOf ByteArray.empty ls (k : Int)).size : Int)) = true := decide_eq_true (by omega)
    have d3b : decide (200 < (rdOf ByteArray.empty ls (k : Int)).size) = true := decide_eq_true (by omega)
    have hbad : zG ls = false := jr hlt (by unfold wC; rw [decide_eq_false e1]; simp)
    have hQ := HQ.out
    rw [hbad, Bool.false_and] at hQ
    subst hQ
    clear hbad
    refine zI (n := 25) (S := fun w' => w'.cell? ⟨g1, 0, none⟩ = some (.int .i64 n) ∧ w'.cell? ⟨g1, 1, none⟩ = some (.slice (some ad) ls.length c1) ∧ w'.cell? ⟨g1, 2, none⟩ = some (.slice A2 es.length c2) ∧ w'.cell? (ad.add k) = some (.string (rdOf ByteArray.empty ls (k : Int)))) (ds := []) tb7_0 (by kernel_rfl) rfl rfl ⟨h3_, h4_, h5_, x0⟩ (fun hHeld => ?_)
    refine qy (i := 0) (N := some 33) tb7_1 rfl rfl (by kernel_rfl) (fun _ _ _ h => h) (.inl ⟨by rfl, by intro w'; go_simp; with_reducible rfl⟩) (by simp only [Act.put, sA, sB, sC, qw, qx]; rfl) ?_
    refine qy (i := 2) (N := some 35) tb7_2 rfl rfl (by kernel_rfl) (fun _ _ _ h => h) (.inl ⟨by rfl, by intro w'; go_simp; with_reducible rfl⟩) (by simp only [Act.put, sA, sB, sC, qw, qx]; rfl) ?_
    refine vJ (i := 1) (N := some 34) tb7_3 rfl rfl (by kernel_rfl) (fun _ _ _ h => h) (.inl ⟨by rfl, by rintro w' ⟨s0, s1, s2, s3⟩; go_simp; with_reducible rfl⟩) hHeld (by simp only [Act.put, sA, sB, sC, qw, qx]; rfl) ?_
    refine qy (i := 3) (N := some 36) tb7_4 rfl rfl (by kernel_rfl) (fun _ _ _ h => h) (.inl ⟨by rfl, by intro w'; go_simp; with_reducible rfl⟩) (by simp only [Act.put, sA, sB, sC, qw, qx]; rfl) ?_
    refine vJ (i := 4) (N := some 37) tb7_5 rfl rfl (by kernel_rfl) (fun _ _ _ h => h) (.inl ⟨by rfl, by rintro w' ⟨s0, s1, s2, s3⟩; go_simp; with_reducible rfl⟩) hHeld (by simp only [Act.put, sA, sB, sC, qw, qx]; rfl) ?_
    refine qy (i := 5) (N := some 38) tb7_6 rfl rfl (by kernel_rfl) (fun _ _ _ h => h) (.inl ⟨by rfl, by intro w'; go_simp; with_reducible rfl⟩) (by simp only [Act.put, sA, sB, sC, qw, qx]; rfl) ?_
    refine qy (i := 6) (N := some 39) tb7_7 rfl rfl (by kernel_rfl) (fun _ _ _ h => h) (.inl ⟨by rfl, by intro w'; go_simp; with_reducible rfl⟩) (by simp only [Act.put, sA, sB, sC, qw, qx]; rfl) ?_
    refine qy (i := 7) (N := some 40) tb7_8 rfl rfl (by kernel_rfl) (fun _ _ _ h => h) (.inl ⟨by rfl, by intro w'; go_simp; with_reducible rfl⟩) (by simp only [Act.put, sA, sB, sC, qw, qx]; rfl) ?_
    refine qy (i := 8) (N := some 41) (v := undef) tb7_9 rfl rfl (by kernel_rfl) (fun _ _ _ h => h) (.inr ⟨by rfl, rfl⟩) (by simp only [Act.put, sA, sB, sC, qw, qx]; rfl) ?_
    refine qy (i := 9) (N := some 42) (v := undef) tb7_10 rfl rfl (by kernel_rfl) (fun _ _ _ h => h) (.inr ⟨by rfl, rfl⟩) (by simp only [Act.put, sA, sB, sC, qw, qx]; rfl) ?_
    refine qy (i := 10) (N := some 43) (v := undef) tb7_11 rfl rfl (by kernel_rfl) (fun _ _ _ h => h) (.inr ⟨by rfl, rfl⟩) (by simp only [Act.put, sA, sB, sC, qw, qx]; rfl) ?_
    refine qy (i := 11) (N := some 44) (v := undef) tb7_12 rfl rfl (by kernel_rfl) (fun _ _ _ h => h) (.inr ⟨by rfl, rfl⟩) (by simp only [Act.put, sA, sB, sC, qw, qx]; rfl) ?_
    refine qy (i := 12) (N := some 45) (v := undef) tb7_26 rfl rfl (by kernel_rfl) (fun _ _ _ h => h) (.inr ⟨by rfl, rfl⟩) (by simp only [Act.put, sA, sB, sC, qw, qx]; rfl) ?_
    refine qy (i := 13) (N := some 46) (v := undef) tb7_27 rfl rfl (by kernel_rfl) (fun _ _ _ h => h) (.inr ⟨by rfl, rfl⟩) (by simp only [Act.put, sA, sB, sC, qw, qx]; rfl) ?_
    refine qy (i := 14) (N := some 47) (v := undef) tb7_28 rfl rfl (by kernel_rfl) (fun _ _ _ h => h) (.inr ⟨by rfl, rfl⟩) (by simp only [Act.put, sA, sB, sC, qw, qx]; rfl) ?_
    refine qy (i := 15) (N := some 48) (v := undef) tb7_29 rfl rfl (by kernel_rfl) (fun _ _ _ h => h) (.inr ⟨by rfl, rfl⟩) (by simp only [Act.put, sA, sB, sC, qw, qx]; rfl) ?_
    refine qy (i := 16) (N := some 49) (v := undef) tb7_30 rfl rfl (by kernel_rfl) (fun _ _ _ h => h) (.inr ⟨by rfl, rfl⟩) (by simp only [Act.put, sA, sB, sC, qw, qx]; rfl) ?_
    refine qy (i := 17) (N := some 50) (v := undef) tb7_31 rfl rfl (by kernel_rfl) (fun _ _ _ h => h) (.inr ⟨by rfl, rfl⟩) (by simp only [Act.put, sA, sB, sC, qw, qx]; rfl) ?_
    refine qy (i := 18) (N := some 51) (v := undef) tb7_32 rfl rfl (by kernel_rfl) (fun _ _ _ h => h) (.inr ⟨by rfl, rfl⟩) (by simp only [Act.put, sA, sB, sC, qw, qx]; rfl) ?_
    refine qy (i := 19) (N := some 52) (v := undef) tb7_20 rfl rfl (by kernel_rfl) (fun _ _ _ h => h) (.inr ⟨by rfl, rfl⟩) (by simp only [Act.put, sA, sB, sC, qw, qx]; rfl) ?_
    refine qy (i := 20) (N := some 53) (v := undef) tb7_21 rfl rfl (by kernel_rfl) (fun _ _ _ h => h) (.inr ⟨by rfl, rfl⟩) (by simp only [Act.put, sA, sB, sC, qw, qx]; rfl) ?_
    refine qy (i := 21) (N := some 54) (v := undef) tb7_22 rfl rfl (by kernel_rfl) (fun _ _ _ h => h) (.inr ⟨by rfl, rfl⟩) (by simp only [Act.put, sA, sB, sC, qw, qx]; rfl) ?_
    refine qy (i := 22) (N := some 55) (v := undef) tb7_23 rfl rfl (by kernel_rfl) (fun _ _ _ h => h) (.inr ⟨by rfl, rfl⟩) (by simp only [Act.put, sA, sB, sC, qw, qx]; rfl) ?_
    refine qy (i := 23) (N := some 56) (v := undef) tb7_24 rfl rfl (by kernel_rfl) (fun _ _ _ h => h) (.inr ⟨by rfl, rfl⟩) (by simp only [Act.put, sA, sB, sC, qw, qx]; rfl) ?_
    refine qy (i := 24) (N := some 57) tb7_25 rfl rfl (by kernel_rfl) (fun _ _ _ h => h) (.inl ⟨by rfl, by intro w'; go_simp; with_reducible rfl⟩) (by simp only [Act.put, sA, sB, sC, qw, qx]; rfl) ?_
    refine zP (by kernel_rfl) ?_
    go_wp2
    go_ret
    exact ⟨rfl, qf n2_.out⟩
  ·have d1 : decide ((k : Int) < (ls.length : Int)) = false := decide_eq_false (by omega)
   have d2 : decide (k < ls.length) = false := decide_eq_false hlt
   have hLS : zG ls = true := kr (fun j hj => HOK.out j (by omega))
   have HQ2 : qa (zw n ls.length es = r) := ⟨by have := HQ.out; rw [hLS, Bool.true_and] at this; exact this⟩
   clear hLS HQ HOK
   go_wp2
   have HQ := HQ2
   have BK1 := BK
   have HB1 := HB
   clear HQ2 BK HB h3_ h4_ h5_ d1 d2 hlt hk
   go_loopw [4] (fun x wr => ∃ k : Nat, x = .int .i64 k ∧ k ≤ es.length ∧ qa (∀ j, j < k → edgeOk n ls.length es j = true) ∧ qa (wr.heap[g1]? = some (.cells #[.int .i64 n, .slice A1 ls.length c1, .slice A2 es.length c2] 25 (0, 0))) ∧ qa (Below w.heap.size w wr)) (fun x _ => es.length - (intOf x).toNat)
   case atStart => exact ⟨0, rfl, Nat.zero_le _, ⟨fun j hj => absurd hj (Nat.not_lt_zero _)⟩, BK1, HB1⟩
   case round =>
    clear BK1 HB1
    obtain ⟨k, rfl, hk, HOK, BK, HB⟩ := hrel
    have h3_ := (qj BK.out 0).trans rfl
    have h4_ := (qj BK.out 1).trans rfl
    have h5_ := (qj BK.out 2).trans rfl
    by_cases hlt : k < es.length
    ·obtain ⟨ad, rfl, hx0, hx1, hx2⟩ := vU (Kd.qU HR.out HB.out) (k : Int) (by omega) (by omega)
     have d1 : decide ((k : Int) < (es.length : Int)) = true := decide_eq_true (by omega)
     have d2 : decide (k < es.length) = true := decide_eq_true hlt
     rw [Int.toNat_natCast] at hx0 hx1 hx2
     go_wp2
     have BK5 := qa.mk (zY wr (.cells #[.int .i64 (qc es (k : Int)).f0, .int .i64 (qc es (k : Int)).f1, .int .i64 (qc es (k : Int)).f2] 55))
     have n1_ : qa ((wr.alloc (.cells #[.int .i64 (qc es (k : Int)).f0, .int .i64 (qc es (k : Int)).f1, .int .i64 (qc es (k : Int)).f2] 55)).heap[g1]? = some (.cells #[.int .i64 n, .slice A1 ls.length c1, .slice (some ad) es.length c2] 25 (0, 0))) := ⟨qh BK.out _⟩
     have n2_ := qa.mk (qg HB.out (.cells #[.int .i64 (qc es (k : Int)).f0, .int .i64 (qc es (k : Int)).f1, .int .i64 (qc es (k : Int)).f2] 55))
     obtain ⟨g5, hg5⟩ : ∃ g5, g5 = wr.heap.size := ⟨_, rfl⟩
     rw [← hg5] at BK5
     have hz : wr.heap.size = g5 := hg5.symm
     rw [hz]
     clear hz hg5 BK HB d1 d2 hx0 hx1 hx2 h3_ h4_ h5_
     generalize (wr.alloc (.cells #[.int .i64 (qc es (k : Int)).f0, .int .i64 (qc es (k : Int)).f1, .int .i64 (qc es (k : Int)).f2] 55)) = w5 at BK5 n1_ n2_ ⊢
     have h0 := (qj BK5.out 0).trans rfl
     have h1_ := (qj BK5.out 1).trans rfl
     have h2_ := (qj BK5.out 2).trans rfl
     have h3_ := (qj n1_.out 0).trans rfl
     have h4_ := (qj n1_.out 1).trans rfl
     have h5_ := (qj n1_.out 2).trans rfl
     by_cases hH : 0 < k ∧ ¬ ((qc es (k : Int)).f0 < 0) ∧ ¬ (n ≤ (qc es (k : Int)).f0) ∧ ¬ ((qc es (k : Int)).f2 < 0) ∧ ¬ (n ≤ (qc es (k : Int)).f2) ∧ ¬ ((qc es (k : Int)).f1 < 0) ∧ ¬ ((ls.length : Int) ≤ (qc es (k : Int)).f1)
     ·obtain ⟨e6, e0, e1, e2, e3, e4, e5⟩ := hH
      have d3 : decide ((qc es (k : Int)).f0 < 0) = false := decide_eq_false e0
      have d4 : decide (n ≤ (qc es (k : Int)).f0) = false := decide_eq_false e1
      have d5 : decide ((qc es (k : Int)).f2 < 0) = false := decide_eq_false e2
      have d6 : decide (n ≤ (qc es (k : Int)).f2) = false := decide_eq_false e3
      have d7 : decide ((qc es (k : Int)).f1 < 0) = false := decide_eq_false e4
      have d8 : decide ((ls.length : Int) ≤ (qc es (k : Int)).f1) = false := decide_eq_false e5
      have hfst : qa (edgeOk n ls.length es k = (decide (k = 0) || decide (cmpE (qc es ((k : Int) - 1)) (qc es (k : Int)) < 0))) := ⟨by unfold edgeOk; rw [show decide (0 ≤ (qc es (k : Int)).f0) = true from decide_eq_true (by omega), show decide ((qc es (k : Int)).f0 < n) = true from decide_eq_true (by omega), show decide (0 ≤ (qc es (k : Int)).f2) = true from decide_eq_true (by omega), show decide ((qc es (k : Int)).f2 < n) = true from decide_eq_true (by omega), show decide (0 ≤ (qc es (k : Int)).f1) = true from decide_eq_true (by omega), show decide ((qc es (k : Int)).f1 < (ls.length : Int)) = true from decide_eq_true (by omega)]; simp only [Bool.true_and]⟩
      have d9 : decide (0 < (k : Int)) = true := decide_eq_true (by omega)
      have d10 : decide (0 < k) = true := decide_eq_true e6
      have hwr : wrap64 ((k : Int) - 1) = (k : Int) - 1 := by unfold wrap64; omega
      have hcE : qa (edgeOk n ls.length es k = decide (cmpE (qc es (wrap64 ((k : Int) - 1))) (qc es (k : Int)) < 0)) := ⟨by rw [hfst.out, hwr, show decide (k = 0) = false from decide_eq_false (by omega), Bool.false_or]⟩
      have p1 : (0 ≤ wrap64 ((k : Int) - 1)) = True := eq_true (by rw [hwr]; omega)
      have p2 : (wrap64 ((k : Int) - 1) < (es.length : Int)) = True := eq_true (by rw [hwr]; omega)
      obtain ⟨ad2, ead, q0, q1, q2⟩ := vU (Kd.qU HR.out n2_.out) (wrap64 ((k : Int) - 1)) (of_eq_true p1) (of_eq_true p2)
      cases ead
      clear hwr hfst
      have hcmp := qa.mk (y9 (qc es (wrap64 ((k : Int) - 1))) (qc es (k : Int)))
      obtain ⟨bq, hbq⟩ : ∃ bq, decide (cmpE (qc es (wrap64 ((k : Int) - 1))) (qc es (k : Int)) < 0) = bq := ⟨_, rfl⟩
      rw [hbq] at hcE hcmp
      clear hbq
      refine zI (n := 50) (S := fun w' => w'.cell? ⟨g5, 0, none⟩ = some (.int .i64 (qc es (k : Int)).f0) ∧ w'.cell? ⟨g5, 1, none⟩ = some (.int .i64 (qc es (k : Int)).f1) ∧ w'.cell? ⟨g5, 2, none⟩ = some (.int .i64 (qc es (k : Int)).f2) ∧ w'.cell? ⟨g1, 0, none⟩ = some (.int .i64 n) ∧ w'.cell? ⟨g1, 1, none⟩ = some (.slice A1 ls.length c1) ∧ w'.cell? ⟨g1, 2, none⟩ = some (.slice (some ad) es.length c2) ∧ w'.cell? (ad.add ((wrap64 ((k : Int) - 1)).toNat * 3)) = some (.int .i64 (qc es (wrap64 ((k : Int) - 1))).f0) ∧ w'.cell? ⟨(ad.add ((wrap64 ((k : Int) - 1)).toNat * 3)).block, (ad.add ((wrap64 ((k : Int) - 1)).toNat * 3)).off + 1, none⟩ = some (.int .i64 (qc es (wrap64 ((k : Int) - 1))).f1) ∧ w'.cell? ⟨(ad.add ((wrap64 ((k : Int) - 1)).toNat * 3)).block, (ad.add ((wrap64 ((k : Int) - 1)).toNat * 3)).off + 2, none⟩ = some (.int .i64 (qc es (wrap64 ((k : Int) - 1))).f2)) (ds := []) tb7_33 (by kernel_rfl) rfl rfl ⟨h0, h1_, h2_, h3_, h4_, h5_, q0, q1, q2⟩ (fun hHeld => ?_)
      refine qy (i := 0) (N := some 70) tb7_34 rfl rfl (by kernel_rfl) (fun _ _ _ h => h) (.inl ⟨by rfl, by intro w'; go_simp; with_reducible rfl⟩) (by simp only [Act.put, sA, sB, sC, qw, qx]; rfl) ?_
      refine vJ (i := 1) (N := some 71) tb7_35 rfl rfl (by kernel_rfl) (fun _ _ _ h => h) (.inl ⟨by rfl, by rintro w' ⟨s0, s1, s2, s3, s4, s5, s6, s7, s8⟩; go_simp; with_reducible rfl⟩) hHeld (by simp only [Act.put, sA, sB, sC, qw, qx]; rfl) ?_
      refine qy (i := 2) (N := some 72) tb7_36 rfl rfl (by kernel_rfl) (fun _ _ _ h => h) (.inl ⟨by rfl, by intro w'; go_simp; with_reducible rfl⟩) (by simp only [Act.put, sA, sB, sC, qw, qx]; rfl) ?_
      refine qy (i := 3) (N := some 73) tb7_37 rfl rfl (by kernel_rfl) (fun _ _ _ h => h) (.inl ⟨by rfl, by intro w'; go_simp; with_reducible rfl⟩) (by simp only [Act.put, sA, sB, sC, qw, qx]; rfl) ?_
      refine qy (i := 4) (N := some 74) tb7_38 rfl rfl (by kernel_rfl) (fun _ _ _ h => h) (.inl ⟨by rfl, by intro w'; go_simp; with_reducible rfl⟩) (by simp only [Act.put, sA, sB, sC, qw, qx]; rfl) ?_
      refine qy (i := 6) (N := some 76) tb7_39 rfl rfl (by kernel_rfl) (fun _ _ _ h => h) (.inl ⟨by rfl, by intro w'; go_simp; with_reducible rfl⟩) (by simp only [Act.put, sA, sB, sC, qw, qx]; rfl) ?_
      refine vJ (i := 5) (N := some 75) tb7_40 rfl rfl (by kernel_rfl) (fun _ _ _ h => h) (.inl ⟨by rfl, by rintro w' ⟨s0, s1, s2, s3, s4, s5, s6, s7, s8⟩; go_simp; with_reducible rfl⟩) hHeld (by simp only [Act.put, sA, sB, sC, qw, qx]; rfl) ?_
      refine vJ (i := 7) (N := some 77) tb7_41 rfl rfl (by kernel_rfl) (fun _ _ _ h => h) (.inl ⟨by rfl, by rintro w' ⟨s0, s1, s2, s3, s4, s5, s6, s7, s8⟩; go_simp; with_reducible rfl⟩) hHeld (by simp only [Act.put, sA, sB, sC, qw, qx]; rfl) ?_
      refine qy (i := 8) (N := some 78) tb7_42 rfl rfl (by kernel_rfl) (fun _ _ _ h => h) (.inl ⟨by rfl, by intro w'; go_simp; with_reducible rfl⟩) (by simp only [Act.put, sA, sB, sC, qw, qx]; rfl) ?_
      refine qy (i := 9) (N := some 79) tb7_43 rfl rfl (by kernel_rfl) (fun _ _ _ h => h) (.inl ⟨by rfl, by intro w'; go_simp; with_reducible rfl⟩) (by simp only [Act.put, sA, sB, sC, qw, qx]; rfl) ?_
      refine qy (i := 10) (N := some 80) tb7_44 rfl rfl (by kernel_rfl) (fun _ _ _ h => h) (.inl ⟨by rfl, by intro w'; go_simp; with_reducible rfl⟩) (by simp only [Act.put, sA, sB, sC, qw, qx]; rfl) ?_
      refine qy (i := 11) (N := some 81) tb7_45 rfl rfl (by kernel_rfl) (fun _ _ _ h => h) (.inl ⟨by rfl, by intro w'; go_simp; with_reducible rfl⟩) (by simp only [Act.put, sA, sB, sC, qw, qx]; rfl) ?_
      refine vJ (i := 12) (N := some 82) tb7_46 rfl rfl (by kernel_rfl) (fun _ _ _ h => h) (.inl ⟨by rfl, by rintro w' ⟨s0, s1, s2, s3, s4, s5, s6, s7, s8⟩; go_simp; with_reducible rfl⟩) hHeld (by simp only [Act.put, sA, sB, sC, qw, qx]; rfl) ?_
      refine qy (i := 13) (N := some 83) tb7_47 rfl rfl (by kernel_rfl) (fun _ _ _ h => h) (.inl ⟨by rfl, by intro w'; go_simp; with_reducible rfl⟩) (by simp only [Act.put, sA, sB, sC, qw, qx]; rfl) ?_
      refine qy (i := 14) (N := some 84) tb7_48 rfl rfl (by kernel_rfl) (fun _ _ _ h => h) (.inl ⟨by rfl, by intro w'; go_simp; with_reducible rfl⟩) (by simp only [Act.put, sA, sB, sC, qw, qx]; rfl) ?_
      refine qy (i := 15) (N := some 85) tb7_49 rfl rfl (by kernel_rfl) (fun _ _ _ h => h) (.inl ⟨by rfl, by intro w'; go_simp; with_reducible rfl⟩) (by simp only [Act.put, sA, sB, sC, qw, qx]; rfl) ?_
      refine qy (i := 16) (N := some 86) tb7_50 rfl rfl (by kernel_rfl) (fun _ _ _ h => h) (.inl ⟨by rfl, by intro w'; go_simp; with_reducible rfl⟩) (by simp only [Act.put, sA, sB, sC, qw, qx]; rfl) ?_
      refine qy (i := 18) (N := some 88) tb7_51 rfl rfl (by kernel_rfl) (fun _ _ _ h => h) (.inl ⟨by rfl, by intro w'; go_simp; with_reducible rfl⟩) (by simp only [Act.put, sA, sB, sC, qw, qx]; rfl) ?_
      refine vJ (i := 17) (N := some 87) tb7_52 rfl rfl (by kernel_rfl) (fun _ _ _ h => h) (.inl ⟨by rfl, by rintro w' ⟨s0, s1, s2, s3, s4, s5, s6, s7, s8⟩; go_simp; with_reducible rfl⟩) hHeld (by simp only [Act.put, sA, sB, sC, qw, qx]; rfl) ?_
      refine vJ (i := 19) (N := some 89) tb7_53 rfl rfl (by kernel_rfl) (fun _ _ _ h => h) (.inl ⟨by rfl, by rintro w' ⟨s0, s1, s2, s3, s4, s5, s6, s7, s8⟩; go_simp; with_reducible rfl⟩) hHeld (by simp only [Act.put, sA, sB, sC, qw, qx]; rfl) ?_
      refine qy (i := 20) (N := some 90) tb7_54 rfl rfl (by kernel_rfl) (fun _ _ _ h => h) (.inl ⟨by rfl, by intro w'; go_simp; with_reducible rfl⟩) (by simp only [Act.put, sA, sB, sC, qw, qx]; rfl) ?_
      refine qy (i := 21) (N := some 91) tb7_55 rfl rfl (by kernel_rfl) (fun _ _ _ h => h) (.inl ⟨by rfl, by intro w'; go_simp; with_reducible rfl⟩) (by simp only [Act.put, sA, sB, sC, qw, qx]; rfl) ?_
      refine qy (i := 22) (N := some 92) tb7_56 rfl rfl (by kernel_rfl) (fun _ _ _ h => h) (.inl ⟨by rfl, by intro w'; go_simp; with_reducible rfl⟩) (by simp only [Act.put, sA, sB, sC, qw, qx]; rfl) ?_
      refine qy (i := 23) (N := some 93) tb7_57 rfl rfl (by kernel_rfl) (fun _ _ _ h => h) (.inl ⟨by rfl, by intro w'; go_simp; with_reducible rfl⟩) (by simp only [Act.put, sA, sB, sC, qw, qx]; rfl) ?_
      refine vJ (i := 24) (N := some 94) tb7_58 rfl rfl (by kernel_rfl) (fun _ _ _ h => h) (.inl ⟨by rfl, by rintro w' ⟨s0, s1, s2, s3, s4, s5, s6, s7, s8⟩; go_simp; with_reducible rfl⟩) hHeld (by simp only [Act.put, sA, sB, sC, qw, qx]; rfl) ?_
      refine qy (i := 25) (N := some 95) tb7_59 rfl rfl (by kernel_rfl) (fun _ _ _ h => h) (.inl ⟨by rfl, by intro w'; go_simp; with_reducible rfl⟩) (by simp only [Act.put, sA, sB, sC, qw, qx]; rfl) ?_
      refine qy (i := 26) (N := some 96) tb7_60 rfl rfl (by kernel_rfl) (fun _ _ _ h => h) (.inl ⟨by rfl, by intro w'; go_simp; with_reducible rfl⟩) (by simp only [Act.put, sA, sB, sC, qw, qx]; rfl) ?_
      refine qy (i := 27) (N := some 97) tb7_61 rfl rfl (by kernel_rfl) (fun _ _ _ h => h) (.inl ⟨by rfl, by intro w'; go_simp; with_reducible rfl⟩) (by simp only [Act.put, sA, sB, sC, qw, qx]; rfl) ?_
      refine qy (i := 28) (N := some 98) tb7_62 rfl rfl (by kernel_rfl) (fun _ _ _ h => h) (.inl ⟨by rfl, by intro w'; go_simp; with_reducible rfl⟩) (by simp only [Act.put, sA, sB, sC, qw, qx]; rfl) ?_
      refine qy (i := 30) (N := some 100) tb7_63 rfl rfl (by kernel_rfl) (fun _ _ _ h => h) (.inl ⟨by rfl, by intro w'; go_simp; with_reducible rfl⟩) (by simp only [Act.put, sA, sB, sC, qw, qx]; rfl) ?_
      refine vJ (i := 29) (N := some 99) tb7_64 rfl rfl (by kernel_rfl) (fun _ _ _ h => h) (.inl ⟨by rfl, by rintro w' ⟨s0, s1, s2, s3, s4, s5, s6, s7, s8⟩; go_simp; with_reducible rfl⟩) hHeld (by simp only [Act.put, sA, sB, sC, qw, qx]; rfl) ?_
      refine vJ (i := 31) (N := some 101) tb7_65 rfl rfl (by kernel_rfl) (fun _ _ _ h => h) (.inl ⟨by rfl, by rintro w' ⟨s0, s1, s2, s3, s4, s5, s6, s7, s8⟩; go_simp; with_reducible rfl⟩) hHeld (by simp only [Act.put, sA, sB, sC, qw, qx]; rfl) ?_
      refine qy (i := 32) (N := some 102) tb7_66 rfl rfl (by kernel_rfl) (fun _ _ _ h => h) (.inl ⟨by rfl, by intro w'; go_simp; with_reducible rfl⟩) (by simp only [Act.put, sA, sB, sC, qw, qx]; rfl) ?_
      refine qy (i := 33) (N := some 103) tb7_67 rfl rfl (by kernel_rfl) (fun _ _ _ h => h) (.inl ⟨by rfl, by intro w'; go_simp; with_reducible rfl⟩) (by simp only [Act.put, sA, sB, sC, qw, qx]; rfl) ?_
      refine qy (i := 34) (N := some 104) tb7_68 rfl rfl (by kernel_rfl) (fun _ _ _ h => h) (.inl ⟨by rfl, by intro w'; go_simp; with_reducible rfl⟩) (by simp only [Act.put, sA, sB, sC, qw, qx]; rfl) ?_
      refine qy (i := 35) (N := some 105) tb7_69 rfl rfl (by kernel_rfl) (fun _ _ _ h => h) (.inl ⟨by rfl, by intro w'; go_simp; with_reducible rfl⟩) (by simp only [Act.put, sA, sB, sC, qw, qx]; rfl) ?_
      refine qy (i := 36) (N := some 106) tb7_70 rfl rfl (by kernel_rfl) (fun _ _ _ h => h) (.inl ⟨by rfl, by intro w'; go_simp; with_reducible rfl⟩) (by simp only [Act.put, sA, sB, sC, qw, qx]; rfl) ?_
      refine qy (i := 37) (N := some 107) tb7_71 rfl rfl (by kernel_rfl) (fun _ _ _ h => h) (.inl ⟨by rfl, by intro w'; go_simp; with_reducible rfl⟩) (by simp only [Act.put, sA, sB, sC, qw, qx]; rfl) ?_
      refine qy (i := 38) (N := some 108) tb7_72 rfl rfl (by kernel_rfl) (fun _ _ _ h => h) (.inl ⟨by rfl, by intro w'; go_simp; with_reducible rfl⟩) (by simp only [Act.put, sA, sB, sC, qw, qx]; rfl) ?_
      refine qy (i := 39) (N := some 109) tb7_73 rfl rfl (by kernel_rfl) (fun _ _ _ h => h) (.inl ⟨by rfl, by intro w'; go_simp; with_reducible rfl⟩) (by simp only [Act.put, sA, sB, sC, qw, qx]; rfl) ?_
      refine qy (i := 41) (N := some 111) tb7_74 rfl rfl (by kernel_rfl) (fun _ _ _ h => h) (.inl ⟨by rfl, by intro w'; go_simp; with_reducible rfl⟩) (by simp only [Act.put, sA, sB, sC, qw, qx]; rfl) ?_
      refine qy (i := 42) (N := some 112) tb7_75 rfl rfl (by kernel_rfl) (fun _ _ _ h => h) (.inl ⟨by rfl, by intro w'; go_simp; with_reducible rfl⟩) (by simp only [Act.put, sA, sB, sC, qw, qx]; rfl) ?_
      refine vJ (i := 40) (N := some 110) tb7_76 rfl rfl (by kernel_rfl) (fun _ _ _ h => h) (.inl ⟨by rfl, by rintro w' ⟨s0, s1, s2, s3, s4, s5, s6, s7, s8⟩; go_simp; with_reducible rfl⟩) hHeld (by simp only [Act.put, sA, sB, sC, qw, qx]; rfl) ?_
      refine qy (i := 43) (N := some 113) tb7_77 rfl rfl (by kernel_rfl) (fun _ _ _ h => h) (.inl ⟨by rfl, by intro w'; go_simp; with_reducible rfl⟩) (by simp only [Act.put, sA, sB, sC, qw, qx]; rfl) ?_
      refine vJ (i := 44) (N := some 114) tb7_78 rfl rfl (by kernel_rfl) (fun _ _ _ h => h) (.inl ⟨by rfl, by rintro w' ⟨s0, s1, s2, s3, s4, s5, s6, s7, s8⟩; go_simp; with_reducible rfl⟩) hHeld (by simp only [Act.put, sA, sB, sC, qw, qx]; rfl) ?_
      refine vJ (i := 45) (N := some 115) tb7_79 rfl rfl (by kernel_rfl) (fun _ _ _ h => h) (.inl ⟨by rfl, by rintro w' ⟨s0, s1, s2, s3, s4, s5, s6, s7, s8⟩; go_simp; with_reducible rfl⟩) hHeld (by simp only [Act.put, sA, sB, sC, qw, qx]; rfl) ?_
      refine one_ (i := 46) (N := some 116) tb7_80 rfl rfl (by kernel_rfl) (by decide) (fun K hK => ?_)
      refine jI Try.func82 (by kernel_rfl) rfl #[.agg #[.int .i64 (qc es (wrap64 ((k : Int) - 1))).f0, .int .i64 (qc es (wrap64 ((k : Int) - 1))).f1, .int .i64 (qc es (wrap64 ((k : Int) - 1))).f2], .agg #[.int .i64 (qc es (k : Int)).f0, .int .i64 (qc es (k : Int)).f1, .int .i64 (qc es (k : Int)).f2]] (by rfl) rfl rfl (by simp only [List.map_toArray, List.map_cons, List.map_nil]; rfl) ?_
      with_reducible refine (vw.calls _ _ _ _ _ _ _ _ hcmp.out).mono ?_
      rintro e w3 ⟨rfl, hb⟩
      refine ⟨_, rfl, ?_⟩
      have hB3 := qa.mk (qD (qf n2_.out) hb)
      have hK3 := qa.mk (qB (ql n1_.out) hb)
      refine hK.out _ _ ⟨(hb.cell (World.block_lt_of_cell? _ _ (hHeld.1))).trans (hHeld.1), (hb.cell (World.block_lt_of_cell? _ _ (hHeld.2.1))).trans (hHeld.2.1), (hb.cell (World.block_lt_of_cell? _ _ (hHeld.2.2.1))).trans (hHeld.2.2.1), (hb.cell (World.block_lt_of_cell? _ _ (hHeld.2.2.2.1))).trans (hHeld.2.2.2.1), (hb.cell (World.block_lt_of_cell? _ _ (hHeld.2.2.2.2.1))).trans (hHeld.2.2.2.2.1), (hb.cell (World.block_lt_of_cell? _ _ (hHeld.2.2.2.2.2.1))).trans (hHeld.2.2.2.2.2.1), (hb.cell (World.block_lt_of_cell? _ _ (hHeld.2.2.2.2.2.2.1))).trans (hHeld.2.2.2.2.2.2.1), (hb.cell (World.block_lt_of_cell? _ _ (hHeld.2.2.2.2.2.2.2.1))).trans (hHeld.2.2.2.2.2.2.2.1), (hb.cell (World.block_lt_of_cell? _ _ (hHeld.2.2.2.2.2.2.2.2))).trans (hHeld.2.2.2.2.2.2.2.2)⟩ (fun hHeld => ?_)
      clear hK K
      refine zo (a' := ?_) ?_ ?_
      rotate_left
      ·show Act.put _ (some 116) _ = _
       simp only [Act.put, sA, sB, sC, qw, qx]
       rfl
      refine qy (i := 47) (N := some 117) tb7_81 rfl rfl (by kernel_rfl) (fun _ _ _ h => h) (.inl ⟨by rfl, by intro w'; go_simp; with_reducible rfl⟩) (by simp only [Act.put, sA, sB, sC, qw, qx]; rfl) ?_
      refine qy (i := 48) (N := some 118) tb7_82 rfl rfl (by kernel_rfl) (fun _ _ _ h => h) (.inl ⟨by rfl, by intro w'; go_simp; with_reducible rfl⟩) (by simp only [Act.put, sA, sB, sC, qw, qx]; rfl) ?_
      refine qy (i := 49) (N := some 119) tb7_83 rfl rfl (by kernel_rfl) (fun _ _ _ h => h) (.inl ⟨by rfl, by intro w'; go_simp; with_reducible rfl⟩) (by simp only [Act.put, sA, sB, sC, qw, qx]; rfl) ?_
      refine zP (by kernel_rfl) ?_
      rcases bq with _ | _
      ·have hbad : zw n ls.length es = false := ze hlt hcE.out
       have hQ := HQ.out
       rw [hbad] at hQ
       subst hQ
       clear hbad
       go_wp2
       go_ret
       exact ⟨rfl, hB3.out⟩
      ·go_wp2
       go_roundw
       case rel => exact ⟨k + 1, by go_num, by omega, ⟨jD HOK.out hcE.out⟩, ⟨hK3.out⟩, ⟨hB3.out⟩⟩
       case measure => simp [intOf]; omega
     refine zI (n := 50) (S := fun w' => w'.cell? ⟨g5, 0, none⟩ = some (.int .i64 (qc es (k : Int)).f0) ∧ w'.cell? ⟨g5, 1, none⟩ = some (.int .i64 (qc es (k : Int)).f1) ∧ w'.cell? ⟨g5, 2, none⟩ = some (.int .i64 (qc es (k : Int)).f2) ∧ w'.cell? ⟨g1, 0, none⟩ = some (.int .i64 n) ∧ w'.cell? ⟨g1, 1, none⟩ = some (.slice A1 ls.length c1) ∧ w'.cell? ⟨g1, 2, none⟩ = some (.slice (some ad) es.length c2)) (ds := []) tb7_33 (by kernel_rfl) rfl rfl ⟨h0, h1_, h2_, h3_, h4_, h5_⟩ (fun hHeld => ?_)
     refine qy (i := 0) (N := some 70) tb7_34 rfl rfl (by kernel_rfl) (fun _ _ _ h => h) (.inl ⟨by rfl, by intro w'; go_simp; with_reducible rfl⟩) (by simp only [Act.put, sA, sB, sC, qw, qx]; rfl) ?_
     refine vJ (i := 1) (N := some 71) tb7_35 rfl rfl (by kernel_rfl) (fun _ _ _ h => h) (.inl ⟨by rfl, by rintro w' ⟨s0, s1, s2, s3, s4, s5⟩; go_simp; with_reducible rfl⟩) hHeld (by simp only [Act.put, sA, sB, sC, qw, qx]; rfl) ?_
     by_cases e0 : (qc es (k : Int)).f0 < 0
     ·have d3 : decide ((qc es (k : Int)).f0 < 0) = true := decide_eq_true e0
      have hbad : zw n ls.length es = false := ze hlt (by unfold edgeOk; rw [show decide (0 ≤ (qc es (k : Int)).f0) = false from decide_eq_false (by omega)]; simp)
      have hQ := HQ.out
      rw [hbad] at hQ
      subst hQ
      clear hbad
      refine qy (i := 2) (N := some 72) tb7_36 rfl rfl (by kernel_rfl) (fun _ _ _ h => h) (.inl ⟨by rfl, by intro w'; go_simp; with_reducible rfl⟩) (by simp only [Act.put, sA, sB, sC, qw, qx]; rfl) ?_
      refine qy (i := 3) (N := some 73) tb7_37 rfl rfl (by kernel_rfl) (fun _ _ _ h => h) (.inl ⟨by rfl, by intro w'; go_simp; with_reducible rfl⟩) (by simp only [Act.put, sA, sB, sC, qw, qx]; rfl) ?_
      refine qy (i := 4) (N := some 74) (v := undef) tb7_38 rfl rfl (by kernel_rfl) (fun _ _ _ h => h) (.inr ⟨by rfl, rfl⟩) (by simp only [Act.put, sA, sB, sC, qw, qx]; rfl) ?_
      refine qy (i := 5) (N := some 75) (v := undef) tb7_84 rfl rfl (by kernel_rfl) (fun _ _ _ h => h) (.inr ⟨by rfl, rfl⟩) (by simp only [Act.put, sA, sB, sC, qw, qx]; rfl) ?_
      refine qy (i := 6) (N := some 76) (v := undef) tb7_40 rfl rfl (by kernel_rfl) (fun _ _ _ h => h) (.inr ⟨by rfl, rfl⟩) (by simp only [Act.put, sA, sB, sC, qw, qx]; rfl) ?_
      refine qy (i := 7) (N := some 77) (v := undef) tb7_41 rfl rfl (by kernel_rfl) (fun _ _ _ h => h) (.inr ⟨by rfl, rfl⟩) (by simp only [Act.put, sA, sB, sC, qw, qx]; rfl) ?_
      refine qy (i := 8) (N := some 78) (v := undef) tb7_42 rfl rfl (by kernel_rfl) (fun _ _ _ h => h) (.inr ⟨by rfl, rfl⟩) (by simp only [Act.put, sA, sB, sC, qw, qx]; rfl) ?_
      refine qy (i := 9) (N := some 79) tb7_43 rfl rfl (by kernel_rfl) (fun _ _ _ h => h) (.inl ⟨by rfl, by intro w'; go_simp; with_reducible rfl⟩) (by simp only [Act.put, sA, sB, sC, qw, qx]; rfl) ?_
      refine qy (i := 10) (N := some 80) tb7_44 rfl rfl (by kernel_rfl) (fun _ _ _ h => h) (.inl ⟨by rfl, by intro w'; go_simp; with_reducible rfl⟩) (by simp only [Act.put, sA, sB, sC, qw, qx]; rfl) ?_
      refine qy (i := 11) (N := some 81) (v := undef) tb7_45 rfl rfl (by kernel_rfl) (fun _ _ _ h => h) (.inr ⟨by rfl, rfl⟩) (by simp only [Act.put, sA, sB, sC, qw, qx]; rfl) ?_
      refine qy (i := 12) (N := some 82) (v := undef) tb7_46 rfl rfl (by kernel_rfl) (fun _ _ _ h => h) (.inr ⟨by rfl, rfl⟩) (by simp only [Act.put, sA, sB, sC, qw, qx]; rfl) ?_
      refine qy (i := 13) (N := some 83) (v := undef) tb7_47 rfl rfl (by kernel_rfl) (fun _ _ _ h => h) (.inr ⟨by rfl, rfl⟩) (by simp only [Act.put, sA, sB, sC, qw, qx]; rfl) ?_
      refine qy (i := 14) (N := some 84) tb7_48 rfl rfl (by kernel_rfl) (fun _ _ _ h => h) (.inl ⟨by rfl, by intro w'; go_simp; with_reducible rfl⟩) (by simp only [Act.put, sA, sB, sC, qw, qx]; rfl) ?_
      refine qy (i := 15) (N := some 85) tb7_49 rfl rfl (by kernel_rfl) (fun _ _ _ h => h) (.inl ⟨by rfl, by intro w'; go_simp; with_reducible rfl⟩) (by simp only [Act.put, sA, sB, sC, qw, qx]; rfl) ?_
      refine qy (i := 16) (N := some 86) (v := undef) tb7_50 rfl rfl (by kernel_rfl) (fun _ _ _ h => h) (.inr ⟨by rfl, rfl⟩) (by simp only [Act.put, sA, sB, sC, qw, qx]; rfl) ?_
      refine qy (i := 17) (N := some 87) (v := undef) tb7_85 rfl rfl (by kernel_rfl) (fun _ _ _ h => h) (.inr ⟨by rfl, rfl⟩) (by simp only [Act.put, sA, sB, sC, qw, qx]; rfl) ?_
      refine qy (i := 18) (N := some 88) (v := undef) tb7_52 rfl rfl (by kernel_rfl) (fun _ _ _ h => h) (.inr ⟨by rfl, rfl⟩) (by simp only [Act.put, sA, sB, sC, qw, qx]; rfl) ?_
      refine qy (i := 19) (N := some 89) (v := undef) tb7_53 rfl rfl (by kernel_rfl) (fun _ _ _ h => h) (.inr ⟨by rfl, rfl⟩) (by simp only [Act.put, sA, sB, sC, qw, qx]; rfl) ?_
      refine qy (i := 20) (N := some 90) (v := undef) tb7_54 rfl rfl (by kernel_rfl) (fun _ _ _ h => h) (.inr ⟨by rfl, rfl⟩) (by simp only [Act.put, sA, sB, sC, qw, qx]; rfl) ?_
      refine qy (i := 21) (N := some 91) tb7_55 rfl rfl (by kernel_rfl) (fun _ _ _ h => h) (.inl ⟨by rfl, by intro w'; go_simp; with_reducible rfl⟩) (by simp only [Act.put, sA, sB, sC, qw, qx]; rfl) ?_
      refine qy (i := 22) (N := some 92) tb7_56 rfl rfl (by kernel_rfl) (fun _ _ _ h => h) (.inl ⟨by rfl, by intro w'; go_simp; with_reducible rfl⟩) (by simp only [Act.put, sA, sB, sC, qw, qx]; rfl) ?_
      refine qy (i := 23) (N := some 93) (v := undef) tb7_57 rfl rfl (by kernel_rfl) (fun _ _ _ h => h) (.inr ⟨by rfl, rfl⟩) (by simp only [Act.put, sA, sB, sC, qw, qx]; rfl) ?_
      refine qy (i := 24) (N := some 94) (v := undef) tb7_58 rfl rfl (by kernel_rfl) (fun _ _ _ h => h) (.inr ⟨by rfl, rfl⟩) (by simp only [Act.put, sA, sB, sC, qw, qx]; rfl) ?_
      refine qy (i := 25) (N := some 95) (v := undef) tb7_59 rfl rfl (by kernel_rfl) (fun _ _ _ h => h) (.inr ⟨by rfl, rfl⟩) (by simp only [Act.put, sA, sB, sC, qw, qx]; rfl) ?_
      refine qy (i := 26) (N := some 96) tb7_60 rfl rfl (by kernel_rfl) (fun _ _ _ h => h) (.inl ⟨by rfl, by intro w'; go_simp; with_reducible rfl⟩) (by simp only [Act.put, sA, sB, sC, qw, qx]; rfl) ?_
      refine qy (i := 27) (N := some 97) tb7_61 rfl rfl (by kernel_rfl) (fun _ _ _ h => h) (.inl ⟨by rfl, by intro w'; go_simp; with_reducible rfl⟩) (by simp only [Act.put, sA, sB, sC, qw, qx]; rfl) ?_
      refine qy (i := 28) (N := some 98) (v := undef) tb7_62 rfl rfl (by kernel_rfl) (fun _ _ _ h => h) (.inr ⟨by rfl, rfl⟩) (by simp only [Act.put, sA, sB, sC, qw, qx]; rfl) ?_
      refine qy (i := 29) (N := some 99) (v := undef) tb7_86 rfl rfl (by kernel_rfl) (fun _ _ _ h => h) (.inr ⟨by rfl, rfl⟩) (by simp only [Act.put, sA, sB, sC, qw, qx]; rfl) ?_
      refine qy (i := 30) (N := some 100) (v := undef) tb7_64 rfl rfl (by kernel_rfl) (fun _ _ _ h => h) (.inr ⟨by rfl, rfl⟩) (by simp only [Act.put, sA, sB, sC, qw, qx]; rfl) ?_
      refine qy (i := 31) (N := some 101) (v := undef) tb7_65 rfl rfl (by kernel_rfl) (fun _ _ _ h => h) (.inr ⟨by rfl, rfl⟩) (by simp only [Act.put, sA, sB, sC, qw, qx]; rfl) ?_
      refine qy (i := 32) (N := some 102) (v := undef) tb7_66 rfl rfl (by kernel_rfl) (fun _ _ _ h => h) (.inr ⟨by rfl, rfl⟩) (by simp only [Act.put, sA, sB, sC, qw, qx]; rfl) ?_
      refine qy (i := 33) (N := some 103) (v := undef) tb7_67 rfl rfl (by kernel_rfl) (fun _ _ _ h => h) (.inr ⟨by rfl, rfl⟩) (by simp only [Act.put, sA, sB, sC, qw, qx]; rfl) ?_
      refine qy (i := 34) (N := some 104) tb7_68 rfl rfl (by kernel_rfl) (fun _ _ _ h => h) (.inl ⟨by rfl, by intro w'; go_simp; with_reducible rfl⟩) (by simp only [Act.put, sA, sB, sC, qw, qx]; rfl) ?_
      refine qy (i := 35) (N := some 105) tb7_69 rfl rfl (by kernel_rfl) (fun _ _ _ h => h) (.inl ⟨by rfl, by intro w'; go_simp; with_reducible rfl⟩) (by simp only [Act.put, sA, sB, sC, qw, qx]; rfl) ?_
      refine qy (i := 36) (N := some 106) (v := undef) tb7_70 rfl rfl (by kernel_rfl) (fun _ _ _ h => h) (.inr ⟨by rfl, rfl⟩) (by simp only [Act.put, sA, sB, sC, qw, qx]; rfl) ?_
      refine qy (i := 37) (N := some 107) (v := undef) tb7_71 rfl rfl (by kernel_rfl) (fun _ _ _ h => h) (.inr ⟨by rfl, rfl⟩) (by simp only [Act.put, sA, sB, sC, qw, qx]; rfl) ?_
      refine qy (i := 38) (N := some 108) (v := undef) tb7_72 rfl rfl (by kernel_rfl) (fun _ _ _ h => h) (.inr ⟨by rfl, rfl⟩) (by simp only [Act.put, sA, sB, sC, qw, qx]; rfl) ?_
      refine qy (i := 39) (N := some 109) (v := undef) tb7_73 rfl rfl (by kernel_rfl) (fun _ _ _ h => h) (.inr ⟨by rfl, rfl⟩) (by simp only [Act.put, sA, sB, sC, qw, qx]; rfl) ?_
      refine qy (i := 40) (N := some 110) (v := undef) tb7_87 rfl rfl (by kernel_rfl) (fun _ _ _ h => h) (.inr ⟨by rfl, rfl⟩) (by simp only [Act.put, sA, sB, sC, qw, qx]; rfl) ?_
      refine qy (i := 41) (N := some 111) (v := undef) tb7_88 rfl rfl (by kernel_rfl) (fun _ _ _ h => h) (.inr ⟨by rfl, rfl⟩) (by simp only [Act.put, sA, sB, sC, qw, qx]; rfl) ?_
      refine qy (i := 42) (N := some 112) (v := undef) tb7_76 rfl rfl (by kernel_rfl) (fun _ _ _ h => h) (.inr ⟨by rfl, rfl⟩) (by simp only [Act.put, sA, sB, sC, qw, qx]; rfl) ?_
      refine qy (i := 43) (N := some 113) (v := undef) tb7_77 rfl rfl (by kernel_rfl) (fun _ _ _ h => h) (.inr ⟨by rfl, rfl⟩) (by simp only [Act.put, sA, sB, sC, qw, qx]; rfl) ?_
      refine qy (i := 44) (N := some 114) (v := undef) tb7_78 rfl rfl (by kernel_rfl) (fun _ _ _ h => h) (.inr ⟨by rfl, rfl⟩) (by simp only [Act.put, sA, sB, sC, qw, qx]; rfl) ?_
      refine qy (i := 45) (N := some 115) (v := undef) tb7_79 rfl rfl (by kernel_rfl) (fun _ _ _ h => h) (.inr ⟨by rfl, rfl⟩) (by simp only [Act.put, sA, sB, sC, qw, qx]; rfl) ?_
      refine qy (i := 46) (N := some 116) (v := undef) tb7_80 rfl rfl (by kernel_rfl) (fun _ _ _ h => h) (.inr ⟨by rfl, rfl⟩) (by simp only [Act.put, sA, sB, sC, qw, qx]; rfl) ?_
      refine qy (i := 47) (N := some 117) (v := undef) tb7_81 rfl rfl (by kernel_rfl) (fun _ _ _ h => h) (.inr ⟨by rfl, rfl⟩) (by simp only [Act.put, sA, sB, sC, qw, qx]; rfl) ?_
      refine qy (i := 48) (N := some 118) (v := undef) tb7_82 rfl rfl (by kernel_rfl) (fun _ _ _ h => h) (.inr ⟨by rfl, rfl⟩) (by simp only [Act.put, sA, sB, sC, qw, qx]; rfl) ?_
      refine qy (i := 49) (N := some 119) tb7_83 rfl rfl (by kernel_rfl) (fun _ _ _ h => h) (.inl ⟨by rfl, by intro w'; go_simp; with_reducible rfl⟩) (by simp only [Act.put, sA, sB, sC, qw, qx]; rfl) ?_
      refine zP (by kernel_rfl) ?_
      go_wp2
      go_ret
      exact ⟨rfl, qf n2_.out⟩
     have d3 : decide ((qc es (k : Int)).f0 < 0) = false := decide_eq_false e0
     refine qy (i := 2) (N := some 72) tb7_36 rfl rfl (by kernel_rfl) (fun _ _ _ h => h) (.inl ⟨by rfl, by intro w'; go_simp; with_reducible rfl⟩) (by simp only [Act.put, sA, sB, sC, qw, qx]; rfl) ?_
     refine qy (i := 3) (N := some 73) tb7_37 rfl rfl (by kernel_rfl) (fun _ _ _ h => h) (.inl ⟨by rfl, by intro w'; go_simp; with_reducible rfl⟩) (by simp only [Act.put, sA, sB, sC, qw, qx]; rfl) ?_
     refine qy (i := 4) (N := some 74) tb7_38 rfl rfl (by kernel_rfl) (fun _ _ _ h => h) (.inl ⟨by rfl, by intro w'; go_simp; with_reducible rfl⟩) (by simp only [Act.put, sA, sB, sC, qw, qx]; rfl) ?_
     refine qy (i := 6) (N := some 76) tb7_39 rfl rfl (by kernel_rfl) (fun _ _ _ h => h) (.inl ⟨by rfl, by intro w'; go_simp; with_reducible rfl⟩) (by simp only [Act.put, sA, sB, sC, qw, qx]; rfl) ?_
     refine vJ (i := 5) (N := some 75) tb7_40 rfl rfl (by kernel_rfl) (fun _ _ _ h => h) (.inl ⟨by rfl, by rintro w' ⟨s0, s1, s2, s3, s4, s5⟩; go_simp; with_reducible rfl⟩) hHeld (by simp only [Act.put, sA, sB, sC, qw, qx]; rfl) ?_
     refine vJ (i := 7) (N := some 77) tb7_41 rfl rfl (by kernel_rfl) (fun _ _ _ h => h) (.inl ⟨by rfl, by rintro w' ⟨s0, s1, s2, s3, s4, s5⟩; go_simp; with_reducible rfl⟩) hHeld (by simp only [Act.put, sA, sB, sC, qw, qx]; rfl) ?_
     by_cases e1 : n ≤ (qc es (k : Int)).f0
     ·have d4 : decide (n ≤ (qc es (k : Int)).f0) = true := decide_eq_true e1
      have hbad : zw n ls.length es = false := ze hlt (by unfold edgeOk; rw [show decide ((qc es (k : Int)).f0 < n) = false from decide_eq_false (by omega)]; simp)
      have hQ := HQ.out
      rw [hbad] at hQ
      subst hQ
      clear hbad
      refine qy (i := 8) (N := some 78) tb7_42 rfl rfl (by kernel_rfl) (fun _ _ _ h => h) (.inl ⟨by rfl, by intro w'; go_simp; with_reducible rfl⟩) (by simp only [Act.put, sA, sB, sC, qw, qx]; rfl) ?_
      refine qy (i := 9) (N := some 79) tb7_43 rfl rfl (by kernel_rfl) (fun _ _ _ h => h) (.inl ⟨by rfl, by intro w'; go_simp; with_reducible rfl⟩) (by simp only [Act.put, sA, sB, sC, qw, qx]; rfl) ?_
      refine qy (i := 10) (N := some 80) tb7_44 rfl rfl (by kernel_rfl) (fun _ _ _ h => h) (.inl ⟨by rfl, by intro w'; go_simp; with_reducible rfl⟩) (by simp only [Act.put, sA, sB, sC, qw, qx]; rfl) ?_
      refine qy (i := 11) (N := some 81) (v := undef) tb7_45 rfl rfl (by kernel_rfl) (fun _ _ _ h => h) (.inr ⟨by rfl, rfl⟩) (by simp only [Act.put, sA, sB, sC, qw, qx]; rfl) ?_
      refine qy (i := 12) (N := some 82) (v := undef) tb7_46 rfl rfl (by kernel_rfl) (fun _ _ _ h => h) (.inr ⟨by rfl, rfl⟩) (by simp only [Act.put, sA, sB, sC, qw, qx]; rfl) ?_
      refine qy (i := 13) (N := some 83) (v := undef) tb7_47 rfl rfl (by kernel_rfl) (fun _ _ _ h => h) (.inr ⟨by rfl, rfl⟩) (by simp only [Act.put, sA, sB, sC, qw, qx]; rfl) ?_
      refine qy (i := 14) (N := some 84) tb7_48 rfl rfl (by kernel_rfl) (fun _ _ _ h => h) (.inl ⟨by rfl, by intro w'; go_simp; with_reducible rfl⟩) (by simp only [Act.put, sA, sB, sC, qw, qx]; rfl) ?_
      refine qy (i := 15) (N := some 85) tb7_49 rfl rfl (by kernel_rfl) (fun _ _ _ h => h) (.inl ⟨by rfl, by intro w'; go_simp; with_reducible rfl⟩) (by simp only [Act.put, sA, sB, sC, qw, qx]; rfl) ?_
      refine qy (i := 16) (N := some 86) (v := undef) tb7_50 rfl rfl (by kernel_rfl) (fun _ _ _ h => h) (.inr ⟨by rfl, rfl⟩) (by simp only [Act.put, sA, sB, sC, qw, qx]; rfl) ?_
      refine qy (i := 17) (N := some 87) (v := undef) tb7_85 rfl rfl (by kernel_rfl) (fun _ _ _ h => h) (.inr ⟨by rfl, rfl⟩) (by simp only [Act.put, sA, sB, sC, qw, qx]; rfl) ?_
      refine qy (i := 18) (N := some 88) (v := undef) tb7_52 rfl rfl (by kernel_rfl) (fun _ _ _ h => h) (.inr ⟨by rfl, rfl⟩) (by simp only [Act.put, sA, sB, sC, qw, qx]; rfl) ?_
      refine qy (i := 19) (N := some 89) (v := undef) tb7_53 rfl rfl (by kernel_rfl) (fun _ _ _ h => h) (.inr ⟨by rfl, rfl⟩) (by simp only [Act.put, sA, sB, sC, qw, qx]; rfl) ?_
      refine qy (i := 20) (N := some 90) (v := undef) tb7_54 rfl rfl (by kernel_rfl) (fun _ _ _ h => h) (.inr ⟨by rfl, rfl⟩) (by simp only [Act.put, sA, sB, sC, qw, qx]; rfl) ?_
      refine qy (i := 21) (N := some 91) tb7_55 rfl rfl (by kernel_rfl) (fun _ _ _ h => h) (.inl ⟨by rfl, by intro w'; go_simp; with_reducible rfl⟩) (by simp only [Act.put, sA, sB, sC, qw, qx]; rfl) ?_
      refine qy (i := 22) (N := some 92) tb7_56 rfl rfl (by kernel_rfl) (fun _ _ _ h => h) (.inl ⟨by rfl, by intro w'; go_simp; with_reducible rfl⟩) (by simp only [Act.put, sA, sB, sC, qw, qx]; rfl) ?_
      refine qy (i := 23) (N := some 93) (v := undef) tb7_57 rfl rfl (by kernel_rfl) (fun _ _ _ h => h) (.inr ⟨by rfl, rfl⟩) (by simp only [Act.put, sA, sB, sC, qw, qx]; rfl) ?_
      refine qy (i := 24) (N := some 94) (v := undef) tb7_58 rfl rfl (by kernel_rfl) (fun _ _ _ h => h) (.inr ⟨by rfl, rfl⟩) (by simp only [Act.put, sA, sB, sC, qw, qx]; rfl) ?_
      refine qy (i := 25) (N := some 95) (v := undef) tb7_59 rfl rfl (by kernel_rfl) (fun _ _ _ h => h) (.inr ⟨by rfl, rfl⟩) (by simp only [Act.put, sA, sB, sC, qw, qx]; rfl) ?_
      refine qy (i := 26) (N := some 96) tb7_60 rfl rfl (by kernel_rfl) (fun _ _ _ h => h) (.inl ⟨by rfl, by intro w'; go_simp; with_reducible rfl⟩) (by simp only [Act.put, sA, sB, sC, qw, qx]; rfl) ?_
      refine qy (i := 27) (N := some 97) tb7_61 rfl rfl (by kernel_rfl) (fun _ _ _ h => h) (.inl ⟨by rfl, by intro w'; go_simp; with_reducible rfl⟩) (by simp only [Act.put, sA, sB, sC, qw, qx]; rfl) ?_
      refine qy (i := 28) (N := some 98) (v := undef) tb7_62 rfl rfl (by kernel_rfl) (fun _ _ _ h => h) (.inr ⟨by rfl, rfl⟩) (by simp only [Act.put, sA, sB, sC, qw, qx]; rfl) ?_
      refine qy (i := 29) (N := some 99) (v := undef) tb7_86 rfl rfl (by kernel_rfl) (fun _ _ _ h => h) (.inr ⟨by rfl, rfl⟩) (by simp only [Act.put, sA, sB, sC, qw, qx]; rfl) ?_
      refine qy (i := 30) (N := some 100) (v := undef) tb7_64 rfl rfl (by kernel_rfl) (fun _ _ _ h => h) (.inr ⟨by rfl, rfl⟩) (by simp only [Act.put, sA, sB, sC, qw, qx]; rfl) ?_
      refine qy (i := 31) (N := some 101) (v := undef) tb7_65 rfl rfl (by kernel_rfl) (fun _ _ _ h => h) (.inr ⟨by rfl, rfl⟩) (by simp only [Act.put, sA, sB, sC, qw, qx]; rfl) ?_
      refine qy (i := 32) (N := some 102) (v := undef) tb7_66 rfl rfl (by kernel_rfl) (fun _ _ _ h => h) (.inr ⟨by rfl, rfl⟩) (by simp only [Act.put, sA, sB, sC, qw, qx]; rfl) ?_
      refine qy (i := 33) (N := some 103) (v := undef) tb7_67 rfl rfl (by kernel_rfl) (fun _ _ _ h => h) (.inr ⟨by rfl, rfl⟩) (by simp only [Act.put, sA, sB, sC, qw, qx]; rfl) ?_
      refine qy (i := 34) (N := some 104) tb7_68 rfl rfl (by kernel_rfl) (fun _ _ _ h => h) (.inl ⟨by rfl, by intro w'; go_simp; with_reducible rfl⟩) (by simp only [Act.put, sA, sB, sC, qw, qx]; rfl) ?_
      refine qy (i := 35) (N := some 105) tb7_69 rfl rfl (by kernel_rfl) (fun _ _ _ h => h) (.inl ⟨by rfl, by intro w'; go_simp; with_reducible rfl⟩) (by simp only [Act.put, sA, sB, sC, qw, qx]; rfl) ?_
      refine qy (i := 36) (N := some 106) (v := undef) tb7_70 rfl rfl (by kernel_rfl) (fun _ _ _ h => h) (.inr ⟨by rfl, rfl⟩) (by simp only [Act.put, sA, sB, sC, qw, qx]; rfl) ?_
      refine qy (i := 37) (N := some 107) (v := undef) tb7_71 rfl rfl (by kernel_rfl) (fun _ _ _ h => h) (.inr ⟨by rfl, rfl⟩) (by simp only [Act.put, sA, sB, sC, qw, qx]; rfl) ?_
      refine qy (i := 38) (N := some 108) (v := undef) tb7_72 rfl rfl (by kernel_rfl) (fun _ _ _ h => h) (.inr ⟨by rfl, rfl⟩) (by simp only [Act.put, sA, sB, sC, qw, qx]; rfl) ?_
      refine qy (i := 39) (N := some 109) (v := undef) tb7_73 rfl rfl (by kernel_rfl) (fun _ _ _ h => h) (.inr ⟨by rfl, rfl⟩) (by simp only [Act.put, sA, sB, sC, qw, qx]; rfl) ?_
      refine qy (i := 40) (N := some 110) (v := undef) tb7_87 rfl rfl (by kernel_rfl) (fun _ _ _ h => h) (.inr ⟨by rfl, rfl⟩) (by simp only [Act.put, sA, sB, sC, qw, qx]; rfl) ?_
      refine qy (i := 41) (N := some 111) (v := undef) tb7_88 rfl rfl (by kernel_rfl) (fun _ _ _ h => h) (.inr ⟨by rfl, rfl⟩) (by simp only [Act.put, sA, sB, sC, qw, qx]; rfl) ?_
      refine qy (i := 42) (N := some 112) (v := undef) tb7_76 rfl rfl (by kernel_rfl) (fun _ _ _ h => h) (.inr ⟨by rfl, rfl⟩) (by simp only [Act.put, sA, sB, sC, qw, qx]; rfl) ?_
      refine qy (i := 43) (N := some 113) (v := undef) tb7_77 rfl rfl (by kernel_rfl) (fun _ _ _ h => h) (.inr ⟨by rfl, rfl⟩) (by simp only [Act.put, sA, sB, sC, qw, qx]; rfl) ?_
      refine qy (i := 44) (N := some 114) (v := undef) tb7_78 rfl rfl (by kernel_rfl) (fun _ _ _ h => h) (.inr ⟨by rfl, rfl⟩) (by simp only [Act.put, sA, sB, sC, qw, qx]; rfl) ?_
      refine qy (i := 45) (N := some 115) (v := undef) tb7_79 rfl rfl (by kernel_rfl) (fun _ _ _ h => h) (.inr ⟨by rfl, rfl⟩) (by simp only [Act.put, sA, sB, sC, qw, qx]; rfl) ?_
      refine qy (i := 46) (N := some 116) (v := undef) tb7_80 rfl rfl (by kernel_rfl) (fun _ _ _ h => h) (.inr ⟨by rfl, rfl⟩) (by simp only [Act.put, sA, sB, sC, qw, qx]; rfl) ?_
      refine qy (i := 47) (N := some 117) (v := undef) tb7_81 rfl rfl (by kernel_rfl) (fun _ _ _ h => h) (.inr ⟨by rfl, rfl⟩) (by simp only [Act.put, sA, sB, sC, qw, qx]; rfl) ?_
      refine qy (i := 48) (N := some 118) (v := undef) tb7_82 rfl rfl (by kernel_rfl) (fun _ _ _ h => h) (.inr ⟨by rfl, rfl⟩) (by simp only [Act.put, sA, sB, sC, qw, qx]; rfl) ?_
      refine qy (i := 49) (N := some 119) tb7_83 rfl rfl (by kernel_rfl) (fun _ _ _ h => h) (.inl ⟨by rfl, by intro w'; go_simp; with_reducible rfl⟩) (by simp only [Act.put, sA, sB, sC, qw, qx]; rfl) ?_
      refine zP (by kernel_rfl) ?_
      go_wp2
      go_ret
      exact ⟨rfl, qf n2_.out⟩
     have d4 : decide (n ≤ (qc es (k : Int)).f0) = false := decide_eq_false e1
     refine qy (i := 8) (N := some 78) tb7_42 rfl rfl (by kernel_rfl) (fun _ _ _ h => h) (.inl ⟨by rfl, by intro w'; go_simp; with_reducible rfl⟩) (by simp only [Act.put, sA, sB, sC, qw, qx]; rfl) ?_
     refine qy (i := 9) (N := some 79) tb7_43 rfl rfl (by kernel_rfl) (fun _ _ _ h => h) (.inl ⟨by rfl, by intro w'; go_simp; with_reducible rfl⟩) (by simp only [Act.put, sA, sB, sC, qw, qx]; rfl) ?_
     refine qy (i := 10) (N := some 80) tb7_44 rfl rfl (by kernel_rfl) (fun _ _ _ h => h) (.inl ⟨by rfl, by intro w'; go_simp; with_reducible rfl⟩) (by simp only [Act.put, sA, sB, sC, qw, qx]; rfl) ?_
     refine qy (i := 11) (N := some 81) tb7_45 rfl rfl (by kernel_rfl) (fun _ _ _ h => h) (.inl ⟨by rfl, by intro w'; go_simp; with_reducible rfl⟩) (by simp only [Act.put, sA, sB, sC, qw, qx]; rfl) ?_
     refine vJ (i := 12) (N := some 82) tb7_46 rfl rfl (by kernel_rfl) (fun _ _ _ h => h) (.inl ⟨by rfl, by rintro w' ⟨s0, s1, s2, s3, s4, s5⟩; go_simp; with_reducible rfl⟩) hHeld (by simp only [Act.put, sA, sB, sC, qw, qx]; rfl) ?_
     by_cases e2 : (qc es (k : Int)).f2 < 0
     ·have d5 : decide ((qc es (k : Int)).f2 < 0) = true := decide_eq_true e2
      have hbad : zw n ls.length es = false := ze hlt (by unfold edgeOk; rw [show decide (0 ≤ (qc es (k : Int)).f2) = false from decide_eq_false (by omega)]; simp)
      have hQ := HQ.out
      rw [hbad] at hQ
      subst hQ
      clear hbad
      refine qy (i := 13) (N := some 83) tb7_47 rfl rfl (by kernel_rfl) (fun _ _ _ h => h) (.inl ⟨by rfl, by intro w'; go_simp; with_reducible rfl⟩) (by simp only [Act.put, sA, sB, sC, qw, qx]; rfl) ?_
      refine qy (i := 14) (N := some 84) tb7_48 rfl rfl (by kernel_rfl) (fun _ _ _ h => h) (.inl ⟨by rfl, by intro w'; go_simp; with_reducible rfl⟩) (by simp only [Act.put, sA, sB, sC, qw, qx]; rfl) ?_
      refine qy (i := 15) (N := some 85) tb7_49 rfl rfl (by kernel_rfl) (fun _ _ _ h => h) (.inl ⟨by rfl, by intro w'; go_simp; with_reducible rfl⟩) (by simp only [Act.put, sA, sB, sC, qw, qx]; rfl) ?_
      refine qy (i := 16) (N := some 86) (v := undef) tb7_50 rfl rfl (by kernel_rfl) (fun _ _ _ h => h) (.inr ⟨by rfl, rfl⟩) (by simp only [Act.put, sA, sB, sC, qw, qx]; rfl) ?_
      refine qy (i := 17) (N := some 87) (v := undef) tb7_85 rfl rfl (by kernel_rfl) (fun _ _ _ h => h) (.inr ⟨by rfl, rfl⟩) (by simp only [Act.put, sA, sB, sC, qw, qx]; rfl) ?_
      refine qy (i := 18) (N := some 88) (v := undef) tb7_52 rfl rfl (by kernel_rfl) (fun _ _ _ h => h) (.inr ⟨by rfl, rfl⟩) (by simp only [Act.put, sA, sB, sC, qw, qx]; rfl) ?_
      refine qy (i := 19) (N := some 89) (v := undef) tb7_53 rfl rfl (by kernel_rfl) (fun _ _ _ h => h) (.inr ⟨by rfl, rfl⟩) (by simp only [Act.put, sA, sB, sC, qw, qx]; rfl) ?_
      refine qy (i := 20) (N := some 90) (v := undef) tb7_54 rfl rfl (by kernel_rfl) (fun _ _ _ h => h) (.inr ⟨by rfl, rfl⟩) (by simp only [Act.put, sA, sB, sC, qw, qx]; rfl) ?_
      refine qy (i := 21) (N := some 91) tb7_55 rfl rfl (by kernel_rfl) (fun _ _ _ h => h) (.inl ⟨by rfl, by intro w'; go_simp; with_reducible rfl⟩) (by simp only [Act.put, sA, sB, sC, qw, qx]; rfl) ?_
      refine qy (i := 22) (N := some 92) tb7_56 rfl rfl (by kernel_rfl) (fun _ _ _ h => h) (.inl ⟨by rfl, by intro w'; go_simp; with_reducible rfl⟩) (by simp only [Act.put, sA, sB, sC, qw, qx]; rfl) ?_
      refine qy (i := 23) (N := some 93) (v := undef) tb7_57 rfl rfl (by kernel_rfl) (fun _ _ _ h => h) (.inr ⟨by rfl, rfl⟩) (by simp only [Act.put, sA, sB, sC, qw, qx]; rfl) ?_
      refine qy (i := 24) (N := some 94) (v := undef) tb7_58 rfl rfl (by kernel_rfl) (fun _ _ _ h => h) (.inr ⟨by rfl, rfl⟩) (by simp only [Act.put, sA, sB, sC, qw, qx]; rfl) ?_
      refine qy (i := 25) (N := some 95) (v := undef) tb7_59 rfl rfl (by kernel_rfl) (fun _ _ _ h => h) (.inr ⟨by rfl, rfl⟩) (by simp only [Act.put, sA, sB, sC, qw, qx]; rfl) ?_
      refine qy (i := 26) (N := some 96) tb7_60 rfl rfl (by kernel_rfl) (fun _ _ _ h => h) (.inl ⟨by rfl, by intro w'; go_simp; with_reducible rfl⟩) (by simp only [Act.put, sA, sB, sC, qw, qx]; rfl) ?_
      refine qy (i := 27) (N := some 97) tb7_61 rfl rfl (by kernel_rfl) (fun _ _ _ h => h) (.inl ⟨by rfl, by intro w'; go_simp; with_reducible rfl⟩) (by simp only [Act.put, sA, sB, sC, qw, qx]; rfl) ?_
      refine qy (i := 28) (N := some 98) (v := undef) tb7_62 rfl rfl (by kernel_rfl) (fun _ _ _ h => h) (.inr ⟨by rfl, rfl⟩) (by simp only [Act.put, sA, sB, sC, qw, qx]; rfl) ?_
      refine qy (i := 29) (N := some 99) (v := undef) tb7_86 rfl rfl (by kernel_rfl) (fun _ _ _ h => h) (.inr ⟨by rfl, rfl⟩) (by simp only [Act.put, sA, sB, sC, qw, qx]; rfl) ?_
      refine qy (i := 30) (N := some 100) (v := undef) tb7_64 rfl rfl (by kernel_rfl) (fun _ _ _ h => h) (.inr ⟨by rfl, rfl⟩) (by simp only [Act.put, sA, sB, sC, qw, qx]; rfl) ?_
      refine qy (i := 31) (N := some 101) (v := undef) tb7_65 rfl rfl (by kernel_rfl) (fun _ _ _ h => h) (.inr ⟨by rfl, rfl⟩) (by simp only [Act.put, sA, sB, sC, qw, qx]; rfl) ?_
      refine qy (i := 32) (N := some 102) (v := undef) tb7_66 rfl rfl (by kernel_rfl) (fun _ _ _ h => h) (.inr ⟨by rfl, rfl⟩) (by simp only [Act.put, sA, sB, sC, qw, qx]; rfl) ?_
      refine qy (i := 33) (N := some 103) (v := undef) tb7_67 rfl rfl (by kernel_rfl) (fun _ _ _ h => h) (.inr ⟨by rfl, rfl⟩) (by simp only [Act.put, sA, sB, sC, qw, qx]; rfl) ?_
      refine qy (i := 34) (N := some 104) tb7_68 rfl rfl (by kernel_rfl) (fun _ _ _ h => h) (.inl ⟨by rfl, by intro w'; go_simp; with_reducible rfl⟩) (by simp only [Act.put, sA, sB, sC, qw, qx]; rfl) ?_
      refine qy (i := 35) (N := some 105) tb7_69 rfl rfl (by kernel_rfl) (fun _ _ _ h => h) (.inl ⟨by rfl, by intro w'; go_simp; with_reducible rfl⟩) (by simp only [Act.put, sA, sB, sC, qw, qx]; rfl) ?_
      refine qy (i := 36) (N := some 106) (v := undef) tb7_70 rfl rfl (by kernel_rfl) (fun _ _ _ h => h) (.inr ⟨by rfl, rfl⟩) (by simp only [Act.put, sA, sB, sC, qw, qx]; rfl) ?_
      refine qy (i := 37) (N := some 107) (v := undef) tb7_71 rfl rfl (by kernel_rfl) (fun _ _ _ h => h) (.inr ⟨by rfl, rfl⟩) (by simp only [Act.put, sA, sB, sC, qw, qx]; rfl) ?_
      refine qy (i := 38) (N := some 108) (v := undef) tb7_72 rfl rfl (by kernel_rfl) (fun _ _ _ h => h) (.inr ⟨by rfl, rfl⟩) (by simp only [Act.put, sA, sB, sC, qw, qx]; rfl) ?_
      refine qy (i := 39) (N := some 109) (v := undef) tb7_73 rfl rfl (by kernel_rfl) (fun _ _ _ h => h) (.inr ⟨by rfl, rfl⟩) (by simp only [Act.put, sA, sB, sC, qw, qx]; rfl) ?_
      refine qy (i := 40) (N := some 110) (v := undef) tb7_87 rfl rfl (by kernel_rfl) (fun _ _ _ h => h) (.inr ⟨by rfl, rfl⟩) (by simp only [Act.put, sA, sB, sC, qw, qx]; rfl) ?_
      refine qy (i := 41) (N := some 111) (v := undef) tb7_88 rfl rfl (by kernel_rfl) (fun _ _ _ h => h) (.inr ⟨by rfl, rfl⟩) (by simp only [Act.put, sA, sB, sC, qw, qx]; rfl) ?_
      refine qy (i := 42) (N := some 112) (v := undef) tb7_76 rfl rfl (by kernel_rfl) (fun _ _ _ h => h) (.inr ⟨by rfl, rfl⟩) (by simp only [Act.put, sA, sB, sC, qw, qx]; rfl) ?_
      refine qy (i := 43) (N := some 113) (v := undef) tb7_77 rfl rfl (by kernel_rfl) (fun _ _ _ h => h) (.inr ⟨by rfl, rfl⟩) (by simp only [Act.put, sA, sB, sC, qw, qx]; rfl) ?_
      refine qy (i := 44) (N := some 114) (v := undef) tb7_78 rfl rfl (by kernel_rfl) (fun _ _ _ h => h) (.inr ⟨by rfl, rfl⟩) (by simp only [Act.put, sA, sB, sC, qw, qx]; rfl) ?_
      refine qy (i := 45) (N := some 115) (v := undef) tb7_79 rfl rfl (by kernel_rfl) (fun _ _ _ h => h) (.inr ⟨by rfl, rfl⟩) (by simp only [Act.put, sA, sB, sC, qw, qx]; rfl) ?_
      refine qy (i := 46) (N := some 116) (v := undef) tb7_80 rfl rfl (by kernel_rfl) (fun _ _ _ h => h) (.inr ⟨by rfl, rfl⟩) (by simp only [Act.put, sA, sB, sC, qw, qx]; rfl) ?_
      refine qy (i := 47) (N := some 117) (v := undef) tb7_81 rfl rfl (by kernel_rfl) (fun _ _ _ h => h) (.inr ⟨by rfl, rfl⟩) (by simp only [Act.put, sA, sB, sC, qw, qx]; rfl) ?_
      refine qy (i := 48) (N := some 118) (v := undef) tb7_82 rfl rfl (by kernel_rfl) (fun _ _ _ h => h) (.inr ⟨by rfl, rfl⟩) (by simp only [Act.put, sA, sB, sC, qw, qx]; rfl) ?_
      refine qy (i := 49) (N := some 119) tb7_83 rfl rfl (by kernel_rfl) (fun _ _ _ h => h) (.inl ⟨by rfl, by intro w'; go_simp; with_reducible rfl⟩) (by simp only [Act.put, sA, sB, sC, qw, qx]; rfl) ?_
      refine zP (by kernel_rfl) ?_
      go_wp2
      go_ret
      exact ⟨rfl, qf n2_.out⟩
     have d5 : decide ((qc es (k : Int)).f2 < 0) = false := decide_eq_false e2
     refine qy (i := 13) (N := some 83) tb7_47 rfl rfl (by kernel_rfl) (fun _ _ _ h => h) (.inl ⟨by rfl, by intro w'; go_simp; with_reducible rfl⟩) (by simp only [Act.put, sA, sB, sC, qw, qx]; rfl) ?_
     refine qy (i := 14) (N := some 84) tb7_48 rfl rfl (by kernel_rfl) (fun _ _ _ h => h) (.inl ⟨by rfl, by intro w'; go_simp; with_reducible rfl⟩) (by simp only [Act.put, sA, sB, sC, qw, qx]; rfl) ?_
     refine qy (i := 15) (N := some 85) tb7_49 rfl rfl (by kernel_rfl) (fun _ _ _ h => h) (.inl ⟨by rfl, by intro w'; go_simp; with_reducible rfl⟩) (by simp only [Act.put, sA, sB, sC, qw, qx]; rfl) ?_
     refine qy (i := 16) (N := some 86) tb7_50 rfl rfl (by kernel_rfl) (fun _ _ _ h => h) (.inl ⟨by rfl, by intro w'; go_simp; with_reducible rfl⟩) (by simp only [Act.put, sA, sB, sC, qw, qx]; rfl) ?_
     refine qy (i := 18) (N := some 88) tb7_51 rfl rfl (by kernel_rfl) (fun _ _ _ h => h) (.inl ⟨by rfl, by intro w'; go_simp; with_reducible rfl⟩) (by simp only [Act.put, sA, sB, sC, qw, qx]; rfl) ?_
     refine vJ (i := 17) (N := some 87) tb7_52 rfl rfl (by kernel_rfl) (fun _ _ _ h => h) (.inl ⟨by rfl, by rintro w' ⟨s0, s1, s2, s3, s4, s5⟩; go_simp; with_reducible rfl⟩) hHeld (by simp only [Act.put, sA, sB, sC, qw, qx]; rfl) ?_
     refine vJ (i := 19) (N := some 89) tb7_53 rfl rfl (by kernel_rfl) (fun _ _ _ h => h) (.inl ⟨by rfl, by rintro w' ⟨s0, s1, s2, s3, s4, s5⟩; go_simp; with_reducible rfl⟩) hHeld (by simp only [Act.put, sA, sB, sC, qw, qx]; rfl) ?_
     by_cases e3 : n ≤ (qc es (k : Int)).f2
     ·have d6 : decide (n ≤ (qc es (k : Int)).f2) = true := decide_eq_true e3
      have hbad : zw n ls.length es = false := ze hlt (by unfold edgeOk; rw [show decide ((qc es (k : Int)).f2 < n) = false from decide_eq_false (by omega)]; simp)
      have hQ := HQ.out
      rw [hbad] at hQ
      subst hQ
      clear hbad
      refine qy (i := 20) (N := some 90) tb7_54 rfl rfl (by kernel_rfl) (fun _ _ _ h => h) (.inl ⟨by rfl, by intro w'; go_simp; with_reducible rfl⟩) (by simp only [Act.put, sA, sB, sC, qw, qx]; rfl) ?_
      refine qy (i := 21) (N := some 91) tb7_55 rfl rfl (by kernel_rfl) (fun _ _ _ h => h) (.inl ⟨by rfl, by intro w'; go_simp; with_reducible rfl⟩) (by simp only [Act.put, sA, sB, sC, qw, qx]; rfl) ?_
      refine qy (i := 22) (N := some 92) tb7_56 rfl rfl (by kernel_rfl) (fun _ _ _ h => h) (.inl ⟨by rfl, by intro w'; go_simp; with_reducible rfl⟩) (by simp only [Act.put, sA, sB, sC, qw, qx]; rfl) ?_
      refine qy (i := 23) (N := some 93) (v := undef) tb7_57 rfl rfl (by kernel_rfl) (fun _ _ _ h => h) (.inr ⟨by rfl, rfl⟩) (by simp only [Act.put, sA, sB, sC, qw, qx]; rfl) ?_
      refine qy (i := 24) (N := some 94) (v := undef) tb7_58 rfl rfl (by kernel_rfl) (fun _ _ _ h => h) (.inr ⟨by rfl, rfl⟩) (by simp only [Act.put, sA, sB, sC, qw, qx]; rfl) ?_
      refine qy (i := 25) (N := some 95) (v := undef) tb7_59 rfl rfl (by kernel_rfl) (fun _ _ _ h => h) (.inr ⟨by rfl, rfl⟩) (by simp only [Act.put, sA, sB, sC, qw, qx]; rfl) ?_
      refine qy (i := 26) (N := some 96) tb7_60 rfl rfl (by kernel_rfl) (fun _ _ _ h => h) (.inl ⟨by rfl, by intro w'; go_simp; with_reducible rfl⟩) (by simp only [Act.put, sA, sB, sC, qw, qx]; rfl) ?_
      refine qy (i := 27) (N := some 97) tb7_61 rfl rfl (by kernel_rfl) (fun _ _ _ h => h) (.inl ⟨by rfl, by intro w'; go_simp; with_reducible rfl⟩) (by simp only [Act.put, sA, sB, sC, qw, qx]; rfl) ?_
      refine qy (i := 28) (N := some 98) (v := undef) tb7_62 rfl rfl (by kernel_rfl) (fun _ _ _ h => h) (.inr ⟨by rfl, rfl⟩) (by simp only [Act.put, sA, sB, sC, qw, qx]; rfl) ?_
      refine qy (i := 29) (N := some 99) (v := undef) tb7_86 rfl rfl (by kernel_rfl) (fun _ _ _ h => h) (.inr ⟨by rfl, rfl⟩) (by simp only [Act.put, sA, sB, sC, qw, qx]; rfl) ?_
      refine qy (i := 30) (N := some 100) (v := undef) tb7_64 rfl rfl (by kernel_rfl) (fun _ _ _ h => h) (.inr ⟨by rfl, rfl⟩) (by simp only [Act.put, sA, sB, sC, qw, qx]; rfl) ?_
      refine qy (i := 31) (N := some 101) (v := undef) tb7_65 rfl rfl (by kernel_rfl) (fun _ _ _ h => h) (.inr ⟨by rfl, rfl⟩) (by simp only [Act.put, sA, sB, sC, qw, qx]; rfl) ?_
      refine qy (i := 32) (N := some 102) (v := undef) tb7_66 rfl rfl (by kernel_rfl) (fun _ _ _ h => h) (.inr ⟨by rfl, rfl⟩) (by simp only [Act.put, sA, sB, sC, qw, qx]; rfl) ?_
      refine qy (i := 33) (N := some 103) (v := undef) tb7_67 rfl rfl (by kernel_rfl) (fun _ _ _ h => h) (.inr ⟨by rfl, rfl⟩) (by simp only [Act.put, sA, sB, sC, qw, qx]; rfl) ?_
      refine qy (i := 34) (N := some 104) tb7_68 rfl rfl (by kernel_rfl) (fun _ _ _ h => h) (.inl ⟨by rfl, by intro w'; go_simp; with_reducible rfl⟩) (by simp only [Act.put, sA, sB, sC, qw, qx]; rfl) ?_
      refine qy (i := 35) (N := some 105) tb7_69 rfl rfl (by kernel_rfl) (fun _ _ _ h => h) (.inl ⟨by rfl, by intro w'; go_simp; with_reducible rfl⟩) (by simp only [Act.put, sA, sB, sC, qw, qx]; rfl) ?_
      refine qy (i := 36) (N := some 106) (v := undef) tb7_70 rfl rfl (by kernel_rfl) (fun _ _ _ h => h) (.inr ⟨by rfl, rfl⟩) (by simp only [Act.put, sA, sB, sC, qw, qx]; rfl) ?_
      refine qy (i := 37) (N := some 107) (v := undef) tb7_71 rfl rfl (by kernel_rfl) (fun _ _ _ h => h) (.inr ⟨by rfl, rfl⟩) (by simp only [Act.put, sA, sB, sC, qw, qx]; rfl) ?_
      refine qy (i := 38) (N := some 108) (v := undef) tb7_72 rfl rfl (by kernel_rfl) (fun _ _ _ h => h) (.inr ⟨by rfl, rfl⟩) (by simp only [Act.put, sA, sB, sC, qw, qx]; rfl) ?_
      refine qy (i := 39) (N := some 109) (v := undef) tb7_73 rfl rfl (by kernel_rfl) (fun _ _ _ h => h) (.inr ⟨by rfl, rfl⟩) (by simp only [Act.put, sA, sB, sC, qw, qx]; rfl) ?_
      refine qy (i := 40) (N := some 110) (v := undef) tb7_87 rfl rfl (by kernel_rfl) (fun _ _ _ h => h) (.inr ⟨by rfl, rfl⟩) (by simp only [Act.put, sA, sB, sC, qw, qx]; rfl) ?_
      refine qy (i := 41) (N := some 111) (v := undef) tb7_88 rfl rfl (by kernel_rfl) (fun _ _ _ h => h) (.inr ⟨by rfl, rfl⟩) (by simp only [Act.put, sA, sB, sC, qw, qx]; rfl) ?_
      refine qy (i := 42) (N := some 112) (v := undef) tb7_76 rfl rfl (by kernel_rfl) (fun _ _ _ h => h) (.inr ⟨by rfl, rfl⟩) (by simp only [Act.put, sA, sB, sC, qw, qx]; rfl) ?_
      refine qy (i := 43) (N := some 113) (v := undef) tb7_77 rfl rfl (by kernel_rfl) (fun _ _ _ h => h) (.inr ⟨by rfl, rfl⟩) (by simp only [Act.put, sA, sB, sC, qw, qx]; rfl) ?_
      refine qy (i := 44) (N := some 114) (v := undef) tb7_78 rfl rfl (by kernel_rfl) (fun _ _ _ h => h) (.inr ⟨by rfl, rfl⟩) (by simp only [Act.put, sA, sB, sC, qw, qx]; rfl) ?_
      refine qy (i := 45) (N := some 115) (v := undef) tb7_79 rfl rfl (by kernel_rfl) (fun _ _ _ h => h) (.inr ⟨by rfl, rfl⟩) (by simp only [Act.put, sA, sB, sC, qw, qx]; rfl) ?_
      refine qy (i := 46) (N := some 116) (v := undef) tb7_80 rfl rfl (by kernel_rfl) (fun _ _ _ h => h) (.inr ⟨by rfl, rfl⟩) (by simp only [Act.put, sA, sB, sC, qw, qx]; rfl) ?_
      refine qy (i := 47) (N := some 117) (v := undef) tb7_81 rfl rfl (by kernel_rfl) (fun _ _ _ h => h) (.inr ⟨by rfl, rfl⟩) (by simp only [Act.put, sA, sB, sC, qw, qx]; rfl) ?_
      refine qy (i := 48) (N := some 118) (v := undef) tb7_82 rfl rfl (by kernel_rfl) (fun _ _ _ h => h) (.inr ⟨by rfl, rfl⟩) (by simp only [Act.put, sA, sB, sC, qw, qx]; rfl) ?_
      refine qy (i := 49) (N := some 119) tb7_83 rfl rfl (by kernel_rfl) (fun _ _ _ h => h) (.inl ⟨by rfl, by intro w'; go_simp; with_reducible rfl⟩) (by simp only [Act.put, sA, sB, sC, qw, qx]; rfl) ?_
      refine zP (by kernel_rfl) ?_
      go_wp2
      go_ret
      exact ⟨rfl, qf n2_.out⟩
     have d6 : decide (n ≤ (qc es (k : Int)).f2) = false := decide_eq_false e3
     refine qy (i := 20) (N := some 90) tb7_54 rfl rfl (by kernel_rfl) (fun _ _ _ h => h) (.inl ⟨by rfl, by intro w'; go_simp; with_reducible rfl⟩) (by simp only [Act.put, sA, sB, sC, qw, qx]; rfl) ?_
     refine qy (i := 21) (N := some 91) tb7_55 rfl rfl (by kernel_rfl) (fun _ _ _ h => h) (.inl ⟨by rfl, by intro w'; go_simp; with_reducible rfl⟩) (by simp only [Act.put, sA, sB, sC, qw, qx]; rfl) ?_
     refine qy (i := 22) (N := some 92) tb7_56 rfl rfl (by kernel_rfl) (fun _ _ _ h => h) (.inl ⟨by rfl, by intro w'; go_simp; with_reducible rfl⟩) (by simp only [Act.put, sA, sB, sC, qw, qx]; rfl) ?_
     refine qy (i := 23) (N := some 93) tb7_57 rfl rfl (by kernel_rfl) (fun _ _ _ h => h) (.inl ⟨by rfl, by intro w'; go_simp; with_reducible rfl⟩) (by simp only [Act.put, sA, sB, sC, qw, qx]; rfl) ?_
     refine vJ (i := 24) (N := some 94) tb7_58 rfl rfl (by kernel_rfl) (fun _ _ _ h => h) (.inl ⟨by rfl, by rintro w' ⟨s0, s1, s2, s3, s4, s5⟩; go_simp; with_reducible rfl⟩) hHeld (by simp only [Act.put, sA, sB, sC, qw, qx]; rfl) ?_
     by_cases e4 : (qc es (k : Int)).f1 < 0
     ·have d7 : decide ((qc es (k : Int)).f1 < 0) = true := decide_eq_true e4
      have hbad : zw n ls.length es = false := ze hlt (by unfold edgeOk; rw [show decide (0 ≤ (qc es (k : Int)).f1) = false from decide_eq_false (by omega)]; simp)
      have hQ := HQ.out
      rw [hbad] at hQ
      subst hQ
      clear hbad
      refine qy (i := 25) (N := some 95) tb7_59 rfl rfl (by kernel_rfl) (fun _ _ _ h => h) (.inl ⟨by rfl, by intro w'; go_simp; with_reducible rfl⟩) (by simp only [Act.put, sA, sB, sC, qw, qx]; rfl) ?_
      refine qy (i := 26) (N := some 96) tb7_60 rfl rfl (by kernel_rfl) (fun _ _ _ h => h) (.inl ⟨by rfl, by intro w'; go_simp; with_reducible rfl⟩) (by simp only [Act.put, sA, sB, sC, qw, qx]; rfl) ?_
      refine qy (i := 27) (N := some 97) tb7_61 rfl rfl (by kernel_rfl) (fun _ _ _ h => h) (.inl ⟨by rfl, by intro w'; go_simp; with_reducible rfl⟩) (by simp only [Act.put, sA, sB, sC, qw, qx]; rfl) ?_
      refine qy (i := 28) (N := some 98) (v := undef) tb7_62 rfl rfl (by kernel_rfl) (fun _ _ _ h => h) (.inr ⟨by rfl, rfl⟩) (by simp only [Act.put, sA, sB, sC, qw, qx]; rfl) ?_
      refine qy (i := 29) (N := some 99) (v := undef) tb7_86 rfl rfl (by kernel_rfl) (fun _ _ _ h => h) (.inr ⟨by rfl, rfl⟩) (by simp only [Act.put, sA, sB, sC, qw, qx]; rfl) ?_
      refine qy (i := 30) (N := some 100) (v := undef) tb7_64 rfl rfl (by kernel_rfl) (fun _ _ _ h => h) (.inr ⟨by rfl, rfl⟩) (by simp only [Act.put, sA, sB, sC, qw, qx]; rfl) ?_
      refine qy (i := 31) (N := some 101) (v := undef) tb7_65 rfl rfl (by kernel_rfl) (fun _ _ _ h => h) (.inr ⟨by rfl, rfl⟩) (by simp only [Act.put, sA, sB, sC, qw, qx]; rfl) ?_
      refine qy (i := 32) (N := some 102) (v := undef) tb7_66 rfl rfl (by kernel_rfl) (fun _ _ _ h => h) (.inr ⟨by rfl, rfl⟩) (by simp only [Act.put, sA, sB, sC, qw, qx]; rfl) ?_
      refine qy (i := 33) (N := some 103) (v := undef) tb7_67 rfl rfl (by kernel_rfl) (fun _ _ _ h => h) (.inr ⟨by rfl, rfl⟩) (by simp only [Act.put, sA, sB, sC, qw, qx]; rfl) ?_
      refine qy (i := 34) (N := some 104) tb7_68 rfl rfl (by kernel_rfl) (fun _ _ _ h => h) (.inl ⟨by rfl, by intro w'; go_simp; with_reducible rfl⟩) (by simp only [Act.put, sA, sB, sC, qw, qx]; rfl) ?_
      refine qy (i := 35) (N := some 105) tb7_69 rfl rfl (by kernel_rfl) (fun _ _ _ h => h) (.inl ⟨by rfl, by intro w'; go_simp; with_reducible rfl⟩) (by simp only [Act.put, sA, sB, sC, qw, qx]; rfl) ?_
      refine qy (i := 36) (N := some 106) (v := undef) tb7_70 rfl rfl (by kernel_rfl) (fun _ _ _ h => h) (.inr ⟨by rfl, rfl⟩) (by simp only [Act.put, sA, sB, sC, qw, qx]; rfl) ?_
      refine qy (i := 37) (N := some 107) (v := undef) tb7_71 rfl rfl (by kernel_rfl) (fun _ _ _ h => h) (.inr ⟨by rfl, rfl⟩) (by simp only [Act.put, sA, sB, sC, qw, qx]; rfl) ?_
      refine qy (i := 38) (N := some 108) (v := undef) tb7_72 rfl rfl (by kernel_rfl) (fun _ _ _ h => h) (.inr ⟨by rfl, rfl⟩) (by simp only [Act.put, sA, sB, sC, qw, qx]; rfl) ?_
      refine qy (i := 39) (N := some 109) (v := undef) tb7_73 rfl rfl (by kernel_rfl) (fun _ _ _ h => h) (.inr ⟨by rfl, rfl⟩) (by simp only [Act.put, sA, sB, sC, qw, qx]; rfl) ?_
      refine qy (i := 40) (N := some 110) (v := undef) tb7_87 rfl rfl (by kernel_rfl) (fun _ _ _ h => h) (.inr ⟨by rfl, rfl⟩) (by simp only [Act.put, sA, sB, sC, qw, qx]; rfl) ?_
      refine qy (i := 41) (N := some 111) (v := undef) tb7_88 rfl rfl (by kernel_rfl) (fun _ _ _ h => h) (.inr ⟨by rfl, rfl⟩) (by simp only [Act.put, sA, sB, sC, qw, qx]; rfl) ?_
      refine qy (i := 42) (N := some 112) (v := undef) tb7_76 rfl rfl (by kernel_rfl) (fun _ _ _ h => h) (.inr ⟨by rfl, rfl⟩) (by simp only [Act.put, sA, sB, sC, qw, qx]; rfl) ?_
      refine qy (i := 43) (N := some 113) (v := undef) tb7_77 rfl rfl (by kernel_rfl) (fun _ _ _ h => h) (.inr ⟨by rfl, rfl⟩) (by simp only [Act.put, sA, sB, sC, qw, qx]; rfl) ?_
      refine qy (i := 44) (N := some 114) (v := undef) tb7_78 rfl rfl (by kernel_rfl) (fun _ _ _ h => h) (.inr ⟨by rfl, rfl⟩) (by simp only [Act.put, sA, sB, sC, qw, qx]; rfl) ?_
      refine qy (i := 45) (N := some 115) (v := undef) tb7_79 rfl rfl (by kernel_rfl) (fun _ _ _ h => h) (.inr ⟨by rfl, rfl⟩) (by simp only [Act.put, sA, sB, sC, qw, qx]; rfl) ?_
      refine qy (i := 46) (N := some 116) (v := undef) tb7_80 rfl rfl (by kernel_rfl) (fun _ _ _ h => h) (.inr ⟨by rfl, rfl⟩) (by simp only [Act.put, sA, sB, sC, qw, qx]; rfl) ?_
      refine qy (i := 47) (N := some 117) (v := undef) tb7_81 rfl rfl (by kernel_rfl) (fun _ _ _ h => h) (.inr ⟨by rfl, rfl⟩) (by simp only [Act.put, sA, sB, sC, qw, qx]; rfl) ?_
      refine qy (i := 48) (N := some 118) (v := undef) tb7_82 rfl rfl (by kernel_rfl) (fun _ _ _ h => h) (.inr ⟨by rfl, rfl⟩) (by simp only [Act.put, sA, sB, sC, qw, qx]; rfl) ?_
      refine qy (i := 49) (N := some 119) tb7_83 rfl rfl (by kernel_rfl) (fun _ _ _ h => h) (.inl ⟨by rfl, by intro w'; go_simp; with_reducible rfl⟩) (by simp only [Act.put, sA, sB, sC, qw, qx]; rfl) ?_
      refine zP (by kernel_rfl) ?_
      go_wp2
      go_ret
      exact ⟨rfl, qf n2_.out⟩
     have d7 : decide ((qc es (k : Int)).f1 < 0) = false := decide_eq_false e4
     refine qy (i := 25) (N := some 95) tb7_59 rfl rfl (by kernel_rfl) (fun _ _ _ h => h) (.inl ⟨by rfl, by intro w'; go_simp; with_reducible rfl⟩) (by simp only [Act.put, sA, sB, sC, qw, qx]; rfl) ?_
     refine qy (i := 26) (N := some 96) tb7_60 rfl rfl (by kernel_rfl) (fun _ _ _ h => h) (.inl ⟨by rfl, by intro w'; go_simp; with_reducible rfl⟩) (by simp only [Act.put, sA, sB, sC, qw, qx]; rfl) ?_
     refine qy (i := 27) (N := some 97) tb7_61 rfl rfl (by kernel_rfl) (fun _ _ _ h => h) (.inl ⟨by rfl, by intro w'; go_simp; with_reducible rfl⟩) (by simp only [Act.put, sA, sB, sC, qw, qx]; rfl) ?_
     refine qy (i := 28) (N := some 98) tb7_62 rfl rfl (by kernel_rfl) (fun _ _ _ h => h) (.inl ⟨by rfl, by intro w'; go_simp; with_reducible rfl⟩) (by simp only [Act.put, sA, sB, sC, qw, qx]; rfl) ?_
     refine qy (i := 30) (N := some 100) tb7_63 rfl rfl (by kernel_rfl) (fun _ _ _ h => h) (.inl ⟨by rfl, by intro w'; go_simp; with_reducible rfl⟩) (by simp only [Act.put, sA, sB, sC, qw, qx]; rfl) ?_
     refine vJ (i := 29) (N := some 99) tb7_64 rfl rfl (by kernel_rfl) (fun _ _ _ h => h) (.inl ⟨by rfl, by rintro w' ⟨s0, s1, s2, s3, s4, s5⟩; go_simp; with_reducible rfl⟩) hHeld (by simp only [Act.put, sA, sB, sC, qw, qx]; rfl) ?_
     refine vJ (i := 31) (N := some 101) tb7_65 rfl rfl (by kernel_rfl) (fun _ _ _ h => h) (.inl ⟨by rfl, by rintro w' ⟨s0, s1, s2, s3, s4, s5⟩; go_simp; with_reducible rfl⟩) hHeld (by simp only [Act.put, sA, sB, sC, qw, qx]; rfl) ?_
     refine qy (i := 32) (N := some 102) tb7_66 rfl rfl (by kernel_rfl) (fun _ _ _ h => h) (.inl ⟨by rfl, by intro w'; go_simp; with_reducible rfl⟩) (by simp only [Act.put, sA, sB, sC, qw, qx]; rfl) ?_
     by_cases e5 : (ls.length : Int) ≤ (qc es (k : Int)).f1
     ·have d8 : decide ((ls.length : Int) ≤ (qc es (k : Int)).f1) = true := decide_eq_true e5
      have hbad : zw n ls.length es = false := ze hlt (by unfold edgeOk; rw [show decide ((qc es (k : Int)).f1 < (ls.length : Int)) = false from decide_eq_false (by omega)]; simp)
      have hQ := HQ.out
      rw [hbad] at hQ
      subst hQ
      clear hbad
      refine qy (i := 33) (N := some 103) tb7_67 rfl rfl (by kernel_rfl) (fun _ _ _ h => h) (.inl ⟨by rfl, by intro w'; go_simp; with_reducible rfl⟩) (by simp only [Act.put, sA, sB, sC, qw, qx]; rfl) ?_
      refine qy (i := 34) (N := some 104) tb7_68 rfl rfl (by kernel_rfl) (fun _ _ _ h => h) (.inl ⟨by rfl, by intro w'; go_simp; with_reducible rfl⟩) (by simp only [Act.put, sA, sB, sC, qw, qx]; rfl) ?_
      refine qy (i := 35) (N := some 105) tb7_69 rfl rfl (by kernel_rfl) (fun _ _ _ h => h) (.inl ⟨by rfl, by intro w'; go_simp; with_reducible rfl⟩) (by simp only [Act.put, sA, sB, sC, qw, qx]; rfl) ?_
      refine qy (i := 36) (N := some 106) (v := undef) tb7_70 rfl rfl (by kernel_rfl) (fun _ _ _ h => h) (.inr ⟨by rfl, rfl⟩) (by simp only [Act.put, sA, sB, sC, qw, qx]; rfl) ?_
      refine qy (i := 37) (N := some 107) (v := undef) tb7_71 rfl rfl (by kernel_rfl) (fun _ _ _ h => h) (.inr ⟨by rfl, rfl⟩) (by simp only [Act.put, sA, sB, sC, qw, qx]; rfl) ?_
      refine qy (i := 38) (N := some 108) (v := undef) tb7_72 rfl rfl (by kernel_rfl) (fun _ _ _ h => h) (.inr ⟨by rfl, rfl⟩) (by simp only [Act.put, sA, sB, sC, qw, qx]; rfl) ?_
      refine qy (i := 39) (N := some 109) (v := undef) tb7_73 rfl rfl (by kernel_rfl) (fun _ _ _ h => h) (.inr ⟨by rfl, rfl⟩) (by simp only [Act.put, sA, sB, sC, qw, qx]; rfl) ?_
      refine qy (i := 40) (N := some 110) (v := undef) tb7_87 rfl rfl (by kernel_rfl) (fun _ _ _ h => h) (.inr ⟨by rfl, rfl⟩) (by simp only [Act.put, sA, sB, sC, qw, qx]; rfl) ?_
      refine qy (i := 41) (N := some 111) (v := undef) tb7_88 rfl rfl (by kernel_rfl) (fun _ _ _ h => h) (.inr ⟨by rfl, rfl⟩) (by simp only [Act.put, sA, sB, sC, qw, qx]; rfl) ?_
      refine qy (i := 42) (N := some 112) (v := undef) tb7_76 rfl rfl (by kernel_rfl) (fun _ _ _ h => h) (.inr ⟨by rfl, rfl⟩) (by simp only [Act.put, sA, sB, sC, qw, qx]; rfl) ?_
      refine qy (i := 43) (N := some 113) (v := undef) tb7_77 rfl rfl (by kernel_rfl) (fun _ _ _ h => h) (.inr ⟨by rfl, rfl⟩) (by simp only [Act.put, sA, sB, sC, qw, qx]; rfl) ?_
      refine qy (i := 44) (N := some 114) (v := undef) tb7_78 rfl rfl (by kernel_rfl) (fun _ _ _ h => h) (.inr ⟨by rfl, rfl⟩) (by simp only [Act.put, sA, sB, sC, qw, qx]; rfl) ?_
      refine qy (i := 45) (N := some 115) (v := undef) tb7_79 rfl rfl (by kernel_rfl) (fun _ _ _ h => h) (.inr ⟨by rfl, rfl⟩) (by simp only [Act.put, sA, sB, sC, qw, qx]; rfl) ?_
      refine qy (i := 46) (N := some 116) (v := undef) tb7_80 rfl rfl (by kernel_rfl) (fun _ _ _ h => h) (.inr ⟨by rfl, rfl⟩) (by simp only [Act.put, sA, sB, sC, qw, qx]; rfl) ?_
      refine qy (i := 47) (N := some 117) (v := undef) tb7_81 rfl rfl (by kernel_rfl) (fun _ _ _ h => h) (.inr ⟨by rfl, rfl⟩) (by simp only [Act.put, sA, sB, sC, qw, qx]; rfl) ?_
      refine qy (i := 48) (N := some 118) (v := undef) tb7_82 rfl rfl (by kernel_rfl) (fun _ _ _ h => h) (.inr ⟨by rfl, rfl⟩) (by simp only [Act.put, sA, sB, sC, qw, qx]; rfl) ?_
      refine qy (i := 49) (N := some 119) tb7_83 rfl rfl (by kernel_rfl) (fun _ _ _ h => h) (.inl ⟨by rfl, by intro w'; go_simp; with_reducible rfl⟩) (by simp only [Act.put, sA, sB, sC, qw, qx]; rfl) ?_
      refine zP (by kernel_rfl) ?_
      go_wp2
      go_ret
      exact ⟨rfl, qf n2_.out⟩
     have d8 : decide ((ls.length : Int) ≤ (qc es (k : Int)).f1) = false := decide_eq_false e5
     have e6 : ¬ 0 < k := fun h => hH ⟨h, e0, e1, e2, e3, e4, e5⟩
     have hfst : qa (edgeOk n ls.length es k = (decide (k = 0) || decide (cmpE (qc es ((k : Int) - 1)) (qc es (k : Int)) < 0))) := ⟨by unfold edgeOk; rw [show decide (0 ≤ (qc es (k : Int)).f0) = true from decide_eq_true (by omega), show decide ((qc es (k : Int)).f0 < n) = true from decide_eq_true (by omega), show decide (0 ≤ (qc es (k : Int)).f2) = true from decide_eq_true (by omega), show decide ((qc es (k : Int)).f2 < n) = true from decide_eq_true (by omega), show decide (0 ≤ (qc es (k : Int)).f1) = true from decide_eq_true (by omega), show decide ((qc es (k : Int)).f1 < (ls.length : Int)) = true from decide_eq_true (by omega)]; simp only [Bool.true_and]⟩
     have d9 : decide (0 < (k : Int)) = false := decide_eq_false (by omega)
     have d10 : decide (0 < k) = false := decide_eq_false e6
     have hgood : qa (edgeOk n ls.length es k = true) := ⟨by rw [hfst.out, show decide (k = 0) = true from decide_eq_true (by omega), Bool.true_or]⟩
     clear hfst
     refine qy (i := 33) (N := some 103) tb7_67 rfl rfl (by kernel_rfl) (fun _ _ _ h => h) (.inl ⟨by rfl, by intro w'; go_simp; with_reducible rfl⟩) (by simp only [Act.put, sA, sB, sC, qw, qx]; rfl) ?_
     refine qy (i := 34) (N := some 104) tb7_68 rfl rfl (by kernel_rfl) (fun _ _ _ h => h) (.inl ⟨by rfl, by intro w'; go_simp; with_reducible rfl⟩) (by simp only [Act.put, sA, sB, sC, qw, qx]; rfl) ?_
     refine qy (i := 35) (N := some 105) tb7_69 rfl rfl (by kernel_rfl) (fun _ _ _ h => h) (.inl ⟨by rfl, by intro w'; go_simp; with_reducible rfl⟩) (by simp only [Act.put, sA, sB, sC, qw, qx]; rfl) ?_
     refine qy (i := 36) (N := some 106) tb7_70 rfl rfl (by kernel_rfl) (fun _ _ _ h => h) (.inl ⟨by rfl, by intro w'; go_simp; with_reducible rfl⟩) (by simp only [Act.put, sA, sB, sC, qw, qx]; rfl) ?_
     refine qy (i := 37) (N := some 107) tb7_71 rfl rfl (by kernel_rfl) (fun _ _ _ h => h) (.inl ⟨by rfl, by intro w'; go_simp; with_reducible rfl⟩) (by simp only [Act.put, sA, sB, sC, qw, qx]; rfl) ?_
     refine qy (i := 38) (N := some 108) tb7_72 rfl rfl (by kernel_rfl) (fun _ _ _ h => h) (.inl ⟨by rfl, by intro w'; go_simp; with_reducible rfl⟩) (by simp only [Act.put, sA, sB, sC, qw, qx]; rfl) ?_
     refine qy (i := 39) (N := some 109) (v := undef) tb7_73 rfl rfl (by kernel_rfl) (fun _ _ _ h => h) (.inr ⟨by rfl, rfl⟩) (by simp only [Act.put, sA, sB, sC, qw, qx]; rfl) ?_
     refine qy (i := 40) (N := some 110) (v := undef) tb7_87 rfl rfl (by kernel_rfl) (fun _ _ _ h => h) (.inr ⟨by rfl, rfl⟩) (by simp only [Act.put, sA, sB, sC, qw, qx]; rfl) ?_
     refine qy (i := 41) (N := some 111) (v := undef) tb7_88 rfl rfl (by kernel_rfl) (fun _ _ _ h => h) (.inr ⟨by rfl, rfl⟩) (by simp only [Act.put, sA, sB, sC, qw, qx]; rfl) ?_
     refine qy (i := 42) (N := some 112) (v := undef) tb7_76 rfl rfl (by kernel_rfl) (fun _ _ _ h => h) (.inr ⟨by rfl, rfl⟩) (by simp only [Act.put, sA, sB, sC, qw, qx]; rfl) ?_
     refine qy (i := 43) (N := some 113) (v := undef) tb7_77 rfl rfl (by kernel_rfl) (fun _ _ _ h => h) (.inr ⟨by rfl, rfl⟩) (by simp only [Act.put, sA, sB, sC, qw, qx]; rfl) ?_
     refine qy (i := 44) (N := some 114) (v := undef) tb7_78 rfl rfl (by kernel_rfl) (fun _ _ _ h => h) (.inr ⟨by rfl, rfl⟩) (by simp only [Act.put, sA, sB, sC, qw, qx]; rfl) ?_
     refine qy (i := 45) (N := some 115) (v := undef) tb7_79 rfl rfl (by kernel_rfl) (fun _ _ _ h => h) (.inr ⟨by rfl, rfl⟩) (by simp only [Act.put, sA, sB, sC, qw, qx]; rfl) ?_
     refine qy (i := 46) (N := some 116) (v := undef) tb7_80 rfl rfl (by kernel_rfl) (fun _ _ _ h => h) (.inr ⟨by rfl, rfl⟩) (by simp only [Act.put, sA, sB, sC, qw, qx]; rfl) ?_
     refine qy (i := 47) (N := some 117) (v := undef) tb7_81 rfl rfl (by kernel_rfl) (fun _ _ _ h => h) (.inr ⟨by rfl, rfl⟩) (by simp only [Act.put, sA, sB, sC, qw, qx]; rfl) ?_
     refine qy (i := 48) (N := some 118) tb7_82 rfl rfl (by kernel_rfl) (fun _ _ _ h => h) (.inl ⟨by rfl, by intro w'; go_simp; with_reducible rfl⟩) (by simp only [Act.put, sA, sB, sC, qw, qx]; rfl) ?_
     refine qy (i := 49) (N := some 119) tb7_83 rfl rfl (by kernel_rfl) (fun _ _ _ h => h) (.inl ⟨by rfl, by intro w'; go_simp; with_reducible rfl⟩) (by simp only [Act.put, sA, sB, sC, qw, qx]; rfl) ?_
     refine zP (by kernel_rfl) ?_
     go_wp2
     go_roundw
     case rel => exact ⟨k + 1, by go_num, by omega, ⟨jD HOK.out hgood.out⟩, ⟨ql n1_.out⟩, ⟨qf n2_.out⟩⟩
     case measure => simp [intOf]; omega
    ·have d1 : decide ((k : Int) < (es.length : Int)) = false := decide_eq_false (by omega)
     have d2 : decide (k < es.length) = false := decide_eq_false hlt
     have hES : zw n ls.length es = true := jP (fun j hj => HOK.out j (by omega))
     have hQ := HQ.out
     rw [hES] at hQ
     subst hQ
     clear hES
     go_wp2
     go_ret
     exact ⟨rfl, HB.out⟩
set_option maxHeartbeats 4000000 in
set_option maxRecDepth 100000 in
theorem q8.calls (a0_0 : Int) (A0_1 : Option Addr) (c0_1 : Nat) (l0_1 : List ByteArray) (A0_2 : Option Addr) (c0_2 : Nat) (l0_2 : List (S55)) (r : Bool) (w : World) (hr0_1 : Kd.C Kd.string w A0_1 l0_1.length l0_1) (hc0_1 : l0_1.length ≤ c0_1) (hr0_2 : Kd.C k55 w A0_2 l0_2.length l0_2) (hc0_2 : l0_2.length ≤ c0_2) (h : q8.f a0_0 l0_1 l0_2 = some r) :
  Calls Try.prog 21 #[.agg #[.int .i64 a0_0, .slice A0_1 l0_1.length c0_1, .slice A0_2 l0_2.length c0_2]] w fun e w' => e = .returned (.bool r) ∧ Below w.heap.size w w' := by
 have hu25 := Try.underlying25
 have hu55 := Try.underlying55
 have h := Option.some.inj h
 unfold mayF at h
 by_cases h1 : a0_0 < 1
 ·rw [show decide (1 ≤ a0_0) = false from decide_eq_false (by omega), Bool.false_and] at h
  subst h
  have b1 : decide (a0_0 < 1) = true := decide_eq_true h1
  clear hr0_1 hr0_2
  go_enter Try.func21, Try.ntmps21
  go_wp2
  go_ret
  exact ⟨rfl, qg (Below.refl _ _) _⟩
 have b1 : decide (a0_0 < 1) = false := decide_eq_false h1
 rw [show decide (1 ≤ a0_0) = true from decide_eq_true (by omega), Bool.true_and] at h
 by_cases h2 : 2048 < a0_0
 ·rw [show decide (a0_0 ≤ 2048) = false from decide_eq_false (by omega), Bool.false_and] at h
  subst h
  have b2 : decide (2048 < a0_0) = true := decide_eq_true h2
  clear hr0_1 hr0_2
  go_enter Try.func21, Try.ntmps21
  go_wp2
  go_ret
  exact ⟨rfl, qg (Below.refl _ _) _⟩
 have b2 : decide (2048 < a0_0) = false := decide_eq_false h2
 rw [show decide (a0_0 ≤ 2048) = true from decide_eq_true (by omega), Bool.true_and] at h
 by_cases h3 : 64 < l0_1.length
 ·rw [show decide (l0_1.length ≤ 64) = false from decide_eq_false (by omega), Bool.false_and] at h
  subst h
  have b3 : decide (64 < l0_1.length) = true := decide_eq_true h3
  have b4 : decide (64 < (l0_1.length : Int)) = true := decide_eq_true (by omega)
  clear hr0_1 hr0_2
  go_enter Try.func21, Try.ntmps21
  go_wp2
  go_ret
  exact ⟨rfl, qg (Below.refl _ _) _⟩
 have b3 : decide (64 < l0_1.length) = false := decide_eq_false h3
 have b4 : decide (64 < (l0_1.length : Int)) = false := decide_eq_false (by omega)
 rw [show decide (l0_1.length ≤ 64) = true from decide_eq_true (by omega), Bool.true_and] at h
 by_cases h4 : 1000000 < l0_2.length
 ·rw [show decide (l0_2.length ≤ 1000000) = false from decide_eq_false (by omega), Bool.false_and] at h
  subst h
  have b5 : decide (1000000 < l0_2.length) = true := decide_eq_true h4
  have b6 : decide (1000000 < (l0_2.length : Int)) = true := decide_eq_true (by omega)
  clear hr0_1 hr0_2
  go_enter Try.func21, Try.ntmps21
  go_wp2
  go_ret
  exact ⟨rfl, qg (Below.refl _ _) _⟩
 rw [show decide (l0_2.length ≤ 1000000) = true from decide_eq_true (by omega), Bool.true_and] at h
 exact may_walk a0_0 A0_1 c0_1 l0_1 A0_2 c0_2 l0_2 r w hr0_1 hr0_2 (by omega) (by omega) (by omega) (by omega) h
end Go.Proofs.Ytcjbghmhdefdiaa.S
