/- A part of the proof that the last text of this folder tells of. -/
import Derived.Test.YthdgipjkbmmaoaaGreatDoorTaf
import Derived.Test.YthdgipjkbmmaoaaGreatDoorTag
import Derived.Test.YthdgipjkbmmaoaaGreatDoorTah
import Derived.Test.YthdgipjkbmmaoaaGreatDoorTai
import Derived.Test.YthdgipjkbmmaoaaGreatDoorTaj
import Derived.Test.YthdgipjkbmmaoaaGreatDoorTak
import Derived.Test.YthdgipjkbmmaoaaGreatDoorTal
import Derived.Test.YthdgipjkbmmaoaaGreatDoorTam
import Derived.Test.YthdgipjkbmmaoaaGreatDoorTan
import Derived.Test.YthdgipjkbmmaoaaGreatDoorTao
import Derived.Test.YthdgipjkbmmaoaaGreatDoorChecked
import Derived.Shelf.Strconv.Itoa3
import Derived.KernelRfl
import Derived.Lib.ItoaNum
set_option maxRecDepth 100000
namespace Go.Own
open Go Go.Proofs
noncomputable def tabL:List (Option TFn):=[none,
none,
none,
le 3 Tryz.f3 [] [],
le 4 Tryz.f4 [] [],
le 5 Tryz.f5 [] [],
le 6 Tryz.f6 [] [],
le 7 Tryz.f7 [] [],
le 8 Tryz.f8 [] [],
le 9 Tryz.f9 [] [],
le 10 Tryz.f10 [] [],
le 11 Tryz.f11 [] [],
le 12 Tryz.f12 [] [],
le 13 Tryz.f13 [] [],
le 14 Tryz.f14 [] [],
le 15 Tryz.f15 (List.range 1) [],
le 16 Tryz.f16 [] [],
le 17 Tryz.f17 [] [],
le 18 Tryz.f18 [] [],
le 19 Tryz.f19 [] [],
le 20 Tryz.f20 [] [],
le 21 Tryz.f21 [] [],
le 22 Tryz.f22 [] [],
le 23 Tryz.f23 [] [],
le 24 Tryz.f24 [] [],
le 25 Tryz.f25 [] [],
le 26 Tryz.f26 [] [],
le 27 Tryz.f27 (List.range 40) [],
le 28 Tryz.f28 [] [],
le 29 Tryz.f29 [] [],
le 30 Tryz.f30 [] [],
le 31 Tryz.f31 [] [],
le 32 Tryz.f32 [] [],
le 33 Tryz.f33 [] [],
le 34 Tryz.f34 [] [],
le 35 Tryz.f35 [] [],
le 36 Tryz.f36 [] [],
le 37 Tryz.f37 [] [],
le 38 Tryz.f38 [] [],
le 39 Tryz.f39 [] [],
le 40 Tryz.f40 [] [],
le 41 Tryz.f41 [] [],
le 42 Tryz.f42 [] [],
le 43 Tryz.f43 [] [],
le 44 Tryz.f44 [] [],
le 45 Tryz.f45 [] [],
le 46 Tryz.f46 [] [],
le 47 Tryz.f47 [] [],
le 48 Tryz.f48 [] [],
le 49 Tryz.f49 [] [],
le 50 Tryz.f50 [] [],
le 51 Tryz.f51 [] [],
le 52 Tryz.f52 [] [],
le 53 Tryz.f53 [] [],
le 54 Tryz.f54 [] [],
le 55 Tryz.f55 [] [],
le 56 Tryz.f56 [2] (List.range 120),
le 57 Tryz.f57 [] [],
le 58 Tryz.f58 [] [],
le 59 Tryz.f59 [] [],
le 60 Tryz.f60 [] [],
le 61 Tryz.f61 [] [],
le 62 Tryz.f62 [] [],
le 63 Tryz.f63 [] [],
le 64 Tryz.f64 [] [],
le 65 Tryz.f65 [] [],
le 66 Tryz.f66 [] [],
le 67 Tryz.f67 [] [],
le 68 Tryz.f68 [] [],
le 69 Tryz.f69 [] [],
le 70 Tryz.f70 [] [],
le 71 Tryz.f71 [] (List.range 40),
le 72 Tryz.f72 [] [],
le 73 Tryz.f73 [] [],
le 74 Tryz.f74 [] [],
le 75 Tryz.f75 [] [],
le 76 Tryz.f76 [] [],
le 77 Tryz.f77 [] [],
le 78 Tryz.f78 [] [],
le 79 Tryz.f79 [] [],
le 80 Tryz.f80 [] [],
le 81 Tryz.f81 [] [],
le 82 Tryz.f82 [] [],
le 83 Tryz.f83 [] [],
le 84 Tryz.f84 [] [],
le 85 Tryz.f85 [] [],
le 86 Tryz.f86 [] [],
le 87 Tryz.f87 [] [],
le 88 Tryz.f88 [] [],
le 89 Tryz.f89 [] [],
le 90 Tryz.f90 [] [],
le 91 Tryz.f91 [] [],
le 92 Tryz.f92 [] [],
le 93 Tryz.f93 [] [],
le 94 Tryz.f94 [] [],
le 95 Tryz.f95 [] [],
le 96 Tryz.f96 [] (List.range 40),
le 97 Tryz.f97 [] [],
le 98 Tryz.f98 [] [],
le 99 Tryz.f99 [] [],
le 100 Tryz.f100 [] [],
le 101 Tryz.f101 [] [],
le 102 Tryz.f102 [] [],
le 103 Tryz.f103 [] [],
le 104 Tryz.f104 [] [],
le 105 Tryz.f105 [] [],
le 106 Tryz.f106 [] [],
le 107 Tryz.f107 [] [],
le 108 Tryz.f108 [] [],
le 109 Tryz.f109 [] [],
le 110 Tryz.f110 [] (List.range 90),
le 111 Tryz.f111 [] [],
le 112 Tryz.f112 [] [],
le 113 Tryz.f113 [] [],
le 114 Tryz.f114 [] [],
le 115 Tryz.f115 [] [],
le 116 Tryz.f116 [] [],
le 117 Tryz.f117 [] [],
le 118 Tryz.f118 [] [],
le 119 Tryz.f119 [] [],
le 120 Tryz.f120 [] [],
le 121 Tryz.f121 [] [],
le 122 Tryz.f122 [] [],
le 123 Tryz.f123 [] [],
le 124 Tryz.f124 [] [],
le 125 Tryz.f125 [] [],
le 126 Tryz.f126 [] [],
le 127 Tryz.f127 [] [],
le 128 Tryz.f128 [] [],
le 129 Tryz.f129 [] [],
le 130 Tryz.f130 [] [],
le 131 Tryz.f131 [] [],
le 132 Tryz.f132 [] [],
le 133 Tryz.f133 [] [],
le 134 Tryz.f134 [] [],
le 135 Tryz.f135 [] [],
le 136 Tryz.f136 [] [],
le 137 Tryz.f137 [] [],
le 138 Tryz.f138 [] [],
le 139 Tryz.f139 [] [],
le 140 Tryz.f140 [] [],
le 141 Tryz.f141 [] [],
le 142 Tryz.f142 [] [],
le 143 Tryz.f143 [] [],
le 144 Tryz.f144 [] [],
le 145 Tryz.f145 [] [],
le 146 Tryz.f146 [] [],
le 147 Tryz.f147 [] [],
le 148 Tryz.f148 [] [],
le 149 Tryz.f149 [] [],
le 150 Tryz.f150 [] (List.range 60),
le 151 Tryz.f151 [] [],
le 152 Tryz.f152 [] [],
le 153 Tryz.f153 [] [],
le 154 Tryz.f154 [] [],
none,
le 156 Tryz.f156 [] [],
le 157 Tryz.f157 [] [],
le 158 Tryz.f158 [] [],
le 159 Tryz.f159 [] [],
le 160 Tryz.f160 [] [],
le 161 Tryz.f161 [] [],
le 162 Tryz.f162 [] [],
none,
le 164 Tryz.f164 [] [],
le 165 Tryz.f165 [] []]
noncomputable def tab (f:Nat):Option TFn:=(tabL[f]?).bind id
noncomputable def q3:=tf_of (Tb:=tab) (X:=ext) [[tL 10],[tL 2]] m3 (by kernel_rfl) rfl
noncomputable def q4:=tf_of (Tb:=tab) (X:=ext) [[tL 10],[tI]] m4 (by kernel_rfl) rfl
noncomputable def q5:=tf_of (Tb:=tab) (X:=ext) [[tL 2],[tI]] m5 (by kernel_rfl) rfl
noncomputable def q6:=tf_of (Tb:=tab) (X:=ext) [[tL 10],[tL 2]] m6 (by kernel_rfl) rfl
noncomputable def q7:=tf_of (Tb:=tab) (X:=ext) [[tL 10]] m7 (by kernel_rfl) rfl
noncomputable def q8:=tf_of (Tb:=tab) (X:=ext) [[tL 2]] m8 (by kernel_rfl) rfl
noncomputable def q9:=tf_of (Tb:=tab) (X:=ext) [[tL 10],[tL 2]] m9 (by kernel_rfl) rfl
noncomputable def q10:=tf_of (Tb:=tab) (X:=ext) [[tI,tI,tS,tL 4,tL 5],[tI,tI,tS,tL 4,tL 5]] m10 (by kernel_rfl) rfl
noncomputable def q11:=tf_of (Tb:=tab) (X:=ext) [[tL 10],[tL 10]] m11 (by kernel_rfl) rfl
noncomputable def q12:=tf_of (Tb:=tab) (X:=ext) [[tL 2],[tL 2]] m12 (by kernel_rfl) rfl
noncomputable def q13:=tf_of (Tb:=tab) (X:=ext) [[tL 10],[tI]] m13 (by kernel_rfl) rfl
noncomputable def q14:=tf_of (Tb:=tab) (X:=ext) [[tL 2],[tI]] m14 (by kernel_rfl) rfl
noncomputable def q15:=tf_of (Tb:=tab) (X:=ext) [[tI,tI,tS,tL 4,tL 5],[tI]] m15 (by kernel_rfl) rfl
noncomputable def q16:=tf_of (Tb:=tab) (X:=ext) [[tI,tI,tS,tL 4,tL 5],[tI]] m16 (by kernel_rfl) rfl
noncomputable def q17:=tf_of (Tb:=tab) (X:=ext) [[tI,tL 3,tL 1,tI,tI,tL 1,tL 1,tL 5,tL 2,tL 7],[tI]] m17 (by kernel_rfl) rfl
noncomputable def q18:=tf_of (Tb:=tab) (X:=ext) [[tL 2,tL 3],[tI]] m18 (by kernel_rfl) rfl
noncomputable def q19:=tf_of (Tb:=tab) (X:=ext) [[tL 10]] m19 (by kernel_rfl) rfl
noncomputable def q20:=tf_of (Tb:=tab) (X:=ext) [[tL 2]] m20 (by kernel_rfl) rfl
noncomputable def q21:=tf_of (Tb:=tab) (X:=ext) [[tL 10],[tL 2]] m21 (by kernel_rfl) rfl
noncomputable def q22:=tf_of (Tb:=tab) (X:=ext) [[tI,tL 3,tL 1,tI,tI,tL 1,tL 1,tL 5,tL 2,tL 7]] m22 (by kernel_rfl) rfl
noncomputable def q23:=tf_of (Tb:=tab) (X:=ext) [[tL 2,tL 3]] m23 (by kernel_rfl) rfl
noncomputable def q24:=tf_of (Tb:=tab) (X:=ext) [[tL 10]] m24 (by kernel_rfl) rfl
noncomputable def q25:=tf_of (Tb:=tab) (X:=ext) [[tL 2]] m25 (by kernel_rfl) rfl
noncomputable def q26:=tf_of (Tb:=tab) (X:=ext) [[tL 8]] m26 (by kernel_rfl) rfl
noncomputable def q27:=tf_of (Tb:=tab) (X:=ext) [[tL 10],[tL 2],[tL 2,tI,tL 3,tL 3]] m27 (by kernel_rfl) rfl
noncomputable def q28:=tf_of (Tb:=tab) (X:=ext) [] m28 (by kernel_rfl) rfl
noncomputable def q29:=tf_of (Tb:=tab) (X:=ext) [[tL 4],[tL 4]] m29 (by kernel_rfl) rfl
noncomputable def q30:=tf_of (Tb:=tab) (X:=ext) [[tL 5],[tL 5]] m30 (by kernel_rfl) rfl
noncomputable def q31:=tf_of (Tb:=tab) (X:=ext) [[tI,tL 3,tL 1,tI,tI,tL 1,tL 1,tL 5,tL 2,tL 7],[tI,tL 3,tL 1,tI,tI,tL 1,tL 1,tL 5,tL 2,tL 7]] m31 (by kernel_rfl) rfl
noncomputable def q32:=tf_of (Tb:=tab) (X:=ext) [[tL 2,tL 3],[tL 2,tL 3]] m32 (by kernel_rfl) rfl
noncomputable def q33:=tf_of (Tb:=tab) (X:=ext) [[tL 3],[tI]] m33 (by kernel_rfl) rfl
noncomputable def q34:=tf_of (Tb:=tab) (X:=ext) [[tL 1],[tI]] m34 (by kernel_rfl) rfl
noncomputable def q35:=tf_of (Tb:=tab) (X:=ext) [[tL 1],[tI]] m35 (by kernel_rfl) rfl
noncomputable def q36:=tf_of (Tb:=tab) (X:=ext) [[tL 1],[tI]] m36 (by kernel_rfl) rfl
noncomputable def q37:=tf_of (Tb:=tab) (X:=ext) [[tL 5],[tI]] m37 (by kernel_rfl) rfl
noncomputable def q38:=tf_of (Tb:=tab) (X:=ext) [[tL 2],[tI]] m38 (by kernel_rfl) rfl
noncomputable def q39:=tf_of (Tb:=tab) (X:=ext) [[tL 7],[tI]] m39 (by kernel_rfl) rfl
noncomputable def q40:=tf_of (Tb:=tab) (X:=ext) [[tL 2],[tI]] m40 (by kernel_rfl) rfl
noncomputable def q41:=tf_of (Tb:=tab) (X:=ext) [[tL 4],[tI]] m41 (by kernel_rfl) rfl
noncomputable def q42:=tf_of (Tb:=tab) (X:=ext) [[tL 5],[tI]] m42 (by kernel_rfl) rfl
noncomputable def q43:=tf_of (Tb:=tab) (X:=ext) [[tL 4],[tI]] m43 (by kernel_rfl) rfl
noncomputable def q44:=tf_of (Tb:=tab) (X:=ext) [[tL 5],[tI]] m44 (by kernel_rfl) rfl
noncomputable def q45:=tf_of (Tb:=tab) (X:=ext) [[tL 3],[tI]] m45 (by kernel_rfl) rfl
noncomputable def q46:=tf_of (Tb:=tab) (X:=ext) [[tL 1],[tI]] m46 (by kernel_rfl) rfl
noncomputable def q47:=tf_of (Tb:=tab) (X:=ext) [[tI,tI,tL 1,tL 1,tL 5,tL 2,tL 7],[tI]] m47 (by kernel_rfl) rfl
noncomputable def q48:=tf_of (Tb:=tab) (X:=ext) [[tL 2],[tI]] m48 (by kernel_rfl) rfl
noncomputable def q49:=tf_of (Tb:=tab) (X:=ext) [[tI],[tI],[tI]] m49 (by kernel_rfl) rfl
noncomputable def q50:=tf_of (Tb:=tab) (X:=ext) [[tL 3]] m50 (by kernel_rfl) rfl
noncomputable def q51:=tf_of (Tb:=tab) (X:=ext) [[tI,tL 3,tL 1,tI,tI,tL 1,tL 1,tL 5,tL 2,tL 7]] m51 (by kernel_rfl) rfl
noncomputable def q52:=tf_of (Tb:=tab) (X:=ext) [[tL 10],[tI],[tI,tI,tL 1,tL 1,tL 5,tL 2,tL 7],[tI],[tI]] m52 (by kernel_rfl) rfl
noncomputable def q53:=tf_of (Tb:=tab) (X:=ext) [[tL 10]] m53 (by kernel_rfl) rfl
noncomputable def q54:=tf_of (Tb:=tab) (X:=ext) [[tL 2]] m54 (by kernel_rfl) rfl
noncomputable def q55:=tf_of (Tb:=tab) (X:=ext) [[tL 2],[tL 2]] m55 (by kernel_rfl) rfl
noncomputable def q56:=tf_of (Tb:=tab) (X:=ext) [[tL 10],[tL 2],[tL 2,tI,tL 3,tL 3]] m56 (by kernel_rfl) rfl
noncomputable def q57:=tf_of (Tb:=tab) (X:=ext) [] m57 (by kernel_rfl) rfl
noncomputable def q58:=tf_of (Tb:=tab) (X:=ext) [[tL 5]] m58 (by kernel_rfl) rfl
noncomputable def q59:=tf_of (Tb:=tab) (X:=ext) [[tL 3]] m59 (by kernel_rfl) rfl
noncomputable def q60:=tf_of (Tb:=tab) (X:=ext) [[tL 1]] m60 (by kernel_rfl) rfl
noncomputable def q61:=tf_of (Tb:=tab) (X:=ext) [[tI,tI,tL 1,tL 1,tL 5,tL 2,tL 7]] m61 (by kernel_rfl) rfl
noncomputable def q62:=tf_of (Tb:=tab) (X:=ext) [[tL 2]] m62 (by kernel_rfl) rfl
noncomputable def q63:=tf_of (Tb:=tab) (X:=ext) [[tI],[tI],[tI]] m63 (by kernel_rfl) rfl
noncomputable def q64:=tf_of (Tb:=tab) (X:=ext) [[tL 10],[tI]] m64 (by kernel_rfl) rfl
noncomputable def q65:=tf_of (Tb:=tab) (X:=ext) [[tL 10],[tI],[tI,tI,tL 1,tL 1,tL 5,tL 2,tL 7],[tI],[tI]] m65 (by kernel_rfl) rfl
noncomputable def q66:=tf_of (Tb:=tab) (X:=ext) [[tL 10],[tI,tI,tL 1,tL 1,tL 5,tL 2,tL 7]] m66 (by kernel_rfl) rfl
noncomputable def q67:=tf_of (Tb:=tab) (X:=ext) [[tL 2]] m67 (by kernel_rfl) rfl
noncomputable def q68:=tf_of (Tb:=tab) (X:=ext) [[tL 3]] m68 (by kernel_rfl) rfl
noncomputable def q69:=tf_of (Tb:=tab) (X:=ext) [[tL 2],[tL 2]] m69 (by kernel_rfl) rfl
noncomputable def q70:=tf_of (Tb:=tab) (X:=ext) [[tI,tI,tS,tL 4,tL 5]] m70 (by kernel_rfl) rfl
noncomputable def q71:=tf_of (Tb:=tab) (X:=ext) [[tL 8,tI],[tL 5]] m71 (by kernel_rfl) rfl
noncomputable def q72:=tf_of (Tb:=tab) (X:=ext) [[tL 10],[tL 2],[tL 2,tI,tL 3,tL 3]] m72 (by kernel_rfl) rfl
noncomputable def q73:=tf_of (Tb:=tab) (X:=ext) [[tI,tI,tI,tS],[tI,tI,tI,tS]] m73 (by kernel_rfl) rfl
noncomputable def q74:=tf_of (Tb:=tab) (X:=ext) [[tL 3],[tL 3]] m74 (by kernel_rfl) rfl
noncomputable def q75:=tf_of (Tb:=tab) (X:=ext) [[tL 1],[tL 1]] m75 (by kernel_rfl) rfl
noncomputable def q76:=tf_of (Tb:=tab) (X:=ext) [[tI,tI,tL 1,tL 1,tL 5,tL 2,tL 7],[tI,tI,tL 1,tL 1,tL 5,tL 2,tL 7]] m76 (by kernel_rfl) rfl
noncomputable def q77:=tf_of (Tb:=tab) (X:=ext) [[tL 2],[tL 2]] m77 (by kernel_rfl) rfl
noncomputable def q78:=tf_of (Tb:=tab) (X:=ext) [[tI]] m78 (by kernel_rfl) rfl
noncomputable def q79:=tf_of (Tb:=tab) (X:=ext) [[tL 2],[tI]] m79 (by kernel_rfl) rfl
noncomputable def q80:=tf_of (Tb:=tab) (X:=ext) [[tI,tI,tS],[tI]] m80 (by kernel_rfl) rfl
noncomputable def q81:=tf_of (Tb:=tab) (X:=ext) [[tL 2],[tI]] m81 (by kernel_rfl) rfl
noncomputable def q82:=tf_of (Tb:=tab) (X:=ext) [[tL 1],[tI]] m82 (by kernel_rfl) rfl
noncomputable def q83:=tf_of (Tb:=tab) (X:=ext) [[tL 1],[tI]] m83 (by kernel_rfl) rfl
noncomputable def q84:=tf_of (Tb:=tab) (X:=ext) [[tL 5],[tI]] m84 (by kernel_rfl) rfl
noncomputable def q85:=tf_of (Tb:=tab) (X:=ext) [[tL 2],[tI]] m85 (by kernel_rfl) rfl
noncomputable def q86:=tf_of (Tb:=tab) (X:=ext) [[tL 7],[tI]] m86 (by kernel_rfl) rfl
noncomputable def q87:=tf_of (Tb:=tab) (X:=ext) [[tI,tI,tS]] m87 (by kernel_rfl) rfl
noncomputable def q88:=tf_of (Tb:=tab) (X:=ext) [[tL 5],[tI],[tI],[tI]] m88 (by kernel_rfl) rfl
noncomputable def q89:=tf_of (Tb:=tab) (X:=ext) [[tI]] m89 (by kernel_rfl) rfl
noncomputable def q90:=tf_of (Tb:=tab) (X:=ext) [[tL 10],[tI],[tI,tI,tL 1,tL 1,tL 5,tL 2,tL 7]] m90 (by kernel_rfl) rfl
noncomputable def q91:=tf_of (Tb:=tab) (X:=ext) [[tL 1],[tI],[tI],[tI]] m91 (by kernel_rfl) rfl
noncomputable def q92:=tf_of (Tb:=tab) (X:=ext) [[tI,tI,tL 1,tL 1,tL 5,tL 2,tL 7],[tL 1]] m92 (by kernel_rfl) rfl
noncomputable def q93:=tf_of (Tb:=tab) (X:=ext) [[tI,tI]] m93 (by kernel_rfl) rfl
noncomputable def q94:=tf_of (Tb:=tab) (X:=ext) [[tL 10],[tL 2,tI,tL 3,tL 3],[tL 3]] m94 (by kernel_rfl) rfl
noncomputable def q95:=tf_of (Tb:=tab) (X:=ext) [[tL 2],[tL 2],[tI,tL 3,tL 1,tI,tI,tL 1,tL 1,tL 5,tL 2,tL 7]] m95 (by kernel_rfl) rfl
noncomputable def q96:=tf_of (Tb:=tab) (X:=ext) [[tL 1,tI],[tL 5]] m96 (by kernel_rfl) rfl
noncomputable def q97:=tf_of (Tb:=tab) (X:=ext) [[tL 5]] m97 (by kernel_rfl) rfl
noncomputable def q98:=tf_of (Tb:=tab) (X:=ext) [[tI,tI,tS]] m98 (by kernel_rfl) rfl
noncomputable def q99:=tf_of (Tb:=tab) (X:=ext) [[tL 2]] m99 (by kernel_rfl) rfl
noncomputable def q100:=tf_of (Tb:=tab) (X:=ext) [[tL 1]] m100 (by kernel_rfl) rfl
noncomputable def q101:=tf_of (Tb:=tab) (X:=ext) [[tL 1]] m101 (by kernel_rfl) rfl
noncomputable def q102:=tf_of (Tb:=tab) (X:=ext) [[tL 5]] m102 (by kernel_rfl) rfl
noncomputable def q103:=tf_of (Tb:=tab) (X:=ext) [[tL 2]] m103 (by kernel_rfl) rfl
noncomputable def q104:=tf_of (Tb:=tab) (X:=ext) [[tL 7]] m104 (by kernel_rfl) rfl
noncomputable def q105:=tf_of (Tb:=tab) (X:=ext) [[tI,tI]] m105 (by kernel_rfl) rfl
noncomputable def q106:=tf_of (Tb:=tab) (X:=ext) [[tL 5],[tI],[tI],[tI]] m106 (by kernel_rfl) rfl
noncomputable def q107:=tf_of (Tb:=tab) (X:=ext) [[tI,tL 3,tL 1,tI,tI,tL 1,tL 1,tL 5,tL 2,tL 7],[tL 1],[tI]] m107 (by kernel_rfl) rfl
noncomputable def q108:=tf_of (Tb:=tab) (X:=ext) [[tI,tI,tS]] m108 (by kernel_rfl) rfl
noncomputable def q109:=tf_of (Tb:=tab) (X:=ext) [[tL 10],[tL 2],[tI],[tL 2]] m109 (by kernel_rfl) rfl
noncomputable def q110:=tf_of (Tb:=tab) (X:=ext) [[tL 10,tL 2,tL 4,tL 2,tI,tI,tL 3,tL 1,tI,tI,tL 1,tL 1,tL 5,tL 2,tL 7,tL 2],[tI,tI,tL 1,tL 1,tL 5,tL 2,tL 7],[tL 2],[tL 3,tL 3,tL 1,tL 3]] m110 (by kernel_rfl) rfl
noncomputable def q111:=tf_of (Tb:=tab) (X:=ext) [[tL 2],[tI],[tI]] m111 (by kernel_rfl) rfl
noncomputable def q112:=tf_of (Tb:=tab) (X:=ext) [[tI,tI,tS],[tI,tI,tS]] m112 (by kernel_rfl) rfl
noncomputable def q113:=tf_of (Tb:=tab) (X:=ext) [[tL 2],[tL 2]] m113 (by kernel_rfl) rfl
noncomputable def q114:=tf_of (Tb:=tab) (X:=ext) [[tL 1],[tL 1]] m114 (by kernel_rfl) rfl
noncomputable def q115:=tf_of (Tb:=tab) (X:=ext) [[tL 1],[tL 1]] m115 (by kernel_rfl) rfl
noncomputable def q116:=tf_of (Tb:=tab) (X:=ext) [[tL 5],[tL 5]] m116 (by kernel_rfl) rfl
noncomputable def q117:=tf_of (Tb:=tab) (X:=ext) [[tL 2],[tL 2]] m117 (by kernel_rfl) rfl
noncomputable def q118:=tf_of (Tb:=tab) (X:=ext) [[tL 7],[tL 7]] m118 (by kernel_rfl) rfl
noncomputable def q119:=tf_of (Tb:=tab) (X:=ext) [[tI,tI],[tI,tI]] m119 (by kernel_rfl) rfl
noncomputable def q120:=tf_of (Tb:=tab) (X:=ext) [[tI,tL 5],[tI]] m120 (by kernel_rfl) rfl
noncomputable def q121:=tf_of (Tb:=tab) (X:=ext) [[tI,tI,tI,tI,tS],[tI]] m121 (by kernel_rfl) rfl
noncomputable def q122:=tf_of (Tb:=tab) (X:=ext) [[tS]] m122 (by kernel_rfl) rfl
noncomputable def q123:=tf_of (Tb:=tab) (X:=ext) [[tI,tI,tI,tI,tS],[tI],[tI],[tI]] m123 (by kernel_rfl) rfl
noncomputable def q124:=tf_of (Tb:=tab) (X:=ext) [[tI,tI,tI,tI,tS]] m124 (by kernel_rfl) rfl
noncomputable def q125:=tf_of (Tb:=tab) (X:=ext) [[tL 1]] m125 (by kernel_rfl) rfl
noncomputable def q126:=tf_of (Tb:=tab) (X:=ext) [[tL 2],[tI]] m126 (by kernel_rfl) rfl
noncomputable def q127:=tf_of (Tb:=tab) (X:=ext) [[tL 4,tL 2,tI],[tI,tI,tL 1,tL 1,tL 5,tL 2,tL 7],[tL 3,tL 3,tL 1,tL 3],[tL 2]] m127 (by kernel_rfl) rfl
noncomputable def q128:=tf_of (Tb:=tab) (X:=ext) [[tL 2],[tI],[tI]] m128 (by kernel_rfl) rfl
noncomputable def q129:=tf_of (Tb:=tab) (X:=ext) [[tL 2],[tL 2]] m129 (by kernel_rfl) rfl
noncomputable def q130:=tf_of (Tb:=tab) (X:=ext) [[tI,tL 5]] m130 (by kernel_rfl) rfl
noncomputable def q131:=tf_of (Tb:=tab) (X:=ext) [[tI,tI,tI,tI,tS]] m131 (by kernel_rfl) rfl
noncomputable def q132:=tf_of (Tb:=tab) (X:=ext) [[tI,tI]] m132 (by kernel_rfl) rfl
noncomputable def q133:=tf_of (Tb:=tab) (X:=ext) [[tL 5],[tI],[tI],[tI]] m133 (by kernel_rfl) rfl
noncomputable def q134:=tf_of (Tb:=tab) (X:=ext) [[tS]] m134 (by kernel_rfl) rfl
noncomputable def q135:=tf_of (Tb:=tab) (X:=ext) [[tL 2],[tL 2]] m135 (by kernel_rfl) rfl
noncomputable def q136:=tf_of (Tb:=tab) (X:=ext) [[tL 3]] m136 (by kernel_rfl) rfl
noncomputable def q137:=tf_of (Tb:=tab) (X:=ext) [[tL 5],[tL 3,tL 3,tL 1,tL 3]] m137 (by kernel_rfl) rfl
noncomputable def q138:=tf_of (Tb:=tab) (X:=ext) [[tI,tI,tS]] m138 (by kernel_rfl) rfl
noncomputable def q139:=tf_of (Tb:=tab) (X:=ext) [[tL 10,tL 2,tL 4,tL 2,tI,tI,tL 3,tL 1,tI,tI,tL 1,tL 1,tL 5,tL 2,tL 7,tL 2],[tI,tI,tL 1,tL 1,tL 5,tL 2,tL 7],[tL 2],[tL 3,tL 3,tL 1,tL 3]] m139 (by kernel_rfl) rfl
noncomputable def q140:=tf_of (Tb:=tab) (X:=ext) [[tI,tI,tS]] m140 (by kernel_rfl) rfl
noncomputable def q141:=tf_of (Tb:=tab) (X:=ext) [[tL 2]] m141 (by kernel_rfl) rfl
noncomputable def q142:=tf_of (Tb:=tab) (X:=ext) [[tI,tL 5],[tI,tL 5]] m142 (by kernel_rfl) rfl
noncomputable def q143:=tf_of (Tb:=tab) (X:=ext) [[tI,tI,tI,tI,tS],[tI,tI,tI,tI,tS]] m143 (by kernel_rfl) rfl
noncomputable def q144:=tf_of (Tb:=tab) (X:=ext) [[tI,tI],[tI,tI]] m144 (by kernel_rfl) rfl
noncomputable def q145:=tf_of (Tb:=tab) (X:=ext) [[(.i .u8)]] m145 (by kernel_rfl) rfl
noncomputable def q146:=tf_of (Tb:=tab) (X:=ext) [[tI,tI,tS]] m146 (by kernel_rfl) rfl
noncomputable def q147:=tf_of (Tb:=tab) (X:=ext) [[tL 5],[tL 3,tL 3,tL 1,tL 3]] m147 (by kernel_rfl) rfl
noncomputable def q148:=tf_of (Tb:=tab) (X:=ext) [[tL 4,tL 2,tI],[tI,tI,tL 1,tL 1,tL 5,tL 2,tL 7],[tL 3,tL 3,tL 1,tL 3],[tL 2]] m148 (by kernel_rfl) rfl
noncomputable def q149:=tf_of (Tb:=tab) (X:=ext) [[tI,tI,tS]] m149 (by kernel_rfl) rfl
noncomputable def q150:=tf_of (Tb:=tab) (X:=ext) [[tL 4,tL 2,tI],[tI,tI,tL 1,tL 1,tL 5,tL 2,tL 7],[tL 3,tL 3,tL 1,tL 3],[tL 2]] m150 (by kernel_rfl) rfl
noncomputable def q151:=tf_of (Tb:=tab) (X:=ext) [[tL 1],[tL 3,tL 3,tL 1,tL 3]] m151 (by kernel_rfl) rfl
noncomputable def q152:=tf_of (Tb:=tab) (X:=ext) [[tL 4,tL 2,tI],[tL 7],[tL 3,tL 3,tL 1,tL 3],[tL 2]] m152 (by kernel_rfl) rfl
noncomputable def q153:=tf_of (Tb:=tab) (X:=ext) [[tI]] m153 (by kernel_rfl) rfl
noncomputable def q154:=tf_of (Tb:=tab) (X:=ext) [[tI],[tI,tI,tS],[tI,tI,tS]] m154 (by kernel_rfl) rfl
noncomputable def q156:=tf_of (Tb:=tab) (X:=ext) [[tI]] m156 (by kernel_rfl) rfl
noncomputable def q157:=tf_of (Tb:=tab) (X:=ext) [[tI],[tI,tI,tS],[tI,tI,tS]] m157 (by kernel_rfl) rfl
noncomputable def q158:=tf_of (Tb:=tab) (X:=ext) [[tI,tI,tI,tI,tS],[tL 3,tL 3,tL 1,tL 3]] m158 (by kernel_rfl) rfl
noncomputable def q159:=tf_of (Tb:=tab) (X:=ext) [[tI,tI,tS]] m159 (by kernel_rfl) rfl
noncomputable def q160:=tf_of (Tb:=tab) (X:=ext) [[tI,tI,tS]] m160 (by kernel_rfl) rfl
noncomputable def q161:=tf_of (Tb:=tab) (X:=ext) [[tL 1],[tI]] m161 (by kernel_rfl) rfl
noncomputable def q162:=tf_of (Tb:=tab) (X:=ext) [[tB]] m162 (by kernel_rfl) rfl
noncomputable def q164:=tf_of (Tb:=tab) (X:=ext) [[tB]] m164 (by kernel_rfl) rfl
noncomputable def q165:=tf_of (Tb:=tab) (X:=ext) [[tI]] m165 (by kernel_rfl) rfl
end Go.Own
set_option maxRecDepth 100000
namespace Go.Own
open Go Go.Proofs Go.Shelf
def rho:Ren where
 f:=fun|129=>172|171=>155|243=>163|246=>166|283=>167|284=>168|285=>169|286=>170|317=>171|318=>173|319=>174|320=>175|337=>176|338=>177|n=>n
 t:=fun|0=>0|2=>2|3=>3|4=>4|5=>5|9=>9|20=>20|37=>196|46=>251|51=>248|53=>240|171=>239|173=>243|212=>247|213=>249|232=>254|233=>255|n=>n
 g:=fun|17=>0|18=>1|19=>2|n=>n
theorem laysItoa:LaysM.n171 Tryz.prog rho where
 mixed:=by kernel_rfl
 f129:=by kernel_rfl
 f171:=by kernel_rfl
 f243:=by kernel_rfl
 f246:=by kernel_rfl
 f283:=by kernel_rfl
 f284:=by kernel_rfl
 f285:=by kernel_rfl
 f286:=by kernel_rfl
 f317:=by kernel_rfl
 f318:=by kernel_rfl
 f319:=by kernel_rfl
 f320:=by kernel_rfl
 f337:=by kernel_rfl
 f338:=by kernel_rfl
 t0:=Tryz.underlying0
 a0:=Tryz.isAgg0
 z0:=Tryz.sizeOf0
 v0:=Tryz.zeroValue0
 t2:=Tryz.underlying2
 a2:=Tryz.isAgg2
 z2:=Tryz.sizeOf2
 v2:=Tryz.zeroValue2
 t3:=Tryz.underlying3
 a3:=Tryz.isAgg3
 z3:=Tryz.sizeOf3
 v3:=Tryz.zeroValue3
 t4:=Tryz.underlying4
 a4:=Tryz.isAgg4
 z4:=Tryz.sizeOf4
 v4:=Tryz.zeroValue4
 t5:=Tryz.underlying5
 a5:=Tryz.isAgg5
 z5:=Tryz.sizeOf5
 v5:=Tryz.zeroValue5
 t9:=Tryz.underlying9
 a9:=Tryz.isAgg9
 z9:=Tryz.sizeOf9
 v9:=Tryz.zeroValue9
 t20:=Tryz.underlying20
 a20:=Tryz.isAgg20
 z20:=Tryz.sizeOf20
 v20:=Tryz.zeroValue20
 t37:=Tryz.underlying196
 a37:=Tryz.isAgg196
 z37:=Tryz.sizeOf196
 v37:=Tryz.zeroValue196
 t46:=Tryz.underlying251
 a46:=Tryz.isAgg251
 z46:=Tryz.sizeOf251
 v46:=Tryz.zeroValue251
 t51:=Tryz.underlying248
 a51:=Tryz.isAgg248
 z51:=Tryz.sizeOf248
 v51:=Tryz.zeroValue248
 t53:=Tryz.underlying240
 a53:=Tryz.isAgg240
 z53:=Tryz.sizeOf240
 v53:=Tryz.zeroValue240
 t171:=Tryz.underlying239
 a171:=Tryz.isAgg239
 z171:=Tryz.sizeOf239
 v171:=Tryz.zeroValue239
 t173:=Tryz.underlying243
 a173:=Tryz.isAgg243
 z173:=Tryz.sizeOf243
 v173:=Tryz.zeroValue243
 t212:=Tryz.underlying247
 a212:=Tryz.isAgg247
 z212:=Tryz.sizeOf247
 v212:=Tryz.zeroValue247
 t213:=Tryz.underlying249
 a213:=Tryz.isAgg249
 z213:=Tryz.sizeOf249
 t232:=Tryz.underlying254
 a232:=Tryz.isAgg254
 z232:=Tryz.sizeOf254
 v232:=Tryz.zeroValue254
 t233:=Tryz.underlying255
 a233:=Tryz.isAgg255
 z233:=Tryz.sizeOf255
 v233:=Tryz.zeroValue255
 g17:=by kernel_rfl
 g18:=by kernel_rfl
 g19:=by kernel_rfl
 i0:=by kernel_rfl
 i2:=by kernel_rfl
 i3:=by kernel_rfl
 i4:=by kernel_rfl
 i5:=by kernel_rfl
 i9:=by kernel_rfl
 i20:=by kernel_rfl
 i37:=by kernel_rfl
 i46:=by kernel_rfl
 i51:=by kernel_rfl
 i53:=by kernel_rfl
 i171:=by kernel_rfl
 i173:=by kernel_rfl
 i212:=by kernel_rfl
 i232:=by kernel_rfl
 i233:=by kernel_rfl
 m17:=by kernel_rfl
 m18:=by kernel_rfl
 m19:=by kernel_rfl
set_option maxRecDepth 100000
noncomputable abbrev R:Env:=runF tab ext
def stepT (x:Option (List D)) (tys:List Ty) (env:Env) (go:Nat→List D→Rs) (t:T) (ρ:List D):Rs:=x.bind fun ds=>if tysOk tys ds=true then evT env go t (pushD ds ρ) else none
def callT (x:Rs) (tys:List (List Ty)) (env:Env) (go:Nat→List D→Rs) (t:T) (ρ:List D):Rs:=x.bind fun outs=>if outsOk tys outs=true then evT env go t (pushD outs.flatten ρ) else none
def guardT (b:Bool) (env:Env) (go:Nat→List D→Rs) (t:T) (ρ:List D):Rs:=if b=true then evT env go t ρ else none
def iteT (c:D) (env:Env) (go:Nat→List D→Rs) (t e:T) (ρ:List D):Rs:=match c with| .bool v=>if v=true then evT env go t ρ else evT env go e ρ|_=>none
section
variable {env:Env} {go:Nat→List D→Rs} {t e:T} {ρ:List D}
@[simp] theorem evT_ret {outs:List (List A)}:evT env go (.ret outs) ρ=some (outs.map fun l=>l.map (A.ev ρ)):=Eq.trans rfl rfl
@[simp] theorem evT_go {j:Nat} {args:List A}:evT env go (.go j args) ρ=go j (args.map (A.ev ρ)):=Eq.trans rfl rfl
@[simp] theorem evT_ite {c:A}:evT env go (.ite c t e) ρ=iteT (c.ev ρ) env go t e ρ:=Eq.trans rfl rfl
@[simp] theorem evT_op {o:Op1} {args:List A} {tys:List Ty}:evT env go (.op o args tys t) ρ=stepT (o.ev (args.map (A.ev ρ))) tys env go t ρ:=Eq.trans rfl rfl
@[simp] theorem evT_call {f:Nat} {args:List (List A)} {tys:List (List Ty)}:evT env go (.call f args tys t) ρ=callT (env f (args.map fun l=>l.map (A.ev ρ))) tys env go t ρ:=Eq.trans rfl rfl
@[simp] theorem stepT_some {ds:List D} {tys:List Ty}:stepT (some ds) tys env go t ρ=guardT (tysOk tys ds) env go t (pushD ds ρ):=Eq.trans rfl rfl
@[simp] theorem callT_some {outs:List (List D)} {tys:List (List Ty)}:callT (some outs) tys env go t ρ=guardT (outsOk tys outs) env go t (pushD outs.flatten ρ):=Eq.trans rfl rfl
@[simp] theorem guardT_true:guardT true env go t ρ=evT env go t ρ:=Eq.trans rfl rfl
@[simp] theorem iteT_true:iteT (.bool true) env go t e ρ=evT env go t ρ:=Eq.trans rfl rfl
@[simp] theorem iteT_false:iteT (.bool false) env go t e ρ=evT env go e ρ:=Eq.trans rfl rfl
theorem iteT_bool {v:Bool}:iteT (.bool v) env go t e ρ=if v=true then evT env go t ρ else evT env go e ρ:=rfl
end
section
variable {a b:Int} {ρ:List D} {d:D} {ds:List D} {n:Nat}
@[simp] theorem A_v0:A.ev (d::ρ) (.v 0)=d:=Eq.trans rfl rfl
@[simp] theorem A_vs:A.ev (d::ρ) (.v (n+1))=A.ev ρ (.v n):=Eq.trans rfl rfl
@[simp] theorem A_k:A.ev ρ (.k d)=d:=Eq.trans rfl rfl
@[simp] theorem op_lss:Op1.ev (.bin .lss) [.int .i64 a, .int .i64 b]=some [.bool (decide (a<b))]:=Eq.trans rfl rfl
@[simp] theorem op_leq:Op1.ev (.bin .leq) [.int .i64 a, .int .i64 b]=some [.bool (decide (a≤b))]:=Eq.trans rfl rfl
@[simp] theorem op_gtr:Op1.ev (.bin .gtr) [.int .i64 a, .int .i64 b]=some [.bool (decide (b<a))]:=Eq.trans rfl rfl
@[simp] theorem op_geq:Op1.ev (.bin .geq) [.int .i64 a, .int .i64 b]=some [.bool (decide (b≤a))]:=Eq.trans rfl rfl
@[simp] theorem op_eql:Op1.ev (.bin .eql) [.int .i64 a, .int .i64 b]=some [.bool (decide (a=b))]:=Eq.trans rfl rfl
@[simp] theorem op_neq:Op1.ev (.bin .neq) [.int .i64 a, .int .i64 b]=some [.bool (!decide (a=b))]:=Eq.trans rfl rfl
@[simp] theorem op_lss8:Op1.ev (.bin .lss) [.int .u8 a, .int .u8 b]=some [.bool (decide (a<b))]:=Eq.trans rfl rfl
@[simp] theorem op_leq8:Op1.ev (.bin .leq) [.int .u8 a, .int .u8 b]=some [.bool (decide (a≤b))]:=Eq.trans rfl rfl
@[simp] theorem op_gtr8:Op1.ev (.bin .gtr) [.int .u8 a, .int .u8 b]=some [.bool (decide (b<a))]:=Eq.trans rfl rfl
@[simp] theorem op_geq8:Op1.ev (.bin .geq) [.int .u8 a, .int .u8 b]=some [.bool (decide (b≤a))]:=Eq.trans rfl rfl
@[simp] theorem op_eql8:Op1.ev (.bin .eql) [.int .u8 a, .int .u8 b]=some [.bool (decide (a=b))]:=Eq.trans rfl rfl
@[simp] theorem op_neq8:Op1.ev (.bin .neq) [.int .u8 a, .int .u8 b]=some [.bool (!decide (a=b))]:=Eq.trans rfl rfl
@[simp] theorem op_add:Op1.ev (.bin .add) [.int .i64 a, .int .i64 b]=some [.int .i64 (IntKind.wrap .i64 (a+b))]:=Eq.trans rfl rfl
@[simp] theorem op_sub:Op1.ev (.bin .sub) [.int .i64 a, .int .i64 b]=some [.int .i64 (IntKind.wrap .i64 (a-b))]:=Eq.trans rfl rfl
@[simp] theorem op_mul:Op1.ev (.bin .mul) [.int .i64 a, .int .i64 b]=some [.int .i64 (IntKind.wrap .i64 (a*b))]:=Eq.trans rfl rfl
@[simp] theorem op_seql {s t:List UInt8}:Op1.ev (.bin .eql) [.str s, .str t]=some [.bool (decide (s=t))]:=by
 have:(s==t)=decide (s=t):=by by_cases h:s=t<;>simp[h]
 simp[Op1.ev,evBin,this]
@[simp] theorem op_sneq {s t:List UInt8}:Op1.ev (.bin .neq) [.str s, .str t]=some [.bool (!decide (s=t))]:=by
 have:(s !=t)= !decide (s=t):=by by_cases h:s=t<;>simp[h]
 simp[Op1.ev,evBin,this]
@[simp] theorem op_cat {s t:List UInt8}:Op1.ev (.bin .add) [.str s, .str t]=(if s.length+t.length≤most then some (.str (s++t)) else none).map ([·]):=Eq.trans rfl rfl
@[simp] theorem op_row {sz:Nat} {rows:List (List D)} (h:0≤a):Op1.ev (.row sz) [.sl sz rows, .int .i64 a]=rows[a.toNat]? :=by simp[Op1.ev,h]
@[simp] theorem op_idx {sz:Nat} {rows:List (List D)} (h:0≤a) (h':a<rows.length):Op1.ev (.idx sz) [.sl sz rows, .int .i64 a]=some [.int .i64 a]:=by simp[Op1.ev,h,h']
@[simp] theorem op_sidx {s:List UInt8} (h:0≤a):Op1.ev .sidx [.str s, .int .i64 a]=(s[a.toNat]?).map fun c=>[.int .u8 c.toNat]:=by simp[Op1.ev,h]
@[simp] theorem op_not {v:Bool}:Op1.ev .not [.bool v]=some [.bool (!v)]:=Eq.trans rfl rfl
@[simp] theorem op_len {sz:Nat} {rows:List (List D)}:Op1.ev .len [.sl sz rows]=some [.int .i64 rows.length]:=Eq.trans rfl rfl
@[simp] theorem op_slen {s:List UInt8}:Op1.ev .slen [.str s]=some [.int .i64 s.length]:=Eq.trans rfl rfl
end
attribute [simp] tysOk outsOk Ty.ok pushD D.same sames mkWay D.at D.setAt cellAt backD splitL optD endOf natOf cut
@[simp] theorem flatI_ {k:IntKind} {n:Int}:(D.int k n).flat=true:=rfl
@[simp] theorem flatB_ {b:Bool}:(D.bool b).flat=true:=rfl
@[simp] theorem flatS_ {s:List UInt8}:(D.str s).flat=true:=rfl
@[simp] theorem flatL_ {n:Nat} {r:List (List D)}:(D.sl n r).flat=false:=rfl
theorem wrap64 {n:Int} (h1: -9223372036854775808≤n) (h2:n<9223372036854775808):IntKind.wrap .i64 n=n:=by
 unfold IntKind.wrap
 simp[IntKind.signed,IntKind.bits]
 omega
@[simp] theorem mid_get {α β:Type} (f:α→β) (pre t:List α) (x:α):(pre.map f++f x::t.map f)[pre.length]? =some (f x):=by
 rw[zH (by simp)];simp
@[simp] theorem mid_lt (a b:Nat):((a:Int)<(a:Int)+((b:Int)+1))=True:=by simp;omega
theorem most_wrap {n:Int} (h0:0≤n) (h:n≤most):IntKind.wrap .i64 (n+1)=n+1:=wrap64 (by omega) (by unfold most at h;omega)
set_option maxRecDepth 100000
structure Val where
 kind:Int
 num:Int
 text:List UInt8
 deriving DecidableEq
@[simp] def Val.enc (v:Val):List D:=[.int .i64 v.kind, .int .i64 v.num, .str v.text]
def Val.zero:Val:=⟨0,0,[]⟩
def inR (n lo hi:Int):Bool:=decide (lo≤n)&&decide (n≤hi)
def plainZ (n:Int):Bool:=(decide (97≤n)&&decide (n≤122))||(decide (48≤n)&&decide (n≤57))||decide (n=32)
def plain (b:UInt8):Bool:=plainZ b.toNat
def wordOk (s:List UInt8):Bool:=decide (s.length≤12)&&s.all plain
def Val.ok (v:Val):Bool:=if v.kind=0 then decide (v.num=0)&&decide (v.text=[]) else if v.kind=1 then inR v.num (-1000) 1000&&decide (v.text=[])
 else if v.kind=2 then decide (v.num=0)&&wordOk v.text else false
theorem R49 (n lo hi:Int):R 49 [[.int .i64 n],[.int .i64 lo],[.int .i64 hi]]=some [[.bool (inR n lo hi)]]:=by
 refine q49.f rfl ?_
 by_cases h:lo≤n<;>simp[t49_0,h,inR]
theorem R63 (n lo hi:Int):R 63 [[.int .i64 n],[.int .i64 lo],[.int .i64 hi]]=some [[.bool (inR n lo hi)]]:=by
 refine q63.f rfl ?_
 by_cases h:lo≤n<;>simp[t63_0,h,inR]
theorem R145 (n:Int):R 145 [[.int .u8 n]]=some [[.bool (plainZ n)]]:=by
 refine q145.f rfl ?_
 unfold plainZ
 by_cases h1:97≤n<;>by_cases h2:n≤122<;>by_cases h3:48≤n<;>by_cases h4:n≤57<;>simp[t145_0,h1,h2,h3,h4]
theorem G122:∀(suf pre:List UInt8),(pre++suf).length≤most→q122.go 0 [.str (pre++suf), .int .i64 pre.length]=some [[.bool (suf.all plain)]]
 | [],pre,h=>q122.g 0 rfl rfl rfl (by simp[t122_1])
 |x::t,pre,h=>q122.g 0 rfl rfl rfl (by
  have ih:=G122 t (pre++[x]) (by simpa using h)
  have hw:=most_wrap (n:=pre.length) (by omega) (by simp at h;omega)
  have hp:plainZ x.toNat=plain x:=rfl
  simp at ih
  cases hx:plain x<;>simp[t122_1,R145,hp,hw,ih,hx])
theorem R122 (s:List UInt8):R 122 [[.str s]]=some [[.bool (wordOk s)]]:=by
 refine q122.f rfl ?_
 by_cases h:s.length≤12
 ·have:=G122 s [] (by simp[most];omega)
  simp at this
  have h':¬ (12:Int)<s.length:=by omega
  simp[t122_0,h',this,wordOk,h]
 ·have h':(12:Int)<s.length:=by omega
  simp[t122_0,h',wordOk,h]
theorem G134:∀(suf pre:List UInt8),(pre++suf).length<9223372036854775807→q134.go 0 [.str (pre++suf), .int .i64 pre.length]=some [[.bool (suf.all plain&&decide ((pre++suf).length≤12))]]
 | [],pre,h=>q134.g 0 rfl rfl rfl (by
  have:decide ((pre.length:Int)≤12)=decide (pre.length≤12):=by rw[decide_eq_decide];omega
  simp[t134_1,this])
 |x::t,pre,h=>q134.g 0 rfl rfl rfl (by
  have ih:=G134 t (pre++[x]) (by simpa using h)
  have hw:IntKind.wrap .i64 ((pre.length:Int)+1)=pre.length+1:=wrap64 (by omega) (by simp at h;omega)
  simp at ih
  have g1:∀b:Bool,q134.go 1 [.str (pre++x::t), .int .i64 pre.length, .bool b]=some [[.bool (if b=true then false else t.all plain&&decide ((pre++x::t).length≤12))]]:=fun b=>
   q134.g 1 rfl rfl rfl (by cases b<;>simp[t134_2,hw,ih])
  simp at g1
  have hx:plain x=plainZ x.toNat:=rfl
  unfold plainZ at hx
  by_cases h1:(97:Int)≤x.toNat<;>by_cases h2:(x.toNat:Int)≤122<;>by_cases h3:(48:Int)≤x.toNat<;>by_cases h4:(x.toNat:Int)≤57<;>by_cases h5:(x.toNat:Int)=32<;>
   simp only[h1,h2,h3,h4,h5,decide_true,decide_false,Bool.and_true,Bool.and_false,Bool.or_true,Bool.or_false,Bool.and_self,Bool.or_self] at hx<;>simp[t134_1,h1,h2,h3,h4,h5,g1,hx])
theorem R134 (s:List UInt8) (h:s.length<9223372036854775807):R 134 [[.str s]]=some [[.bool (wordOk s)]]:=by
 refine q134.f rfl ?_
 have:=G134 s [] (by simpa using h)
 simp at this
 simp[t134_0,this,wordOk,Bool.and_comm]
theorem R87 (v:Val):R 87 [v.enc]=some [[.bool v.ok]]:=by
 refine q87.f rfl ?_
 obtain ⟨k,n,s⟩:=v
 unfold Val.ok
 by_cases h0:k=0
 ·by_cases hn:n=0<;>simp[t87_0,h0,hn]
 by_cases h1:k=1
 ·cases hn:inR n (-1000) 1000<;>simp[t87_0,h1,R49,hn]
 by_cases h2:k=2
 ·by_cases hn:n=0<;>simp[t87_0,h2,hn,R122]
 simp[t87_0,h0,h1,h2]
theorem R108 (v:Val) (h:v.text.length<9223372036854775807):R 108 [v.enc]=some [[.bool v.ok]]:=by
 refine q108.f rfl ?_
 obtain ⟨k,n,s⟩:=v
 unfold Val.ok
 by_cases h0:k=0
 ·by_cases hn:n=0<;>simp[t108_0,h0,hn]
 by_cases h1:k=1
 ·cases hn:inR n (-1000) 1000<;>simp[t108_0,h1,R63,hn]
 by_cases h2:k=2
 ·by_cases hn:n=0<;>simp[t108_0,h2,hn,R134 s h]
 simp[t108_0,h0,h1,h2]
def Val.fit (v:Val):Prop:=v.text.length<9223372036854775807
theorem G50:∀(suf pre:List Val),(pre++suf).length≤most→q50.go 0 [.sl 3 ((pre++suf).map Val.enc), .int .i64 pre.length]=some [[.bool (suf.all Val.ok)]]
 | [],pre,h=>q50.g 0 rfl rfl rfl (by simp[t50_1])
 |x::t,pre,h=>q50.g 0 rfl rfl rfl (by
  have ih:=G50 t (pre++[x]) (by simpa using h)
  have hw:=most_wrap (n:=pre.length) (by omega) (by simp at h;omega)
  have hv:=R87 x
  simp at ih hv
  cases hx:x.ok<;>simp[t50_1,hv,hw,ih,hx])
theorem R50 (l:List Val) (h:l.length≤most):R 50 [[.sl 3 (l.map Val.enc)]]=some [[.bool (l.all Val.ok)]]:=by
 refine q50.f rfl ?_
 have:=G50 l [] h
 simp at this
 simp[t50_0,this]
theorem G68:∀(suf pre:List Val),(pre++suf).length≤most→(∀v∈suf,v.fit)→q68.go 0 [.sl 3 ((pre++suf).map Val.enc), .int .i64 (pre++suf).length, .int .i64 pre.length]=some [[.bool (suf.all Val.ok)]]
 | [],pre,h,hf=>q68.g 0 rfl rfl rfl (by simp[t68_1])
 |x::t,pre,h,hf=>q68.g 0 rfl rfl rfl (by
  have ih:=G68 t (pre++[x]) (by simpa using h) (fun v hv=>hf v (by simp[hv]))
  have hw:=most_wrap (n:=pre.length) (by omega) (by simp at h;omega)
  have hv:=R108 x (hf x (by simp))
  simp at ih hv
  cases hx:x.ok<;>simp[t68_1,hv,hw,ih,hx])
theorem R68 (l:List Val) (h:l.length≤most) (hf:∀v∈l,v.fit):R 68 [[.sl 3 (l.map Val.enc)]]=some [[.bool (l.all Val.ok)]]:=by
 refine q68.f rfl ?_
 have:=G68 l [] h hf
 simp at this
 simp[t68_0,this]
structure Stp where
 kind:Int
 a:Int
 val:Val
 deriving DecidableEq
@[simp] def Stp.enc (x:Stp):List D:=[.int .i64 x.kind, .int .i64 x.a, .int .i64 x.val.kind, .int .i64 x.val.num, .str x.val.text]
def Stp.takes (x:Stp):Int:=if x.kind=5 then 2 else if x.kind=6 then 3 else 0
def Stp.ok (x:Stp) (p s t:Int):Bool:=
 if x.kind=0 then decide (x.a=0)&&x.val.ok
 else decide (x.val= .zero)&&(if x.kind=1 then inR x.a 0 (p-1) else if x.kind=2 then inR x.a 0 (s-1) else if x.kind=3 then inR x.a 0 (t-1) else if x.kind=4 then inR x.a 0 1
  else if x.kind=5 then inR x.a 0 6 else if x.kind=6 then decide (x.a=0) else false)
def foldF (p s t:Int):List Stp→Int→Option Int
 | [],n=>some n
 |x::l,n=>if x.ok p s t=true∧x.takes≤n then foldF p s t l (n-x.takes+1) else none
def isOne:Option Int→Bool
 |some n=>decide (n=1)
 |none=>false
def formOk (f:List Stp) (p s t:Int):Bool:=decide (f.length≤9)&&isOne (foldF p s t f 0)
def Stp.fit (x:Stp):Prop:=x.val.fit
@[simp] theorem op_eqv {neg:Bool} {k n k' n':Int} {s s':List UInt8}:Op1.ev (.eqs neg 3 [.int .i64 0, .int .i64 0, .str []]) [.int .i64 k, .int .i64 n, .str s, .int .i64 k', .int .i64 n', .str s']=some [.bool (decide ((⟨k,n,s⟩:Val)=⟨k',n',s'⟩) !=neg)]:=by
 simp only[Op1.ev,List.take,List.drop,sames,D.same,if_true,Option.isSome,Option.map_some,Val.mk.injEq]
 have h1:(k==k')=decide (k=k'):=by by_cases h:k=k'<;>simp[h]
 have h2:(n==n')=decide (n=n'):=by by_cases h:n=n'<;>simp[h]
 have h3:(s==s')=decide (s=s'):=by by_cases h:s=s'<;>simp[h]
 rw[h1,h2,h3]
 by_cases a:k=k'<;>by_cases b:n=n'<;>by_cases c:s=s'<;>simp[a,b,c]
@[simp] theorem val_zero_iff (v:Val):v=⟨0,0,[]⟩↔v.kind=0∧v.num=0∧v.text=[]:=by
 obtain ⟨k,n,s⟩:=v
 simp
theorem R124 (x:Stp):R 124 [x.enc]=some [[.int .i64 x.takes]]:=by
 refine q124.f rfl ?_
 unfold Stp.takes
 by_cases h5:x.kind=5
 ·simp[t124_0,h5]
 by_cases h6:x.kind=6<;>simp[t124_0,h5,h6]
def smallI (n:Int):Prop:= -1000000≤n∧n≤1000000
theorem small_sub {n:Int} (h:smallI n):IntKind.wrap .i64 (n-1)=n-1:=wrap64 (by have:=h.1;omega) (by have:=h.2;omega)
theorem small_add {n:Int} (h:smallI n):IntKind.wrap .i64 (n+1)=n+1:=wrap64 (by have:=h.1;omega) (by have:=h.2;omega)
theorem R123 (x:Stp) (p s t:Int) (hp:smallI p) (hs:smallI s) (ht:smallI t):R 123 [x.enc,[.int .i64 p],[.int .i64 s],[.int .i64 t]]=some [[.bool (x.ok p s t)]]:=by
 refine q123.f rfl ?_
 have hv:=R87 x.val
 simp at hv
 unfold Stp.ok Val.zero
 by_cases h0:x.kind=0
 ·by_cases ha:x.a=0<;>simp[t123_0,h0,ha,hv]
 by_cases h1:x.kind=1
 ·cases ha:inR x.a 0 (p-1)<;>simp[t123_0,h1,ha,R49,small_sub hp]
 by_cases h2:x.kind=2
 ·cases ha:inR x.a 0 (s-1)<;>simp[t123_0,h2,ha,R49,small_sub hs]
 by_cases h3:x.kind=3
 ·cases ha:inR x.a 0 (t-1)<;>simp[t123_0,h3,ha,R49,small_sub ht]
 by_cases h4:x.kind=4
 ·cases ha:inR x.a 0 1<;>simp[t123_0,h4,ha,R49]
 by_cases h5:x.kind=5
 ·cases ha:inR x.a 0 6<;>simp[t123_0,h5,ha,R49]
 by_cases h6:x.kind=6
 ·by_cases ha:x.a=0<;>simp[t123_0,h6,ha]
 simp[t123_0,h0,h1,h2,h3,h4,h5,h6]
theorem Stp.takes_le (x:Stp):0≤x.takes∧x.takes≤3:=by
 unfold Stp.takes
 split
 ·omega
 ·split<;>omega
theorem G88 (p s t:Int) (hp:smallI p) (hs:smallI s) (ht:smallI t):∀(suf pre:List Stp) (n:Int),(pre++suf).length≤1000→0≤n→n≤pre.length→
  q88.go 0 [.sl 5 ((pre++suf).map Stp.enc), .int .i64 p, .int .i64 s, .int .i64 t, .int .i64 n, .int .i64 pre.length]=some [[.bool (isOne (foldF p s t suf n))]]
 | [],pre,n,h,h0,hn=>q88.g 0 rfl rfl rfl (by simp[t88_1,foldF,isOne])
 |x::l,pre,n,h,h0,hn=>q88.g 0 rfl rfl rfl (by
  have hv:=R123 x p s t hp hs ht
  have ht':=R124 x
  have hw:=most_wrap (n:=pre.length) (by omega) (by simp[most] at h ⊢;omega)
  obtain ⟨k0,k3⟩:=x.takes_le
  simp at hv ht' h
  unfold foldF
  cases hx:x.ok p s t
  ·simp[t88_1,hv,hx,isOne]
  ·by_cases hk:x.takes≤n
   ·have ih:=G88 p s t hp hs ht l (pre++[x]) (n-x.takes+1) (by simpa using h) (by omega) (by simp;omega)
    simp at ih
    have w1:IntKind.wrap .i64 (n-x.takes)=n-x.takes:=wrap64 (by omega) (by omega)
    have w2:IntKind.wrap .i64 (n-x.takes+1)=n-x.takes+1:=wrap64 (by omega) (by omega)
    have hk':¬ n<x.takes:=by omega
    simp[t88_1,hv,hx,ht',hk,hk',w1,w2,hw,ih]
   ·have hk':n<x.takes:=by omega
    simp[t88_1,hv,hx,ht',hk,hk',isOne])
theorem R88 (f:List Stp) (p s t:Int) (hp:smallI p) (hs:smallI s) (ht:smallI t):R 88 [[.sl 5 (f.map Stp.enc)],[.int .i64 p],[.int .i64 s],[.int .i64 t]]=some [[.bool (formOk f p s t)]]:=by
 refine q88.f rfl ?_
 unfold formOk
 by_cases h:f.length≤9
 ·have:=G88 p s t hp hs ht f [] 0 (by simp;omega) (by omega) (by simp)
  simp at this
  have h':¬ (9:Int)<f.length:=by omega
  simp[t88_0,h',h,this]
 ·have h':(9:Int)<f.length:=by omega
  simp[t88_0,h',h]
theorem G133 (p s t:Int) (hp:smallI p) (hs:smallI s) (ht:smallI t):∀(suf pre:List Stp) (n:Int),(pre++suf).length≤most→(∀x∈suf,x.fit)→0≤n→n≤pre.length→
  q133.go 0 [.sl 5 ((pre++suf).map Stp.enc), .int .i64 p, .int .i64 s, .int .i64 t, .int .i64 n, .sl 5 ((pre++suf).map Stp.enc), .int .i64 (pre++suf).length, .int .i64 pre.length]=
   some [[.bool (isOne (foldF p s t suf n)&&decide ((pre++suf).length≤9))]]:=by
 intro suf
 induction suf with
 |nil=>
  intro pre n h hf h0 hn
  refine q133.g 0 rfl rfl rfl ?_
  have:decide ((pre.length:Int)≤9)=decide (pre.length≤9):=by rw[decide_eq_decide];omega
  by_cases h1:n=1<;>simp[t133_1,foldF,isOne,h1,this]
 |cons x l ihl=>
  intro pre n h hf h0 hn
  refine q133.g 0 rfl rfl rfl ?_
  have hv:=R108 x.val (hf x (by simp))
  have hw:=most_wrap (n:=pre.length) (by omega) (by simp at h;omega)
  have hlen:(pre++x::l).length≤4294967296:=h
  simp at hv hlen
  have g2:∀(tk:Int) (ok:Bool),0≤tk→tk≤3→q133.go 2 [.sl 5 ((pre++x::l).map Stp.enc), .int .i64 p, .int .i64 s, .int .i64 t, .int .i64 n, .int .i64 tk, .bool ok, .sl 5 ((pre++x::l).map Stp.enc), .int .i64 (pre++x::l).length, .int .i64 pre.length]=
    some [[.bool ((if ok=true∧tk≤n then isOne (foldF p s t l (n-tk+1)) else false)&&decide ((pre++x::l).length≤9))]]:=fun tk ok k0 k3=>
   q133.g 2 rfl rfl rfl (by
    cases ok
    ·simp[t133_3]
    ·by_cases hk:tk≤n
     ·have ih:=ihl (pre++[x]) (n-tk+1) (by simpa using h) (fun v hv=>hf v (by simp[hv])) (by omega) (by simp;omega)
      simp at ih
      have w1:IntKind.wrap .i64 (1-tk)=1-tk:=wrap64 (by omega) (by omega)
      have w2:IntKind.wrap .i64 (n+(1-tk))=n-tk+1:=by rw[wrap64 (by omega) (by omega)];omega
      have hk':¬ n<tk:=by omega
      simp[t133_3,hk,hk',w1,w2,hw,ih]
     ·have hk':n<tk:=by omega
      simp[t133_3,hk,hk'])
  obtain ⟨k,a,v⟩:=x
  simp at g2 hv
  have g1:(k≠0→v=Val.zero)→q133.go 1 [.sl 5 ((pre++⟨k,a,v⟩::l).map Stp.enc), .int .i64 p, .int .i64 s, .int .i64 t, .int .i64 n, .int .i64 k, .int .i64 a, .int .i64 v.kind, .int .i64 v.num, .str v.text, .sl 5 ((pre++⟨k,a,v⟩::l).map Stp.enc), .int .i64 (pre++⟨k,a,v⟩::l).length, .int .i64 pre.length]=
    some [[.bool (isOne (foldF p s t (⟨k,a,v⟩::l) n)&&decide ((pre++⟨k,a,v⟩::l).length≤9))]]:=fun hz=>
   q133.g 1 rfl rfl rfl (by
    unfold foldF Stp.ok Stp.takes
    by_cases h0:k=0
    ·subst h0
     by_cases ha:a=0
     ·subst ha
      cases hx:v.ok<;>by_cases hk:(0:Int)≤n<;>simp[t133_2,hv,g2,hx,hk,isOne]
     ·by_cases hk:(0:Int)≤n<;>simp[t133_2,ha,hv,g2,hk,isOne]
    have hzz:(v=Val.zero)=True:=eq_true (hz h0)
    clear hz
    by_cases h1:k=1
    ·subst h1
     cases ha:inR a 0 (p-1)<;>by_cases hk:(0:Int)≤n<;>simp[t133_2,ha,hzz,R63,small_sub hp,g2,isOne,hk]
    by_cases h2:k=2
    ·subst h2
     cases ha:inR a 0 (s-1)<;>by_cases hk:(0:Int)≤n<;>simp[t133_2,ha,hzz,R63,small_sub hs,g2,isOne,hk]
    by_cases h3:k=3
    ·subst h3
     cases ha:inR a 0 (t-1)<;>by_cases hk:(0:Int)≤n<;>simp[t133_2,ha,hzz,R63,small_sub ht,g2,isOne,hk]
    by_cases h4:k=4
    ·subst h4
     cases ha:inR a 0 1<;>by_cases hk:(0:Int)≤n<;>simp[t133_2,ha,hzz,R63,g2,isOne,hk]
    by_cases h5:k=5
    ·subst h5
     cases ha:inR a 0 6<;>by_cases hk:(2:Int)≤n<;>simp[t133_2,ha,hzz,R63,g2,isOne,hk]
    by_cases h6:k=6
    ·subst h6
     by_cases ha:a=0
     ·subst ha
      by_cases hk:(3:Int)≤n<;>simp[t133_2,hzz,g2,isOne,hk]
     ·by_cases hk:(3:Int)≤n<;>simp[t133_2,ha,hzz,g2,isOne,hk]
    simp[t133_2,h0,h1,h2,h3,h4,h5,h6,hzz,g2,isOne])
  simp at g1
  by_cases h0:k=0
  ·subst h0
   simp[t133_1] at g1 ⊢
   exact g1
  ·by_cases hz:v=Val.zero
   ·have g1:=g1 fun _=>hz
    subst hz
    simp[t133_1,h0,Val.zero] at g1 ⊢
    exact g1
   ·have hz':¬ (v.kind=0∧v.num=0∧v.text=[]):=fun e=>hz ((val_zero_iff v).2 e)
    unfold foldF Stp.ok
    simp[t133_1,h0,hz,hz',isOne]
theorem R133 (f:List Stp) (p s t:Int) (hp:smallI p) (hs:smallI s) (ht:smallI t) (h:f.length≤most) (hf:∀x∈f,x.fit):R 133 [[.sl 5 (f.map Stp.enc)],[.int .i64 p],[.int .i64 s],[.int .i64 t]]=some [[.bool (formOk f p s t)]]:=by
 refine q133.f rfl ?_
 have:=G133 p s t hp hs ht f [] 0 h hf (by omega) (by simp)
 simp at this
 simp[t133_0,this,formOk,Bool.and_comm]
theorem R106 (f:List Stp) (p s t:Int) (h:f.length≤most) (hf:∀x∈f,x.fit):R 106 [[.sl 5 (f.map Stp.enc)],[.int .i64 p],[.int .i64 s],[.int .i64 t]]=some [[.bool (inR p 0 3&&inR s 0 3&&inR t 0 4&&formOk f p s t)]]:=by
 refine q106.f rfl ?_
 cases hp:inR p 0 3<;>cases hs:inR s 0 3<;>cases ht:inR t 0 4<;>simp[t106_0,R63,hp,hs,ht]
 have e:∀n lo hi:Int,inR n lo hi=true→lo≤n∧n≤hi:=fun n lo hi h=>by simpa[inR] using h
 have a:=e _ _ _ hp
 have b:=e _ _ _ hs
 have c:=e _ _ _ ht
 simp[R133 f p s t ⟨by omega,by omega⟩ ⟨by omega,by omega⟩ ⟨by omega,by omega⟩ h hf]
set_option maxRecDepth 100000
def vars (n:Nat):List A:=(List.range n).reverse.map .v
def varsUp (n:Nat):List A:=(List.range n).reverse.map fun i=> .v (i+1)
theorem vars_ev (ds ρ:List D):(vars ds.length).map (A.ev (pushD ds ρ))=ds:=by
 unfold vars
 rw[List.map_map,pushD_eq]
 apply List.ext_getElem (by simp)
 intro i h1 h2
 simp at h1 ⊢
 have:ds.length-1-i<ds.length:=by omega
 simp[A.ev,List.getElem?_append,this]
 have e:ds.length-1-(ds.length-1-i)=i:=by omega
 simp[e,h1]
theorem varsUp_ev (ds ρ:List D) (d:D):(varsUp ds.length).map (A.ev (d::pushD ds ρ))=ds:=by
 have:=vars_ev ds ρ
 unfold vars at this
 unfold varsUp
 rw[List.map_map] at this ⊢
 exact this
theorem sh_ev (ds ρ:List D) (n k:Nat) (h:n=ds.length):A.ev (pushD ds ρ) (.v (n+k))=A.ev ρ (.v k):=by
 subst h
 rw[pushD_eq]
 simp[A.ev,zH]
def szT0:T:= .op .len [.v 1] [tI]<| .op (.bin .sub) [.v 1, .v 0] [tI]<| .op (.bin .lss) [.v 0, .k (.int .i64 0)] [tB]<| .ite (.v 0) (.ret [[.k (.int .i64 (-1))]]) (.go 0 [.v 4, .v 1, .k (.int .i64 0)])
def szT1 (sz:Nat) (tys:List Ty) (f:Nat):T:= .op .len [.v 2] [tI]<| .op (.bin .lss) [.v 1, .v 0] [tB]<| .ite (.v 0)
 (.op (.row sz) [.v 4, .v 2] tys<| .call f [vars tys.length,[.v (tys.length+3)]] [[tI]]<| .op (.bin .lss) [.v 0, .k (.int .i64 0)] [tB]<| .ite (.v 0) (.ret [[.k (.int .i64 (-1))]])
  (.op (.bin .add) [.v (tys.length+4), .k (.int .i64 1)] [tI]<| .go 0 [.v (tys.length+7), .v 2, .v 0])) (.ret [[.v 3]])
def left (b:Nat) (n:Int):Int:=if (b:Int)≤n then n-b else -1
theorem left_add {a b:Nat} {n:Int} (h:(a:Int)≤n):left (a+b) n=left b (n-a):=by
 unfold left
 by_cases h2:(b:Int)≤n-a
 ·rw[if_pos h2,if_pos (by omega)];omega
 ·rw[if_neg h2,if_neg (by omega)]
theorem left_big {a b:Nat} {n:Int} (h:¬ (a:Int)≤n):left (a+b) n= -1:=by
 unfold left
 rw[if_neg (by omega)]
def sumL {α:Type} (f:α→Nat) (l:List α):Nat:=l.length+(l.map f).sum
def ROOM:Int:=1099511627776
theorem szS_gen {α:Type} {f fi sz:Nat} {tys:List Ty} {go:Nat→List D→Rs} (it:IsTree tab ext f [[tL sz],[tI]] [[tL sz,tI,tI]] szT0 [szT1 sz tys fi] go) (enc:α→List D) (bulk:α→Nat) (mem:α→Prop)
  (ht:∀x,tysOk tys (enc x)=true) (hi:∀x n,mem x→0≤n→n≤ROOM→R fi [enc x,[.int .i64 n]]=some [[.int .i64 (left (bulk x) n)]])
  (l:List α) (n:Int) (h0:0≤n) (hn:n≤ROOM) (hl:l.length<4611686018427387904) (hm:∀x∈l,mem x):R f [[.sl sz (l.map enc)],[.int .i64 n]]=some [[.int .i64 (left (sumL bulk l) n)]]:=by
 have hN:ROOM=1099511627776:=rfl
 have loop:∀(suf pre:List α) (m:Int),(pre++suf).length<4611686018427387904→(∀x∈suf,mem x)→0≤m→m≤ROOM→go 0 [.sl sz ((pre++suf).map enc), .int .i64 m, .int .i64 pre.length]=some [[.int .i64 (left ((suf.map bulk).sum) m)]]:=by
  intro suf
  induction suf with
  |nil=>
   intro pre m _ _ hm0 _
   refine it.go 0 _ _ _ _ rfl rfl (by simp[tysOk,Ty.ok]) ?_
   simp[szT1,left,hm0]
  |cons x t ih=>
   intro pre m hl hm hm0 hmn
   refine it.go 0 _ _ _ _ rfl rfl (by simp[tysOk,Ty.ok]) ?_
   have hlen:=tysOk_len (ht x)
   have hx:=hi x m (hm x (by simp)) hm0 hmn
   have hw:IntKind.wrap .i64 ((pre.length:Int)+1)=(pre.length:Int)+1:=wrap64 (by omega) (by simp at hl;omega)
   by_cases hb:(bulk x:Int)≤m
   ·have e1:left (bulk x) m=m-bulk x:=by simp[left,hb]
    have e2:¬ m-(bulk x:Int)<0:=by omega
    have ih:=ih (pre++[x]) (m-bulk x) (by simpa using hl) (fun y hy=>hm y (by simp[hy])) (by omega) (by omega)
    have e3:left (t.map bulk).sum (m-bulk x)=left (((x::t).map bulk).sum) m:=(left_add hb).symm
    rw[e3] at ih
    simp at ih
    rw[e1] at hx
    simp[szT1,ht,hlen,vars_ev,sh_ev,hx,hw,e2,ih]
   ·have e1:left (bulk x) m= -1:=by simp[left,hb]
    have e3:left (((x::t).map bulk).sum) m= -1:=left_big hb
    rw[e1] at hx
    rw[e3]
    simp[szT1,ht,hlen,vars_ev,sh_ev,hx]
 refine it.fn _ _ (by simp[outsOk,tysOk,Ty.ok]) ?_
 have hw:IntKind.wrap .i64 (n-l.length)=n-l.length:=wrap64 (by omega) (by omega)
 by_cases hb:(l.length:Int)≤n
 ·have:=loop l [] (n-l.length) hl hm (by omega) (by omega)
  have e2:¬ n-(l.length:Int)<0:=by omega
  have e3:left (l.map bulk).sum (n-l.length)=left (sumL bulk l) n:=(left_add hb).symm
  rw[e3] at this
  simp at this
  simp[szT0,hw,e2,this]
 ·have e2:n-(l.length:Int)<0:=by omega
  have e3:left (sumL bulk l) n= -1:=left_big hb
  simp[szT0,hw,e2,e3]
def toT0 (sz:Nat) (zero:List D):T:= .op .len [.v 0] [tI]<| .op (.mk zero) [.v 0] [tL sz]<| .go 0 [.v 2, .v 0, .k (.int .i64 0)]
def toT1 (sz:Nat) (tys:List Ty) (f:Nat) (fl:Bool):T:= .op .len [.v 2] [tI]<| .op (.bin .lss) [.v 1, .v 0] [tB]<| .ite (.v 0)
 (.op (.row sz) [.v 4, .v 2] tys<| .call f [vars tys.length] [tys]<| .op (.idx sz) [.v (tys.length+(tys.length+3)), .v (tys.length+(tys.length+2))] [tI]<|
  .op (.putp [] 0 sz fl) (.v (tys.length+(tys.length+3)+1):: .v 0::varsUp tys.length) [tL sz]<| .op (.bin .add) [.v (tys.length+(tys.length+2)+2), .k (.int .i64 1)] [tI]<| .go 0 [.v (tys.length+(tys.length+4)+3), .v 1, .v 0]) (.ret [[.v 3]])
@[simp] theorem op_putp0 {off sz:Nat} {fl:Bool} {n:Int} {rows:List (List D)} {cs:List D} (h:0≤n):Op1.ev (.putp [] off sz fl) (.sl sz rows:: .int .i64 n::cs)=(putpD off sz fl n.toNat cs (.sl sz rows)).map ([·]):=by
 simp[Op1.ev,h]
@[simp] theorem op_mk {zero:List D} {n:Int}:Op1.ev (.mk zero) [.int .i64 n]=if 0≤n∧n≤most then some [.sl zero.length (List.replicate n.toNat zero)] else none:=Eq.trans rfl rfl
theorem put_row {sz:Nat} {pre post:List (List D)} {row cs:List D} {fl:Bool} (h1:row.length=sz) (h2:cs.length=sz) (hf:fl=true→row.all D.flat=true∧cs.all D.flat=true):
  putpD 0 sz fl pre.length cs (.sl sz (pre++row::post))=some (.sl sz (pre++cs::post)):=by
 show ((pre++row::post)[pre.length]?.bind fun row=>_)=_
 rw[zH (Nat.le_refl _),Nat.sub_self,List.getElem?_cons_zero,Option.bind_some]
 have hc:sz=sz∧0+cs.length≤row.length∧(!fl||(((row.drop 0).take cs.length).all D.flat&&cs.all D.flat))=true:=by
  refine ⟨rfl,by omega,?_⟩
  cases fl with
  |false=>rfl
  |true=>
   obtain ⟨a,b⟩:=hf rfl
   rw[List.drop_zero,h2,← h1,List.take_length,a,b]
   rfl
 rw[if_pos hc,List.set_append_right _ _ (Nat.le_refl _),Nat.sub_self,List.set_cons_zero]
 congr 3
 simp[setCells,h1,h2]
theorem toS_gen {α:Type} {f fi sz:Nat} {tys:List Ty} {fl:Bool} {zero:List D} {go:Nat→List D→Rs} (it:IsTree tab ext f [[tL sz]] [[tL sz,tL sz,tI]] (toT0 sz zero) [toT1 sz tys fi fl] go) (enc:α→List D) (mem:α→Prop)
  (ht:∀x,tysOk tys (enc x)=true) (hz:tysOk tys zero=true) (hs:tys.length=sz) (hfl:fl=true→zero.all D.flat=true∧∀x,(enc x).all D.flat=true) (hi:∀x,mem x→R fi [enc x]=some [enc x])
  (l:List α) (hl:l.length≤most) (hm:∀x∈l,mem x):R f [[.sl sz (l.map enc)]]=some [[.sl sz (l.map enc)]]:=by
 have loop:∀(suf pre:List α),(pre++suf).length≤most→(∀x∈suf,mem x)→go 0 [.sl sz ((pre++suf).map enc), .sl sz (pre.map enc++List.replicate suf.length zero), .int .i64 pre.length]=some [[.sl sz ((pre++suf).map enc)]]:=by
  intro suf
  induction suf with
  |nil=>
   intro pre _ _
   refine it.go 0 _ _ _ _ rfl rfl (by simp[tysOk,Ty.ok]) ?_
   simp[toT1]
  |cons x t ih=>
   intro pre hl hm
   refine it.go 0 _ _ _ _ rfl rfl (by simp[tysOk,Ty.ok]) ?_
   have hlen:=tysOk_len (ht x)
   have hx:=hi x (hm x (by simp))
   have hw:=most_wrap (n:=pre.length) (by omega) (by simp at hl;omega)
   have ih:=ih (pre++[x]) (by simpa using hl) (fun y hy=>hm y (by simp[hy]))
   have hp:=put_row (sz:=sz) (pre:=pre.map enc) (post:=List.replicate t.length zero) (row:=zero) (cs:=enc x) (fl:=fl) (by rw[← tysOk_len hz,hs]) (by rw[← hlen,hs]) (fun e=>⟨(hfl e).1,(hfl e).2 x⟩)
   simp at ih
   simp only[List.length_map] at hp
   simp[toT1,ht,hlen,vars_ev,varsUp_ev,sh_ev,hx,hw,hp,ih,List.replicate_succ]
 refine it.fn _ _ (by simp[outsOk,tysOk,Ty.ok]) ?_
 have:=loop l [] hl hm
 have hzl:zero.length=sz:=by rw[← tysOk_len hz,hs]
 have hl':(l.length:Int)≤(most:Int):=by omega
 simp at this
 simp[toT0,hzl,hl',this]
def vars2 (n:Nat):List A:=(List.range n).reverse.map fun i=> .v (n+i)
def eqT0:T:= .op .len [.v 1] [tI]<| .op .len [.v 1] [tI]<| .op (.bin .neq) [.v 1, .v 0] [tB]<| .ite (.v 0) (.ret [[.k (.bool false)]]) (.go 0 [.v 4, .v 3, .k (.int .i64 0)])
def eqT1 (sz:Nat) (tys:List Ty) (f:Nat):T:= .op .len [.v 2] [tI]<| .op (.bin .lss) [.v 1, .v 0] [tB]<| .ite (.v 0)
 (.op (.row sz) [.v 4, .v 2] tys<| .op (.row sz) [.v (tys.length+3), .v (tys.length+2)] tys<| .call f [vars2 tys.length,vars tys.length] [[tB]]<| .op .not [.v 0] [tB]<| .ite (.v 0) (.ret [[.k (.bool false)]])
  (.op (.bin .add) [.v (tys.length+(tys.length+2)+2), .k (.int .i64 1)] [tI]<| .go 0 [.v (tys.length+(tys.length+4)+3), .v (tys.length+(tys.length+3)+3), .v 0])) (.ret [[.k (.bool true)]])
theorem vars2_ev (ds es ρ:List D) (h:ds.length=es.length):(vars2 es.length).map (A.ev (pushD es (pushD ds ρ)))=ds:=by
 have:=vars_ev ds ρ
 unfold vars at this
 unfold vars2
 rw[List.map_map] at this ⊢
 rw[h] at this
 refine Eq.trans (List.map_congr_left fun i _=> ?_) this
 simp only[Function.comp]
 exact sh_ev es _ _ i rfl
theorem eqS_gen {α:Type} {f fi sz:Nat} {tys:List Ty} {go:Nat→List D→Rs} (it:IsTree tab ext f [[tL sz],[tL sz]] [[tL sz,tL sz,tI]] eqT0 [eqT1 sz tys fi] go) (enc:α→List D)
  (ht:∀x,tysOk tys (enc x)=true) (l:List α) (hi:∀x∈l,R fi [enc x,enc x]=some [[.bool true]]) (hl:l.length≤most):R f [[.sl sz (l.map enc)],[.sl sz (l.map enc)]]=some [[.bool true]]:=by
 have loop:∀(suf pre:List α),(pre++suf).length≤most→(∀x∈suf,R fi [enc x,enc x]=some [[.bool true]])→go 0 [.sl sz ((pre++suf).map enc), .sl sz ((pre++suf).map enc), .int .i64 pre.length]=some [[.bool true]]:=by
  intro suf
  induction suf with
  |nil=>
   intro pre _ _
   refine it.go 0 _ _ _ _ rfl rfl (by simp[tysOk,Ty.ok]) ?_
   simp[eqT1]
  |cons x t ih=>
   intro pre hl hm
   refine it.go 0 _ _ _ _ rfl rfl (by simp[tysOk,Ty.ok]) ?_
   have hlen:=tysOk_len (ht x)
   have hx:=hm x (by simp)
   have hw:=most_wrap (n:=pre.length) (by omega) (by simp at hl;omega)
   have ih:=ih (pre++[x]) (by simpa using hl) (fun y hy=>hm y (by simp[hy]))
   have h2:=vars2_ev (enc x) (enc x)
   simp at ih
   simp[eqT1,ht,hlen,vars_ev,h2,sh_ev,hx,hw,ih]
 refine it.fn _ _ (by simp[outsOk,tysOk,Ty.ok]) ?_
 have:=loop l [] hl hi
 simp at this
 simp[eqT0,this]
set_option maxRecDepth 100000
structure On where
 event:Int
 act:Int
 deriving DecidableEq
@[simp] def On.enc (x:On):List D:=[.int .i64 x.event, .int .i64 x.act]
structure Sett where
 state:Int
 form:List Stp
 deriving DecidableEq
@[simp] def Sett.enc (x:Sett):List D:=[.int .i64 x.state, .sl 5 (x.form.map Stp.enc)]
@[simp] def encI (n:Int):List D:=[.int .i64 n]
@[simp] def encF (f:List Stp):List D:=[.sl 5 (f.map Stp.enc)]
@[simp] def encA (f:List Sett):List D:=[.sl 2 (f.map Sett.enc)]
inductive Tmpl where
 |mk (kind tag:Int) (names:List Int) (args:List (List Stp)) (key:List Stp) (ons:List On) (kids:List Tmpl)
def Tmpl.kind:Tmpl→Int| .mk k _ _ _ _ _ _=>k
def Tmpl.tag:Tmpl→Int| .mk _ t _ _ _ _ _=>t
def Tmpl.names:Tmpl→List Int| .mk _ _ n _ _ _ _=>n
def Tmpl.args:Tmpl→List (List Stp)| .mk _ _ _ a _ _ _=>a
def Tmpl.key:Tmpl→List Stp| .mk _ _ _ _ k _ _=>k
def Tmpl.ons:Tmpl→List On| .mk _ _ _ _ _ o _=>o
def Tmpl.kids:Tmpl→List Tmpl| .mk _ _ _ _ _ _ k=>k
theorem Tmpl.ind {p:Tmpl→Prop} (h:∀k tg ns ar ky os ks,(∀x∈ks,p x)→p (.mk k tg ns ar ky os ks)):∀t,p t:=
 Tmpl.rec (motive_1:=p) (motive_2:=fun l=>∀x∈l,p x) (fun k tg ns ar ky os ks ih=>h k tg ns ar ky os ks ih) (fun _ hx=>by cases hx) (fun _ _ h1 h2 x hx=>by
  rcases List.mem_cons.1 hx with rfl|hx
  ·exact h1
  ·exact h2 x hx)
def Tmpl.enc:Tmpl→List D
 | .mk k tg ns ar ky os ks=>[.int .i64 k, .int .i64 tg, .sl 1 (ns.map encI), .sl 1 (ar.map encF), .sl 5 (ky.map Stp.enc), .sl 2 (os.map On.enc), .sl 7 (ks.map Tmpl.enc)]
theorem Tmpl.enc_eq (t:Tmpl):t.enc=[.int .i64 t.kind, .int .i64 t.tag, .sl 1 (t.names.map encI), .sl 1 (t.args.map encF), .sl 5 (t.key.map Stp.enc), .sl 2 (t.ons.map On.enc), .sl 7 (t.kids.map Tmpl.enc)]:=by
 cases t
 rw[Tmpl.enc]
 rfl
structure Comp where
 props:Int
 states:List Val
 acts:List (List Sett)
 body:Tmpl
def Comp.enc (c:Comp):List D:=[.int .i64 c.props, .sl 3 (c.states.map Val.enc), .sl 1 (c.acts.map encA), .int .i64 c.body.kind, .int .i64 c.body.tag, .sl 1 (c.body.names.map encI), .sl 1 (c.body.args.map encF), .sl 5 (c.body.key.map Stp.enc), .sl 2 (c.body.ons.map On.enc), .sl 7 (c.body.kids.map Tmpl.enc)]
structure Slt where
 pos:Int
 sub:Int
 deriving DecidableEq
@[simp] def Slt.enc (x:Slt):List D:=[.int .i64 x.pos, .int .i64 x.sub]
structure Cell where
 place:List Slt
 states:List Val
 deriving DecidableEq
@[simp] def Cell.enc (x:Cell):List D:=[.sl 2 (x.place.map Slt.enc), .sl 3 (x.states.map Val.enc)]
structure Prp where
 name:Int
 val:Val
 deriving DecidableEq
@[simp] def Prp.enc (x:Prp):List D:=[.int .i64 x.name, .int .i64 x.val.kind, .int .i64 x.val.num, .str x.val.text]
inductive Tre where
 |mk (tag key:Int) (text:List UInt8) (props:List Prp) (kids:List Tre)
def Tre.tag:Tre→Int| .mk t _ _ _ _=>t
def Tre.key:Tre→Int| .mk _ k _ _ _=>k
def Tre.text:Tre→List UInt8| .mk _ _ s _ _=>s
def Tre.props:Tre→List Prp| .mk _ _ _ p _=>p
def Tre.kids:Tre→List Tre| .mk _ _ _ _ k=>k
theorem Tre.ind {p:Tre→Prop} (h:∀t k s ps ks,(∀x∈ks,p x)→p (.mk t k s ps ks)):∀t,p t:=
 Tre.rec (motive_1:=p) (motive_2:=fun l=>∀x∈l,p x) (fun t k s ps ks ih=>h t k s ps ks ih) (fun _ hx=>by cases hx) (fun _ _ h1 h2 x hx=>by
  rcases List.mem_cons.1 hx with rfl|hx
  ·exact h1
  ·exact h2 x hx)
def Tre.enc:Tre→List D
 | .mk t k s ps ks=>[.int .i64 t, .int .i64 k, .str s, .sl 4 (ps.map Prp.enc), .sl 5 (ks.map Tre.enc)]
theorem Tre.enc_eq (t:Tre):t.enc=[.int .i64 t.tag, .int .i64 t.key, .str t.text, .sl 4 (t.props.map Prp.enc), .sl 5 (t.kids.map Tre.enc)]:=by
 cases t
 rw[Tre.enc]
 rfl
def MEM:Nat:=4611686018427387904
def BULK:Nat:=1048576
def Val.bulk (v:Val):Nat:=v.text.length
def Val.mem (v:Val):Prop:=v.text.length<MEM
def Stp.bulk (x:Stp):Nat:=x.val.bulk
def Stp.mem (x:Stp):Prop:=x.val.mem
def lmem {α:Type} (p:α→Prop) (l:List α):Prop:=l.length<MEM∧∀x∈l,p x
def Sett.bulk (x:Sett):Nat:=sumL Stp.bulk x.form
def Sett.mem (x:Sett):Prop:=lmem Stp.mem x.form
def Tmpl.bulk:Tmpl→Nat
 | .mk _ _ ns ar ky os ks=>ns.length+(sumL (sumL Stp.bulk) ar+(sumL Stp.bulk ky+(os.length+(ks.length+(ks.map Tmpl.bulk).sum))))
theorem Tmpl.bulk_eq (t:Tmpl):t.bulk=t.names.length+(sumL (sumL Stp.bulk) t.args+(sumL Stp.bulk t.key+(t.ons.length+sumL Tmpl.bulk t.kids))):=by
 cases t
 rw[Tmpl.bulk]
 rfl
inductive Tmpl.mem:Tmpl→Prop
 |mk {k tg:Int} {ns:List Int} {ar:List (List Stp)} {ky:List Stp} {os:List On} {ks:List Tmpl} (h1:ns.length<MEM) (h2:lmem (lmem Stp.mem) ar) (h3:lmem Stp.mem ky) (h4:os.length<MEM) (h5:ks.length<MEM) (h6:∀x∈ks,Tmpl.mem x):Tmpl.mem (.mk k tg ns ar ky os ks)
def Comp.bulk (c:Comp):Nat:=sumL Val.bulk c.states+(sumL (sumL Sett.bulk) c.acts+c.body.bulk)
def Comp.mem (c:Comp):Prop:=lmem Val.mem c.states∧lmem (lmem Sett.mem) c.acts∧c.body.mem
def Cell.bulk (c:Cell):Nat:=c.place.length+sumL Val.bulk c.states
def Cell.mem (c:Cell):Prop:=c.place.length<MEM∧lmem Val.mem c.states
theorem left_step {a b:Nat} {n:Int} (h0:0≤n):(left a n<0∧left (a+b) n= -1)∨(¬ left a n<0∧left (a+b) n=left b (left a n)∧0≤left a n∧left a n≤n):=by
 by_cases h:(a:Int)≤n
 ·have e:left a n=n-a:=by simp[left,h]
  exact .inr ⟨by omega,by rw[left_add h,e],by omega,by omega⟩
 ·have e:left a n= -1:=by simp[left,h]
  exact .inl ⟨by omega,left_big h⟩
theorem left_neg {a:Nat} {n:Int} (h0:0≤n) (h:left a n<0):left a n= -1:=by
 unfold left at h ⊢
 by_cases hc:(a:Int)≤n
 ·rw[if_pos hc] at h;omega
 ·rw[if_neg hc]
theorem len_sz {n:Int} {k:Nat} (h0:0≤n) (hn:n≤ROOM) (h:k<MEM):IntKind.wrap .i64 (n-k)=n-k:=wrap64 (by unfold MEM at h;omega) (by unfold ROOM at hn;omega)
theorem R80 (v:Val) (n:Int) (hm:v.mem) (h0:0≤n) (hn:n≤ROOM):R 80 [v.enc,[.int .i64 n]]=some [[.int .i64 (left v.bulk n)]]:=by
 refine q80.f rfl ?_
 have hw:=len_sz h0 hn hm
 by_cases h:(v.text.length:Int)≤n
 ·have e:left v.bulk n=n-v.text.length:=by simp[left,Val.bulk,h]
  have e2:¬ n-(v.text.length:Int)<0:=by omega
  simp[t80_0,hw,e,e2]
 ·have e:left v.bulk n= -1:=by simp[left,Val.bulk,h]
  have e2:n-(v.text.length:Int)<0:=by omega
  simp[t80_0,hw,e,e2]
theorem R45 (l:List Val) (n:Int) (hm:lmem Val.mem l) (h0:0≤n) (hn:n≤ROOM):R 45 [[.sl 3 (l.map Val.enc)],[.int .i64 n]]=some [[.int .i64 (left (sumL Val.bulk l) n)]]:=
 szS_gen (tys:=[tI,tI,tS]) q45.it Val.enc Val.bulk Val.mem (fun _=>rfl) R80 l n h0 hn hm.1 hm.2
theorem R121 (x:Stp) (n:Int) (hm:x.mem) (h0:0≤n) (hn:n≤ROOM):R 121 [x.enc,[.int .i64 n]]=some [[.int .i64 (left x.bulk n)]]:=by
 refine q121.f rfl ?_
 have h1:=R80 x.val n hm h0 hn
 simp at h1
 by_cases h:left x.val.bulk n<0
 ·have e:=left_neg h0 h
  simp[t121_0,h1,e,Stp.bulk]
 ·simp[t121_0,h1,h,Stp.bulk]
theorem R84 (l:List Stp) (n:Int) (hm:lmem Stp.mem l) (h0:0≤n) (hn:n≤ROOM):R 84 [[.sl 5 (l.map Stp.enc)],[.int .i64 n]]=some [[.int .i64 (left (sumL Stp.bulk l) n)]]:=
 szS_gen (tys:=[tI,tI,tI,tI,tS]) q84.it Stp.enc Stp.bulk Stp.mem (fun _=>rfl) R121 l n h0 hn hm.1 hm.2
theorem R83 (l:List (List Stp)) (n:Int) (hm:lmem (lmem Stp.mem) l) (h0:0≤n) (hn:n≤ROOM):R 83 [[.sl 1 (l.map encF)],[.int .i64 n]]=some [[.int .i64 (left (sumL (sumL Stp.bulk) l) n)]]:=
 szS_gen (tys:=[tL 5]) q83.it encF (sumL Stp.bulk) (lmem Stp.mem) (fun _=>rfl) R84 l n h0 hn hm.1 hm.2
theorem R120 (x:Sett) (n:Int) (hm:x.mem) (h0:0≤n) (hn:n≤ROOM):R 120 [x.enc,[.int .i64 n]]=some [[.int .i64 (left x.bulk n)]]:=by
 refine q120.f rfl ?_
 have h1:=R84 x.form n hm h0 hn
 by_cases h:left (sumL Stp.bulk x.form) n<0
 ·have e:=left_neg h0 h
  simp[t120_0,h1,e,Sett.bulk]
 ·simp[t120_0,h1,h,Sett.bulk]
theorem R81 (l:List Sett) (n:Int) (hm:lmem Sett.mem l) (h0:0≤n) (hn:n≤ROOM):R 81 [[.sl 2 (l.map Sett.enc)],[.int .i64 n]]=some [[.int .i64 (left (sumL Sett.bulk l) n)]]:=
 szS_gen (tys:=[tI,tL 5]) q81.it Sett.enc Sett.bulk Sett.mem (fun _=>rfl) R120 l n h0 hn hm.1 hm.2
theorem R46 (l:List (List Sett)) (n:Int) (hm:lmem (lmem Sett.mem) l) (h0:0≤n) (hn:n≤ROOM):R 46 [[.sl 1 (l.map encA)],[.int .i64 n]]=some [[.int .i64 (left (sumL (sumL Sett.bulk) l) n)]]:=
 szS_gen (tys:=[tL 2]) q46.it encA (sumL Sett.bulk) (lmem Sett.mem) (fun _=>rfl) R81 l n h0 hn hm.1 hm.2
theorem szLen {f:Nat} {sz:Nat} {go:Nat→List D→Rs} {rows:List (List D)} (it:IsTree tab ext f [[tL sz],[tI]] [] t82_0 [] go) (n:Int) (hm:rows.length<MEM) (h0:0≤n) (hn:n≤ROOM):R f [[.sl sz rows],[.int .i64 n]]=some [[.int .i64 (left rows.length n)]]:=by
 refine it.fn _ _ (by simp[outsOk,tysOk,Ty.ok]) ?_
 have hw:=len_sz h0 hn hm
 by_cases h:(rows.length:Int)≤n
 ·have e:left rows.length n=n-rows.length:=by simp[left,h]
  have e2:¬ n-(rows.length:Int)<0:=by omega
  simp[t82_0,hw,e,e2]
 ·have e:left rows.length n= -1:=by simp[left,h]
  have e2:n-(rows.length:Int)<0:=by omega
  simp[t82_0,hw,e,e2]
theorem R82 (l:List Int) (n:Int) (hm:l.length<MEM) (h0:0≤n) (hn:n≤ROOM):R 82 [[.sl 1 (l.map encI)],[.int .i64 n]]=some [[.int .i64 (left l.length n)]]:=by
 have:=szLen q82.it (rows:=l.map encI) n (by simpa using hm) h0 hn
 simpa using this
theorem R85 (l:List On) (n:Int) (hm:l.length<MEM) (h0:0≤n) (hn:n≤ROOM):R 85 [[.sl 2 (l.map On.enc)],[.int .i64 n]]=some [[.int .i64 (left l.length n)]]:=by
 have:=szLen (sz:=2) q85.it (rows:=l.map On.enc) n (by simpa using hm) h0 hn
 simpa using this
theorem R48 (l:List Slt) (n:Int) (hm:l.length<MEM) (h0:0≤n) (hn:n≤ROOM):R 48 [[.sl 2 (l.map Slt.enc)],[.int .i64 n]]=some [[.int .i64 (left l.length n)]]:=by
 have:=szLen (sz:=2) q48.it (rows:=l.map Slt.enc) n (by simpa using hm) h0 hn
 simpa using this
theorem R47:∀(t:Tmpl) (n:Int),t.mem→0≤n→n≤ROOM→R 47 [t.enc,[.int .i64 n]]=some [[.int .i64 (left t.bulk n)]]:=by
 refine Tmpl.ind fun k tg ns ar ky os ks ih n hm h0 hn=> ?_
 cases hm with
 |mk h1 h2 h3 h4 h5 h6=>
 refine q47.it.fn _ _ (by rw[Tmpl.enc];rfl) ?_
 have hk:∀n,0≤n→n≤ROOM→R 86 [[.sl 7 (ks.map Tmpl.enc)],[.int .i64 n]]=some [[.int .i64 (left (sumL Tmpl.bulk ks) n)]]:=fun n h0 hn=>
  szS_gen (tys:=[tI,tI,tL 1,tL 1,tL 5,tL 2,tL 7]) q86.it Tmpl.enc Tmpl.bulk (fun x=>x∈ks∧x.mem) (fun x=>by rw[Tmpl.enc_eq];rfl) (fun x n hx=>ih x hx.1 n hx.2) ks n h0 hn h5 (fun x hx=>⟨hx,h6 x hx⟩)
 have hb:Tmpl.bulk (.mk k tg ns ar ky os ks)=ns.length+(sumL (sumL Stp.bulk) ar+(sumL Stp.bulk ky+(os.length+sumL Tmpl.bulk ks))):=by rw[Tmpl.bulk];rfl
 rw[hb,Tmpl.enc]
 have r1:=R82 ns n h1 h0 hn
 rcases left_step (a:=ns.length) (b:=sumL (sumL Stp.bulk) ar+(sumL Stp.bulk ky+(os.length+sumL Tmpl.bulk ks))) h0 with ⟨a1,a2⟩|⟨a1,a2,a3,a4⟩
 ·simp[t47_0,r1,a1,a2]
 generalize left ns.length n=n1 at*
 have hn1:n1≤ROOM:=by omega
 have r2:=R83 ar n1 h2 a3 hn1
 rw[a2]
 rcases left_step (a:=sumL (sumL Stp.bulk) ar) (b:=sumL Stp.bulk ky+(os.length+sumL Tmpl.bulk ks)) a3 with ⟨b1,b2⟩|⟨b1,b2,b3,b4⟩
 ·simp[t47_0,r1,a1,r2,b1,b2]
 generalize left (sumL (sumL Stp.bulk) ar) n1=n2 at*
 have hn2:n2≤ROOM:=by omega
 have r3:=R84 ky n2 h3 b3 hn2
 rw[b2]
 rcases left_step (a:=sumL Stp.bulk ky) (b:=os.length+sumL Tmpl.bulk ks) b3 with ⟨c1,c2⟩|⟨c1,c2,c3,c4⟩
 ·simp[t47_0,r1,a1,r2,b1,r3,c1,c2]
 generalize left (sumL Stp.bulk ky) n2=n3 at*
 have hn3:n3≤ROOM:=by omega
 have r4:=R85 os n3 h4 c3 hn3
 rw[c2]
 rcases left_step (a:=os.length) (b:=sumL Tmpl.bulk ks) c3 with ⟨d1,d2⟩|⟨d1,d2,d3,d4⟩
 ·simp[t47_0,r1,a1,r2,b1,r3,c1,r4,d1,d2]
 generalize left os.length n3=n4 at*
 have hn4:n4≤ROOM:=by omega
 have r5:=hk n4 d3 hn4
 rw[d2]
 by_cases h:left (sumL Tmpl.bulk ks) n4<0
 ·have e:=left_neg d3 h
  rw[e] at r5 ⊢
  simp[t47_0,r1,a1,r2,b1,r3,c1,r4,d1,r5]
 ·simp[t47_0,r1,a1,r2,b1,r3,c1,r4,d1,r5,h]
theorem R17 (c:Comp) (n:Int) (hm:c.mem) (h0:0≤n) (hn:n≤ROOM):R 17 [c.enc,[.int .i64 n]]=some [[.int .i64 (left c.bulk n)]]:=by
 obtain ⟨h1,h2,h3⟩:=hm
 refine q17.f rfl ?_
 unfold Comp.bulk Comp.enc
 have r1:=R45 c.states n h1 h0 hn
 rcases left_step (a:=sumL Val.bulk c.states) (b:=sumL (sumL Sett.bulk) c.acts+c.body.bulk) h0 with ⟨a1,a2⟩|⟨a1,a2,a3,a4⟩
 ·simp[t17_0,r1,a1,a2]
 generalize left (sumL Val.bulk c.states) n=n1 at*
 have hn1:n1≤ROOM:=by omega
 have r2:=R46 c.acts n1 h2 a3 hn1
 rw[a2]
 rcases left_step (a:=sumL (sumL Sett.bulk) c.acts) (b:=c.body.bulk) a3 with ⟨b1,b2⟩|⟨b1,b2,b3,b4⟩
 ·simp[t17_0,r1,a1,r2,b1,b2]
 generalize left (sumL (sumL Sett.bulk) c.acts) n1=n2 at*
 have hn2:n2≤ROOM:=by omega
 have r3:=R47 c.body n2 h3 b3 hn2
 rw[Tmpl.enc_eq] at r3
 rw[b2]
 by_cases h:left c.body.bulk n2<0
 ·have e:=left_neg b3 h
  rw[e] at r3 ⊢
  simp[t17_0,r1,a1,r2,b1,r3]
 ·simp[t17_0,r1,a1,r2,b1,r3,h]
theorem R4 (l:List Comp) (n:Int) (hm:lmem Comp.mem l) (h0:0≤n) (hn:n≤ROOM):R 4 [[.sl 10 (l.map Comp.enc)],[.int .i64 n]]=some [[.int .i64 (left (sumL Comp.bulk l) n)]]:=
 szS_gen (tys:=[tI,tL 3,tL 1,tI,tI,tL 1,tL 1,tL 5,tL 2,tL 7]) q4.it Comp.enc Comp.bulk Comp.mem (fun _=>rfl) R17 l n h0 hn hm.1 hm.2
theorem R18 (c:Cell) (n:Int) (hm:c.mem) (h0:0≤n) (hn:n≤ROOM):R 18 [c.enc,[.int .i64 n]]=some [[.int .i64 (left c.bulk n)]]:=by
 obtain ⟨h1,h2⟩:=hm
 refine q18.f rfl ?_
 unfold Cell.bulk
 have r1:=R48 c.place n h1 h0 hn
 rcases left_step (a:=c.place.length) (b:=sumL Val.bulk c.states) h0 with ⟨a1,a2⟩|⟨a1,a2,a3,a4⟩
 ·simp[t18_0,r1,a1,a2]
 generalize left c.place.length n=n1 at*
 have hn1:n1≤ROOM:=by omega
 have r2:=R45 c.states n1 h2 a3 hn1
 rw[a2]
 by_cases h:left (sumL Val.bulk c.states) n1<0
 ·have e:=left_neg a3 h
  rw[e] at r2 ⊢
  simp[t18_0,r1,a1,r2]
 ·simp[t18_0,r1,a1,r2,h]
theorem R5 (l:List Cell) (n:Int) (hm:lmem Cell.mem l) (h0:0≤n) (hn:n≤ROOM):R 5 [[.sl 2 (l.map Cell.enc)],[.int .i64 n]]=some [[.int .i64 (left (sumL Cell.bulk l) n)]]:=
 szS_gen (tys:=[tL 2,tL 3]) q5.it Cell.enc Cell.bulk Cell.mem (fun _=>rfl) R18 l n h0 hn hm.1 hm.2
set_option maxRecDepth 100000
theorem sumL_len {α:Type} {f:α→Nat} {l:List α} {n:Nat} (h:sumL f l≤n):l.length≤n:=by unfold sumL at h;omega
theorem sum_mem {α:Type} {f:α→Nat} {l:List α} {x:α} (hx:x∈l):f x≤(l.map f).sum:=by
 induction l with
 |nil=>cases hx
 |cons y t ih=>
  simp only[List.map_cons,List.sum_cons]
  rcases List.mem_cons.1 hx with rfl|hx
  ·omega
  ·have:=ih hx;omega
theorem sumL_mem {α:Type} {f:α→Nat} {l:List α} {n:Nat} (h:sumL f l≤n) {x:α} (hx:x∈l):f x≤n:=by
 have:=sum_mem (f:=f) hx
 unfold sumL at h
 omega
theorem bulk_most {n:Nat} (h:n≤BULK):n≤most:=by unfold BULK at h;unfold most;omega
theorem R98 (v:Val):R 98 [v.enc]=some [v.enc]:=by
 refine q98.f rfl ?_
 simp[t98_0]
theorem R59 (l:List Val) (h:sumL Val.bulk l≤BULK):R 59 [[.sl 3 (l.map Val.enc)]]=some [[.sl 3 (l.map Val.enc)]]:=
 toS_gen (tys:=[tI,tI,tS]) (fl:=true) (zero:=[.int .i64 0, .int .i64 0, .str []]) q59.it Val.enc (fun _=>True) (fun _=>rfl) rfl rfl (fun _=>⟨rfl,fun _=>rfl⟩) (fun x _=>R98 x) l (bulk_most (sumL_len h)) (fun _ _=>trivial)
theorem R131 (x:Stp):R 131 [x.enc]=some [x.enc]:=by
 refine q131.f rfl ?_
 have:=R98 x.val
 simp at this
 simp[t131_0,this]
theorem R102 (l:List Stp) (h:sumL Stp.bulk l≤BULK):R 102 [[.sl 5 (l.map Stp.enc)]]=some [[.sl 5 (l.map Stp.enc)]]:=
 toS_gen (tys:=[tI,tI,tI,tI,tS]) (fl:=true) (zero:=[.int .i64 0, .int .i64 0, .int .i64 0, .int .i64 0, .str []]) q102.it Stp.enc (fun _=>True) (fun _=>rfl) rfl rfl (fun _=>⟨rfl,fun _=>rfl⟩) (fun x _=>R131 x) l (bulk_most (sumL_len h)) (fun _ _=>trivial)
theorem R101 (l:List (List Stp)) (h:sumL (sumL Stp.bulk) l≤BULK):R 101 [[.sl 1 (l.map encF)]]=some [[.sl 1 (l.map encF)]]:=
 toS_gen (tys:=[tL 5]) (fl:=false) (zero:=[.sl 5 []]) q101.it encF (fun x=>sumL Stp.bulk x≤BULK) (fun _=>rfl) rfl rfl (fun e=>by cases e) R102 l (bulk_most (sumL_len h)) (fun _ hx=>sumL_mem h hx)
theorem R130 (x:Sett) (h:x.bulk≤BULK):R 130 [x.enc]=some [x.enc]:=by
 refine q130.f rfl ?_
 simp[t130_0,R102 x.form h]
theorem R99 (l:List Sett) (h:sumL Sett.bulk l≤BULK):R 99 [[.sl 2 (l.map Sett.enc)]]=some [[.sl 2 (l.map Sett.enc)]]:=
 toS_gen (tys:=[tI,tL 5]) (fl:=false) (zero:=[.int .i64 0, .sl 5 []]) q99.it Sett.enc (fun x=>x.bulk≤BULK) (fun _=>rfl) rfl rfl (fun e=>by cases e) R130 l (bulk_most (sumL_len h)) (fun _ hx=>sumL_mem h hx)
theorem R60 (l:List (List Sett)) (h:sumL (sumL Sett.bulk) l≤BULK):R 60 [[.sl 1 (l.map encA)]]=some [[.sl 1 (l.map encA)]]:=
 toS_gen (tys:=[tL 2]) (fl:=false) (zero:=[.sl 2 []]) q60.it encA (fun x=>sumL Sett.bulk x≤BULK) (fun _=>rfl) rfl rfl (fun e=>by cases e) R99 l (bulk_most (sumL_len h)) (fun _ hx=>sumL_mem h hx)
theorem R132 (x:On):R 132 [x.enc]=some [x.enc]:=by
 refine q132.f rfl ?_
 simp[t132_0]
theorem R103 (l:List On) (h:l.length≤BULK):R 103 [[.sl 2 (l.map On.enc)]]=some [[.sl 2 (l.map On.enc)]]:=
 toS_gen (tys:=[tI,tI]) (fl:=true) (zero:=[.int .i64 0, .int .i64 0]) q103.it On.enc (fun _=>True) (fun _=>rfl) rfl rfl (fun _=>⟨rfl,fun _=>rfl⟩) (fun x _=>R132 x) l (bulk_most h) (fun _ _=>trivial)
theorem R105 (x:Slt):R 105 [x.enc]=some [x.enc]:=by
 refine q105.f rfl ?_
 simp[t105_0]
theorem R62 (l:List Slt) (h:l.length≤BULK):R 62 [[.sl 2 (l.map Slt.enc)]]=some [[.sl 2 (l.map Slt.enc)]]:=
 toS_gen (tys:=[tI,tI]) (fl:=true) (zero:=[.int .i64 0, .int .i64 0]) q62.it Slt.enc (fun _=>True) (fun _=>rfl) rfl rfl (fun _=>⟨rfl,fun _=>rfl⟩) (fun x _=>R105 x) l (bulk_most h) (fun _ _=>trivial)
theorem R100 (l:List Int) (h:l.length≤BULK):R 100 [[.sl 1 (l.map encI)]]=some [[.sl 1 (l.map encI)]]:=by
 have hmost:=bulk_most h
 have loop:∀(suf pre:List Int),(pre++suf).length≤most→q100.go 0 [.sl 1 ((pre++suf).map encI), .sl 1 (pre.map encI++List.replicate suf.length [.int .i64 0]), .int .i64 pre.length]=some [[.sl 1 ((pre++suf).map encI)]]:=by
  intro suf
  induction suf with
  |nil=>
   intro pre _
   refine q100.g 0 rfl rfl rfl ?_
   simp[t100_1]
  |cons x t ih=>
   intro pre hl
   refine q100.g 0 rfl rfl rfl ?_
   have hw:=most_wrap (n:=pre.length) (by omega) (by simp at hl;omega)
   have ih:=ih (pre++[x]) (by simpa using hl)
   have hp:=put_row (sz:=1) (pre:=pre.map encI) (post:=List.replicate t.length [.int .i64 0]) (row:=[.int .i64 0]) (cs:=[.int .i64 x]) (fl:=true) rfl rfl (fun _=>⟨rfl,rfl⟩)
   simp at ih
   simp only[List.length_map] at hp
   simp[t100_1,hw,hp,ih,List.replicate_succ]
 refine q100.f rfl ?_
 have:=loop l [] hmost
 have hl':(l.length:Int)≤(most:Int):=by omega
 simp at this
 simp[t100_0,hl',this]
theorem R61:∀(t:Tmpl),t.bulk≤BULK→R 61 [t.enc]=some [t.enc]:=by
 refine Tmpl.ind fun k tg ns ar ky os ks ih hb=> ?_
 rw[Tmpl.bulk_eq] at hb
 simp only[Tmpl.names,Tmpl.args,Tmpl.key,Tmpl.ons,Tmpl.kids] at hb
 refine q61.it.fn _ _ (by rw[Tmpl.enc];rfl) ?_
 have hk:R 104 [[.sl 7 (ks.map Tmpl.enc)]]=some [[.sl 7 (ks.map Tmpl.enc)]]:=
  toS_gen (tys:=[tI,tI,tL 1,tL 1,tL 5,tL 2,tL 7]) (fl:=false) (zero:=[.int .i64 0, .int .i64 0, .sl 1 [], .sl 1 [], .sl 5 [], .sl 2 [], .sl 7 []]) q104.it Tmpl.enc (fun x=>x∈ks) (fun x=>by rw[Tmpl.enc_eq];rfl) rfl rfl (fun e=>by cases e)
   (fun x hx=>ih x hx (sumL_mem (n:=BULK) (f:=Tmpl.bulk) (by omega) hx)) ks (bulk_most (sumL_len (f:=Tmpl.bulk) (by omega))) (fun x hx=>hx)
 rw[Tmpl.enc]
 simp[t61_0,R100 ns (by omega),R101 ar (by omega),R102 ky (by omega),R103 os (by omega),hk]
theorem R22 (c:Comp) (h:c.bulk≤BULK):R 22 [c.enc]=some [c.enc]:=by
 unfold Comp.bulk at h
 refine q22.f rfl ?_
 have h1:=R61 c.body (by omega)
 rw[Tmpl.enc_eq] at h1
 unfold Comp.enc
 simp[t22_0,R59 c.states (by omega),R60 c.acts (by omega),h1]
theorem R7 (l:List Comp) (h:sumL Comp.bulk l≤BULK):R 7 [[.sl 10 (l.map Comp.enc)]]=some [[.sl 10 (l.map Comp.enc)]]:=
 toS_gen (tys:=[tI,tL 3,tL 1,tI,tI,tL 1,tL 1,tL 5,tL 2,tL 7]) (fl:=false) (zero:=[.int .i64 0, .sl 3 [], .sl 1 [], .int .i64 0, .int .i64 0, .sl 1 [], .sl 1 [], .sl 5 [], .sl 2 [], .sl 7 []]) q7.it Comp.enc (fun x=>x.bulk≤BULK) (fun _=>rfl) rfl rfl (fun e=>by cases e) R22 l (bulk_most (sumL_len h)) (fun _ hx=>sumL_mem h hx)
theorem R23 (c:Cell) (h:c.bulk≤BULK):R 23 [c.enc]=some [c.enc]:=by
 unfold Cell.bulk at h
 refine q23.f rfl ?_
 simp[t23_0,R62 c.place (by omega),R59 c.states (by omega)]
theorem R8 (l:List Cell) (h:sumL Cell.bulk l≤BULK):R 8 [[.sl 2 (l.map Cell.enc)]]=some [[.sl 2 (l.map Cell.enc)]]:=
 toS_gen (tys:=[tL 2,tL 3]) (fl:=false) (zero:=[.sl 2 [], .sl 3 []]) q8.it Cell.enc (fun x=>x.bulk≤BULK) (fun _=>rfl) rfl rfl (fun e=>by cases e) R23 l (bulk_most (sumL_len h)) (fun _ hx=>sumL_mem h hx)
theorem R112 (v:Val):R 112 [v.enc,v.enc]=some [[.bool true]]:=by
 refine q112.f rfl ?_
 simp[t112_0]
theorem R74 (l:List Val) (h:l.length≤most):R 74 [[.sl 3 (l.map Val.enc)],[.sl 3 (l.map Val.enc)]]=some [[.bool true]]:=
 eqS_gen (tys:=[tI,tI,tS]) q74.it Val.enc (fun _=>rfl) l (fun x _=>R112 x) h
theorem R143 (x:Stp):R 143 [x.enc,x.enc]=some [[.bool true]]:=by
 refine q143.f rfl ?_
 have:=R112 x.val
 simp at this
 simp[t143_0,this]
theorem R116 (l:List Stp) (h:l.length≤most):R 116 [[.sl 5 (l.map Stp.enc)],[.sl 5 (l.map Stp.enc)]]=some [[.bool true]]:=
 eqS_gen (tys:=[tI,tI,tI,tI,tS]) q116.it Stp.enc (fun _=>rfl) l (fun x _=>R143 x) h
theorem R115 (l:List (List Stp)) (h:sumL (sumL Stp.bulk) l≤BULK):R 115 [[.sl 1 (l.map encF)],[.sl 1 (l.map encF)]]=some [[.bool true]]:=
 eqS_gen (tys:=[tL 5]) q115.it encF (fun _=>rfl) l (fun x hx=>R116 x (bulk_most (sumL_len (sumL_mem h hx)))) (bulk_most (sumL_len h))
theorem R142 (x:Sett) (h:x.bulk≤BULK):R 142 [x.enc,x.enc]=some [[.bool true]]:=by
 refine q142.f rfl ?_
 simp[t142_0,R116 x.form (bulk_most (sumL_len h))]
theorem R113 (l:List Sett) (h:sumL Sett.bulk l≤BULK):R 113 [[.sl 2 (l.map Sett.enc)],[.sl 2 (l.map Sett.enc)]]=some [[.bool true]]:=
 eqS_gen (tys:=[tI,tL 5]) q113.it Sett.enc (fun _=>rfl) l (fun x hx=>R142 x (sumL_mem h hx)) (bulk_most (sumL_len h))
theorem R75 (l:List (List Sett)) (h:sumL (sumL Sett.bulk) l≤BULK):R 75 [[.sl 1 (l.map encA)],[.sl 1 (l.map encA)]]=some [[.bool true]]:=
 eqS_gen (tys:=[tL 2]) q75.it encA (fun _=>rfl) l (fun x hx=>R113 x (sumL_mem h hx)) (bulk_most (sumL_len h))
theorem R144 (x:On):R 144 [x.enc,x.enc]=some [[.bool true]]:=by
 refine q144.f rfl ?_
 simp[t144_0]
theorem R117 (l:List On) (h:l.length≤most):R 117 [[.sl 2 (l.map On.enc)],[.sl 2 (l.map On.enc)]]=some [[.bool true]]:=
 eqS_gen (tys:=[tI,tI]) q117.it On.enc (fun _=>rfl) l (fun x _=>R144 x) h
theorem R119 (x:Slt):R 119 [x.enc,x.enc]=some [[.bool true]]:=by
 refine q119.f rfl ?_
 simp[t119_0]
theorem R77 (l:List Slt) (h:l.length≤most):R 77 [[.sl 2 (l.map Slt.enc)],[.sl 2 (l.map Slt.enc)]]=some [[.bool true]]:=
 eqS_gen (tys:=[tI,tI]) q77.it Slt.enc (fun _=>rfl) l (fun x _=>R119 x) h
theorem R114 (l:List Int) (h:l.length≤most):R 114 [[.sl 1 (l.map encI)],[.sl 1 (l.map encI)]]=some [[.bool true]]:=by
 have loop:∀(suf pre:List Int),(pre++suf).length≤most→q114.go 0 [.sl 1 ((pre++suf).map encI), .sl 1 ((pre++suf).map encI), .int .i64 pre.length]=some [[.bool true]]:=by
  intro suf
  induction suf with
  |nil=>
   intro pre _
   refine q114.g 0 rfl rfl rfl ?_
   simp[t114_1]
  |cons x t ih=>
   intro pre hl
   refine q114.g 0 rfl rfl rfl ?_
   have hw:=most_wrap (n:=pre.length) (by omega) (by simp at hl;omega)
   have ih:=ih (pre++[x]) (by simpa using hl)
   simp at ih
   simp[t114_1,hw,ih]
 refine q114.f rfl ?_
 have:=loop l [] h
 simp at this
 simp[t114_0,this]
theorem R76:∀(t:Tmpl),t.bulk≤BULK→R 76 [t.enc,t.enc]=some [[.bool true]]:=by
 refine Tmpl.ind fun k tg ns ar ky os ks ih hb=> ?_
 rw[Tmpl.bulk_eq] at hb
 simp only[Tmpl.names,Tmpl.args,Tmpl.key,Tmpl.ons,Tmpl.kids] at hb
 refine q76.it.fn _ _ (by rw[Tmpl.enc];rfl) ?_
 have hk:R 118 [[.sl 7 (ks.map Tmpl.enc)],[.sl 7 (ks.map Tmpl.enc)]]=some [[.bool true]]:=
  eqS_gen (tys:=[tI,tI,tL 1,tL 1,tL 5,tL 2,tL 7]) q118.it Tmpl.enc (fun x=>by rw[Tmpl.enc_eq];rfl) ks (fun x hx=>ih x hx (sumL_mem (n:=BULK) (f:=Tmpl.bulk) (by omega) hx)) (bulk_most (sumL_len (f:=Tmpl.bulk) (by omega)))
 rw[Tmpl.enc]
 simp[t76_0,R114 ns (bulk_most (by omega)),R115 ar (by omega),R116 ky (bulk_most (sumL_len (f:=Stp.bulk) (by omega))),R117 os (bulk_most (by omega)),hk]
theorem R31 (c:Comp) (h:c.bulk≤BULK):R 31 [c.enc,c.enc]=some [[.bool true]]:=by
 unfold Comp.bulk at h
 refine q31.f rfl ?_
 have h1:=R76 c.body (by omega)
 rw[Tmpl.enc_eq] at h1
 unfold Comp.enc
 simp[t31_0,R74 c.states (bulk_most (sumL_len (f:=Val.bulk) (by omega))),R75 c.acts (by omega),h1]
theorem R11 (l:List Comp) (h:sumL Comp.bulk l≤BULK):R 11 [[.sl 10 (l.map Comp.enc)],[.sl 10 (l.map Comp.enc)]]=some [[.bool true]]:=
 eqS_gen (tys:=[tI,tL 3,tL 1,tI,tI,tL 1,tL 1,tL 5,tL 2,tL 7]) q11.it Comp.enc (fun _=>rfl) l (fun x hx=>R31 x (sumL_mem h hx)) (bulk_most (sumL_len h))
theorem R32 (c:Cell) (h:c.bulk≤BULK):R 32 [c.enc,c.enc]=some [[.bool true]]:=by
 unfold Cell.bulk at h
 refine q32.f rfl ?_
 simp[t32_0,R77 c.place (bulk_most (by omega)),R74 c.states (bulk_most (sumL_len (f:=Val.bulk) (by omega)))]
theorem R12 (l:List Cell) (h:sumL Cell.bulk l≤BULK):R 12 [[.sl 2 (l.map Cell.enc)],[.sl 2 (l.map Cell.enc)]]=some [[.bool true]]:=
 eqS_gen (tys:=[tL 2,tL 3]) q12.it Cell.enc (fun _=>rfl) l (fun x hx=>R32 x (sumL_mem h hx)) (bulk_most (sumL_len h))
theorem R73 (x:Prp):R 73 [x.enc,x.enc]=some [[.bool true]]:=by
 refine q73.f rfl ?_
 have:=R112 x.val
 simp at this
 simp[t73_0,this]
theorem R29 (l:List Prp) (h:l.length≤most):R 29 [[.sl 4 (l.map Prp.enc)],[.sl 4 (l.map Prp.enc)]]=some [[.bool true]]:=
 eqS_gen (tys:=[tI,tI,tI,tS]) q29.it Prp.enc (fun _=>rfl) l (fun x _=>R73 x) h
inductive Tre.room:Tre→Prop
 |mk {t k:Int} {s:List UInt8} {ps:List Prp} {ks:List Tre} (h1:ps.length≤most) (h2:ks.length≤most) (h3:∀x∈ks,Tre.room x):Tre.room (.mk t k s ps ks)
theorem R10:∀(t:Tre),t.room→R 10 [t.enc,t.enc]=some [[.bool true]]:=by
 refine Tre.ind fun t k s ps ks ih hb=> ?_
 cases hb with
 |mk h1 h2 h3=>
 refine q10.it.fn _ _ (by rw[Tre.enc];rfl) ?_
 have hk:R 30 [[.sl 5 (ks.map Tre.enc)],[.sl 5 (ks.map Tre.enc)]]=some [[.bool true]]:=
  eqS_gen (tys:=[tI,tI,tS,tL 4,tL 5]) q30.it Tre.enc (fun x=>by rw[Tre.enc_eq];rfl) ks (fun x hx=>ih x hx (h3 x hx)) h2
 rw[Tre.enc]
 simp[t10_0,R29 ps h1,hk]
set_option maxRecDepth 100000
def KMAX:Int:=4294967296
def dgB (k:Int):UInt8:=UInt8.ofNat (48+k % 10).toNat
theorem wrap8 {n:Int} (h1:0≤n) (h2:n<256):IntKind.wrap .u8 n=n:=by
 unfold IntKind.wrap
 simp[IntKind.signed,IntKind.bits]
 omega
@[simp] theorem op_rem {a:Int}:Op1.ev (.bin .rem) [.int .i64 a, .int .i64 10]=some [.int .i64 (a.tmod 10)]:=by simp[Op1.ev,evBin,intBin]
@[simp] theorem op_quo {a:Int}:Op1.ev (.bin .quo) [.int .i64 a, .int .i64 10]=some [.int .i64 (IntKind.wrap .i64 (a.tdiv 10))]:=by simp[Op1.ev,evBin,intBin]
@[simp] theorem op_conv {k j:IntKind} {a:Int}:Op1.ev (.conv k) [.int j a]=some [.int k (k.wrap a)]:=Eq.trans rfl rfl
@[simp] theorem op_lit11 {d:D}:Op1.ev (.lit 1 [1]) [d]=some [.sl 1 [[d]]]:=Eq.trans rfl rfl
@[simp] theorem op_b2s {n:Int}:Op1.ev .b2s [.sl 1 [[.int .u8 n]]]=some [.str [UInt8.ofNat n.toNat]]:=Eq.trans rfl rfl
theorem mtext_ex:∀(n:Nat) (k:Int),0≤k→k<10 ^ n→k<9223372036854775808→∀s:List UInt8,s.length+n+1≤1000→∃t,q78.go 0 [.int .i64 k, .str s]=some [[.str t]]:=by
 intro n
 induction n with
 |zero=>
  intro k h0 h1 hbig s hs
  have hk:k=0:=by simp at h1;omega
  subst hk
  have hm:s.length+1≤most:=by unfold most;omega
  refine ⟨109::s,q78.g 0 rfl rfl rfl ?_⟩
  simp[t78_1,Nat.add_comm 1,hm]
 |succ n ih=>
  intro k h0 h1 hbig s hs
  by_cases hk:k=0
  ·subst hk
   have hm:s.length+1≤most:=by unfold most;omega
   refine ⟨109::s,q78.g 0 rfl rfl rfl ?_⟩
   simp[t78_1,Nat.add_comm 1,hm]
  ·have hkp:0<k:=by omega
   ·have e1:k.tmod 10=k % 10:=Int.tmod_eq_emod_of_nonneg h0
    have e2:k.tdiv 10=k / 10:=Int.tdiv_eq_ediv_of_nonneg h0
    have w1:IntKind.wrap .i64 (k % 10)=k % 10:=wrap64 (by omega) (by omega)
    have w2:IntKind.wrap .i64 (48+k % 10)=48+k % 10:=wrap64 (by omega) (by omega)
    have w3:IntKind.wrap .u8 (48+k % 10)=48+k % 10:=wrap8 (by omega) (by omega)
    have w4:IntKind.wrap .i64 (k / 10)=k / 10:=wrap64 (by omega) (by omega)
    have hm:s.length+1≤most:=by unfold most;omega
    obtain ⟨t,ht⟩:=ih (k / 10) (by omega) (by rw[Int.pow_succ] at h1;omega) (by omega) (dgB k::s) (by simp;omega)
    refine ⟨t,q78.g 0 rfl rfl rfl ?_⟩
    unfold dgB at ht
    simp[t78_1,hkp,e1,e2,w1,w2,w3,w4,Nat.add_comm 1,hm,ht]
noncomputable def mtext (k:Int):List UInt8:=match R 78 [[.int .i64 k]] with
 |some [[.str s]]=>s
 |_=>[]
theorem R78 (k:Int) (h0:0≤k) (h1:k≤KMAX+10):R 78 [[.int .i64 k]]=some [[.str (mtext k)]]:=by
 have:∃t,R 78 [[.int .i64 k]]=some [[.str t]]:=by
  by_cases hk:k≤0
  ·exact ⟨[109,48],q78.f rfl (by simp[t78_0,hk])⟩
  ·obtain ⟨t,ht⟩:=mtext_ex 13 k h0 (by unfold KMAX at h1;omega) (by unfold KMAX at h1;omega) [] (by simp)
   exact ⟨t,q78.f rfl (by simp[t78_0,hk,ht])⟩
 obtain ⟨t,ht⟩:=this
 unfold mtext
 rw[ht]
section
variable {k tg:Int} {ns:List Int} {ar:List (List Stp)} {ky:List Stp} {os:List On} {ks:List Tmpl}
@[simp] theorem Tmpl.kind_mk:(Tmpl.mk k tg ns ar ky os ks).kind=k:=Eq.trans rfl rfl
@[simp] theorem Tmpl.tag_mk:(Tmpl.mk k tg ns ar ky os ks).tag=tg:=Eq.trans rfl rfl
@[simp] theorem Tmpl.names_mk:(Tmpl.mk k tg ns ar ky os ks).names=ns:=Eq.trans rfl rfl
@[simp] theorem Tmpl.args_mk:(Tmpl.mk k tg ns ar ky os ks).args=ar:=Eq.trans rfl rfl
@[simp] theorem Tmpl.key_mk:(Tmpl.mk k tg ns ar ky os ks).key=ky:=Eq.trans rfl rfl
@[simp] theorem Tmpl.ons_mk:(Tmpl.mk k tg ns ar ky os ks).ons=os:=Eq.trans rfl rfl
@[simp] theorem Tmpl.kids_mk:(Tmpl.mk k tg ns ar ky os ks).kids=ks:=Eq.trans rfl rfl
end
section
variable {k tg:Int} {tx:List UInt8} {ps:List Prp} {ks:List Tre}
@[simp] theorem Tre.tag_mk:(Tre.mk tg k tx ps ks).tag=tg:=Eq.trans rfl rfl
@[simp] theorem Tre.key_mk:(Tre.mk tg k tx ps ks).key=k:=Eq.trans rfl rfl
@[simp] theorem Tre.text_mk:(Tre.mk tg k tx ps ks).text=tx:=Eq.trans rfl rfl
@[simp] theorem Tre.props_mk:(Tre.mk tg k tx ps ks).props=ps:=Eq.trans rfl rfl
@[simp] theorem Tre.kids_mk:(Tre.mk tg k tx ps ks).kids=ks:=Eq.trans rfl rfl
end
@[simp] theorem raw_get {α:Type} (pre post:List α) (x:α):(pre++x::post)[pre.length]? =some x:=by
 rw[zH (Nat.le_refl _)];simp
@[simp] theorem raw_set {α:Type} (pre post:List α) (x y:α):(pre++x::post).set pre.length y=pre++y::post:=by
 rw[List.set_append_right _ _ (Nat.le_refl _)];simp
@[simp] theorem op_idxm {sz:Nat} {pre post:List (List D)} {x:List D}:Op1.ev (.idx sz) [.sl sz (pre++x::post), .int .i64 pre.length]=some [.int .i64 pre.length]:=by
 have:(pre.length:Int)<pre.length+((post.length:Int)+1):=by omega
 simp[Op1.ev,this]
@[simp] theorem put_m {off sz:Nat} {fl:Bool} {pre post:List (List D)} {x cs:List D}:putpD off sz fl pre.length cs (.sl sz (pre++x::post))=
  if off+cs.length≤x.length∧(!fl||(((x.drop off).take cs.length).all D.flat&&cs.all D.flat))=true then some (.sl sz (pre++setCells x off cs::post)) else none:=by
 simp only[putpD,raw_get,raw_set,Option.bind_some,true_and]
@[simp] theorem op_atm {o sz:Nat} {pre post:List (List D)} {x:List D}:Op1.ev (.at [o]) [.sl sz (pre++x::post), .int .i64 pre.length]=(x[o]?).map ([·]):=by
 simp only[Op1.ev,mkWay,if_pos (Int.natCast_nonneg _),Int.toNat_natCast,Option.map_some,Option.bind_some,D.at,cellAt,raw_get]
 cases x[o]? <;>rfl
@[simp] theorem op_holem {o sz:Nat} {pre post:List (List D)} {x:List D}:Op1.ev (.hole [o]) [.sl sz (pre++x::post), .int .i64 pre.length]=(x[o]?).map fun _=>[.sl sz (pre++x.set o .dead::post)]:=by
 simp only[Op1.ev,mkWay,if_pos (Int.natCast_nonneg _),Int.toNat_natCast,Option.map_some,Option.bind_some,D.setAt,raw_get,raw_set]
 cases x[o]? <;>rfl
@[simp] theorem op_setm {o sz:Nat} {pre post:List (List D)} {x:List D} {v:D}:Op1.ev (.setAt [o]) [.sl sz (pre++x::post),v, .int .i64 pre.length]=(x[o]?).bind fun old=>(backD [(pre.length,o)] v old).map fun d=>[.sl sz (pre++x.set o d::post)]:=by
 simp only[Op1.ev,mkWay,if_pos (Int.natCast_nonneg _),Int.toNat_natCast,Option.map_some,Option.bind_some,D.setAt,raw_get,raw_set]
 cases h:x[o]? with
 |none=>rfl
 |some d=>simp only[Option.bind_some];cases backD [(pre.length,o)] v d<;>rfl
def mkT0:T:= .go 0 [.v 1, .v 0, .k (.int .i64 0)]
def mkT1 (b:T):T:= .op .len [.v 2] [tI]<| .op (.bin .lss) [.v 1, .v 0] [tB]<| .ite (.v 0) b (.ret [[.v 3],[.v 4]])
def Ch {β:Type} (Q:Int→β→Int→Prop):Int→List β→Int→Prop
 |k,[],k'=>k=k'
 |k,y::t,k'=>∃m,Q k y m∧k≤m∧Ch Q m t k'
theorem Ch.app {β:Type} {Q:Int→β→Int→Prop}:∀{l:List β} {t:List β} {k m k':Int},Ch Q k l m→Ch Q m t k'→Ch Q k (l++t) k'
 | [],_,_,_,_,h1,h2=>by cases h1;exact h2
 |y::l,_,_,_,_,⟨a,h,hl,h1⟩,h2=>⟨a,h,hl,Ch.app h1 h2⟩
def Ok {β:Type}:Int→β→Int→Prop:=fun _ _ _=>True
theorem mark_gen {α:Type} {f sz:Nat} {b:T} {go:Nat→List D→Rs} (it:IsTree tab ext f [[tL sz],[tI]] [[tL sz,tI,tI]] mkT0 [mkT1 b] go) (enc:α→List D) (bulk:α→Nat) (Q:Int→α→Int→Prop) (l:List α)
  (hs:∀(pre post:List (List D)) (x:α) (k:Int) (c c':D),x∈l→0≤k→k+10*((bulk x:Int)+1)≤KMAX→IntKind.wrap .i64 ((pre.length:Int)+1)=pre.length+1→
   ∃(y:α) (k':Int),Q k y k'∧k≤k'∧k'≤k+10*((bulk x:Int)+1)∧evT R go b [c,c', .int .i64 pre.length, .int .i64 k, .sl sz (pre++enc x::post)]=go 0 [.sl sz (pre++enc y::post), .int .i64 k', .int .i64 (pre.length+1)])
  (k:Int) (h0:0≤k) (hk:k+10*(sumL bulk l:Int)≤KMAX):
  ∃(l':List α) (k':Int),Ch Q k l' k'∧k≤k'∧k'≤k+10*(sumL bulk l:Int)∧R f [[.sl sz (l.map enc)],[.int .i64 k]]=some [[.int .i64 k'],[.sl sz (l'.map enc)]]:=by
 have loop:∀(suf:List α) (pre:List (List D)) (k:Int),(∀x∈suf,x∈l)→0≤k→k+10*(sumL bulk suf:Int)≤KMAX→pre.length+suf.length≤most→
   ∃(l':List α) (k':Int),Ch Q k l' k'∧k≤k'∧k'≤k+10*(sumL bulk suf:Int)∧go 0 [.sl sz (pre++suf.map enc), .int .i64 k, .int .i64 pre.length]=some [[.int .i64 k'],[.sl sz (pre++l'.map enc)]]:=by
  intro suf
  induction suf with
  |nil=>
   intro pre k _ h0 _ hl
   refine ⟨[],k,rfl,Int.le_refl _,by omega,it.go 0 _ _ _ _ rfl rfl (by simp[tysOk,Ty.ok]) ?_⟩
   simp[mkT1]
  |cons x t ih=>
   intro pre k hm h0 hk hl
   have e:(sumL bulk (x::t):Int)=(bulk x:Int)+1+sumL bulk t:=by unfold sumL;simp;omega
   rw[e] at hk ⊢
   have hw:=most_wrap (n:=pre.length) (by omega) (by simp at hl;omega)
   obtain ⟨y,k1,hq,hk1,hk2,hev⟩:=hs pre (t.map enc) x k (.bool true) (.int .i64 (pre.length+((t.length:Int)+1))) (hm x (by simp)) h0 (by omega) hw
   obtain ⟨l',k',hc,hk3,hk4,hgo⟩:=ih (pre++[enc y]) k1 (fun z hz=>hm z (by simp[hz])) (by omega) (by omega) (by simp at hl ⊢;omega)
   refine ⟨y::l',k',⟨k1,hq,hk1,hc⟩,by omega,by omega,it.go 0 _ _ _ _ rfl rfl (by simp[tysOk,Ty.ok]) ?_⟩
   simp at hgo
   simp[mkT1,hev,hgo]
 obtain ⟨l',k',hc,hk1,hk2,hgo⟩:=loop l [] k (fun _ h=>h) h0 hk (by
  have:(l.length:Int)≤sumL bulk l:=by unfold sumL;omega
  unfold KMAX at hk;unfold most;simp;omega)
 refine ⟨l',k',hc,hk1,hk2,it.fn _ _ (by simp[outsOk,tysOk,Ty.ok]) ?_⟩
 simp at hgo
 simp[mkT0,hgo]
theorem kw {k:Int} (h0:0≤k) (h1:k≤KMAX):IntKind.wrap .i64 (k+1)=k+1:=wrap64 (by omega) (by unfold KMAX at h1;omega)
theorem R33 (l:List Val) (k:Int) (h0:0≤k) (hk:k+10*(sumL Val.bulk l:Int)≤KMAX):∃(l':List Val) (k':Int),Ch Ok k l' k'∧k≤k'∧k'≤k+10*(sumL Val.bulk l:Int)∧R 33 [[.sl 3 (l.map Val.enc)],[.int .i64 k]]=some [[.int .i64 k'],[.sl 3 (l'.map Val.enc)]]:=by
 refine mark_gen q33.it Val.enc Val.bulk Ok l (fun pre post x k c c' _ h0 hk hw=> ?_) k h0 hk
 have w1:=kw h0 (by omega)
 have w2:=kw (k:=k+1) (by omega) (by omega)
 have w3:=kw (k:=k+1+1) (by omega) (by omega)
 have hm:=R78 (k+1+1) (by omega) (by omega)
 refine ⟨⟨k,k+1,mtext (k+1+1)⟩,k+1+1+1,trivial,by omega,by omega,?_⟩
 simp[w1,w2,w3,hm,hw,setCells]
theorem R37 (l:List Stp) (k:Int) (h0:0≤k) (hk:k+10*(sumL Stp.bulk l:Int)≤KMAX):∃(l':List Stp) (k':Int),Ch Ok k l' k'∧k≤k'∧k'≤k+10*(sumL Stp.bulk l:Int)∧R 37 [[.sl 5 (l.map Stp.enc)],[.int .i64 k]]=some [[.int .i64 k'],[.sl 5 (l'.map Stp.enc)]]:=by
 refine mark_gen q37.it Stp.enc Stp.bulk Ok l (fun pre post x k c c' _ h0 hk hw=> ?_) k h0 hk
 have w1:=kw h0 (by omega)
 have w2:=kw (k:=k+1) (by omega) (by omega)
 have w3:=kw (k:=k+1+1) (by omega) (by omega)
 have w4:=kw (k:=k+1+1+1) (by omega) (by omega)
 have w5:=kw (k:=k+1+1+1+1) (by omega) (by omega)
 have hm:=R78 (k+1+1+1+1) (by omega) (by omega)
 refine ⟨⟨k,k+1,⟨k+1+1,k+1+1+1,mtext (k+1+1+1+1)⟩⟩,k+1+1+1+1+1,trivial,by omega,by omega,?_⟩
 simp[w1,w2,w3,w4,w5,hm,hw,setCells]
theorem R36 (l:List (List Stp)) (k:Int) (h0:0≤k) (hk:k+10*(sumL (sumL Stp.bulk) l:Int)≤KMAX):∃(l':List (List Stp)) (k':Int),Ch Ok k l' k'∧k≤k'∧k'≤k+10*(sumL (sumL Stp.bulk) l:Int)∧R 36 [[.sl 1 (l.map encF)],[.int .i64 k]]=some [[.int .i64 k'],[.sl 1 (l'.map encF)]]:=by
 refine mark_gen q36.it encF (sumL Stp.bulk) Ok l (fun pre post x k c c' _ h0 hk hw=> ?_) k h0 hk
 obtain ⟨y,k',_,hk1,hk2,hy⟩:=R37 x k h0 (by omega)
 refine ⟨y,k',trivial,by omega,by omega,?_⟩
 simp[hy,hw,backD]
theorem R35 (l:List Int) (k:Int) (h0:0≤k) (hk:k+10*(sumL (fun _=>0) l:Int)≤KMAX):∃(l':List Int) (k':Int),Ch Ok k l' k'∧k≤k'∧k'≤k+10*(sumL (fun _=>0) l:Int)∧R 35 [[.sl 1 (l.map encI)],[.int .i64 k]]=some [[.int .i64 k'],[.sl 1 (l'.map encI)]]:=by
 refine mark_gen q35.it encI (fun _=>0) Ok l (fun pre post x k c c' _ h0 hk hw=> ?_) k h0 hk
 have w1:=kw h0 (by omega)
 refine ⟨k,k+1,trivial,by omega,by omega,?_⟩
 simp[w1,hw,setCells]
theorem R38 (l:List On) (k:Int) (h0:0≤k) (hk:k+10*(sumL (fun _=>0) l:Int)≤KMAX):∃(l':List On) (k':Int),Ch Ok k l' k'∧k≤k'∧k'≤k+10*(sumL (fun _=>0) l:Int)∧R 38 [[.sl 2 (l.map On.enc)],[.int .i64 k]]=some [[.int .i64 k'],[.sl 2 (l'.map On.enc)]]:=by
 refine mark_gen q38.it On.enc (fun _=>0) Ok l (fun pre post x k c c' _ h0 hk hw=> ?_) k h0 hk
 have w1:=kw h0 (by omega)
 have w2:=kw (k:=k+1) (by omega) (by omega)
 refine ⟨⟨k,k+1⟩,k+1+1,trivial,by omega,by omega,?_⟩
 simp[w1,w2,hw,setCells]
theorem R40 (l:List Slt) (k:Int) (h0:0≤k) (hk:k+10*(sumL (fun _=>0) l:Int)≤KMAX):∃(l':List Slt) (k':Int),Ch Ok k l' k'∧k≤k'∧k'≤k+10*(sumL (fun _=>0) l:Int)∧R 40 [[.sl 2 (l.map Slt.enc)],[.int .i64 k]]=some [[.int .i64 k'],[.sl 2 (l'.map Slt.enc)]]:=by
 refine mark_gen q40.it Slt.enc (fun _=>0) Ok l (fun pre post x k c c' _ h0 hk hw=> ?_) k h0 hk
 have w1:=kw h0 (by omega)
 have w2:=kw (k:=k+1) (by omega) (by omega)
 refine ⟨⟨k,k+1⟩,k+1+1,trivial,by omega,by omega,?_⟩
 simp[w1,w2,hw,setCells]
theorem R79 (l:List Sett) (k:Int) (h0:0≤k) (hk:k+10*(sumL Sett.bulk l:Int)≤KMAX):∃(l':List Sett) (k':Int),Ch Ok k l' k'∧k≤k'∧k'≤k+10*(sumL Sett.bulk l:Int)∧R 79 [[.sl 2 (l.map Sett.enc)],[.int .i64 k]]=some [[.int .i64 k'],[.sl 2 (l'.map Sett.enc)]]:=by
 refine mark_gen q79.it Sett.enc Sett.bulk Ok l (fun pre post x k c c' _ h0 hk hw=> ?_) k h0 hk
 unfold Sett.bulk at hk ⊢
 have w1:=kw h0 (by omega)
 obtain ⟨y,k',_,hk1,hk2,hy⟩:=R37 x.form (k+1) (by omega) (by omega)
 refine ⟨⟨k,y⟩,k',trivial,by omega,by omega,?_⟩
 simp[w1,hy,hw,setCells,backD]
theorem R34 (l:List (List Sett)) (k:Int) (h0:0≤k) (hk:k+10*(sumL (sumL Sett.bulk) l:Int)≤KMAX):∃(l':List (List Sett)) (k':Int),Ch Ok k l' k'∧k≤k'∧k'≤k+10*(sumL (sumL Sett.bulk) l:Int)∧R 34 [[.sl 1 (l.map encA)],[.int .i64 k]]=some [[.int .i64 k'],[.sl 1 (l'.map encA)]]:=by
 refine mark_gen q34.it encA (sumL Sett.bulk) Ok l (fun pre post x k c c' _ h0 hk hw=> ?_) k h0 hk
 obtain ⟨y,k',_,hk1,hk2,hy⟩:=R79 x k h0 (by omega)
 refine ⟨y,k',trivial,by omega,by omega,?_⟩
 simp[hy,hw,backD]
theorem sumL_zero {α:Type} (l:List α):sumL (fun _=>0) l=l.length:=by
 unfold sumL
 have:(l.map fun _=>0).sum=0:=by induction l with
  |nil=>rfl
  |cons x t ih=>rw[List.map_cons,List.sum_cons,ih]
 omega
theorem markTmplS (l:List Tmpl) (hl:∀x∈l,∀(k:Int),0≤k→k+10*(sumL Tmpl.bulk x.kids:Int)≤KMAX→∃(l':List Tmpl) (k':Int),Ch Ok k l' k'∧k≤k'∧k'≤k+10*(sumL Tmpl.bulk x.kids:Int)∧R 39 [[.sl 7 (x.kids.map Tmpl.enc)],[.int .i64 k]]=some [[.int .i64 k'],[.sl 7 (l'.map Tmpl.enc)]])
  (k:Int) (h0:0≤k) (hk:k+10*(sumL Tmpl.bulk l:Int)≤KMAX):∃(l':List Tmpl) (k':Int),Ch Ok k l' k'∧k≤k'∧k'≤k+10*(sumL Tmpl.bulk l:Int)∧R 39 [[.sl 7 (l.map Tmpl.enc)],[.int .i64 k]]=some [[.int .i64 k'],[.sl 7 (l'.map Tmpl.enc)]]:=by
 refine mark_gen q39.it Tmpl.enc Tmpl.bulk Ok l (fun pre post x k c c' hx h0 hk hw=> ?_) k h0 hk
 have hb:=Tmpl.bulk_eq x
 rw[hb] at hk ⊢
 have w1:=kw h0 (by omega)
 have w2:=kw (k:=k+1) (by omega) (by omega)
 obtain ⟨y1,k1,_,a1,b1,hy1⟩:=R35 x.names (k+1+1) (by omega) (by rw[sumL_zero];omega)
 rw[sumL_zero] at b1
 obtain ⟨y2,k2,_,a2,b2,hy2⟩:=R36 x.args k1 (by omega) (by omega)
 obtain ⟨y3,k3,_,a3,b3,hy3⟩:=R37 x.key k2 (by omega) (by omega)
 obtain ⟨y4,k4,_,a4,b4,hy4⟩:=R38 x.ons k3 (by omega) (by rw[sumL_zero];omega)
 rw[sumL_zero] at b4
 obtain ⟨y5,k5,_,a5,b5,hy5⟩:=hl x hx k4 (by omega) (by omega)
 refine ⟨.mk k (k+1) y1 y2 y3 y4 y5,k5,trivial,by omega,by omega,?_⟩
 rw[Tmpl.enc_eq x,Tmpl.enc]
 simp[w1,w2,hy1,hy2,hy3,hy4,hy5,hw,setCells,backD]
theorem markKids:∀(x:Tmpl) (k:Int),0≤k→k+10*(sumL Tmpl.bulk x.kids:Int)≤KMAX→∃(l':List Tmpl) (k':Int),Ch Ok k l' k'∧k≤k'∧k'≤k+10*(sumL Tmpl.bulk x.kids:Int)∧R 39 [[.sl 7 (x.kids.map Tmpl.enc)],[.int .i64 k]]=some [[.int .i64 k'],[.sl 7 (l'.map Tmpl.enc)]]:=
 Tmpl.ind fun _ _ _ _ _ _ ks ih k h0 hk=>markTmplS ks ih k h0 hk
theorem R13 (l:List Comp) (k:Int) (h0:0≤k) (hk:k+10*(sumL Comp.bulk l:Int)≤KMAX):∃(l':List Comp) (k':Int),Ch Ok k l' k'∧k≤k'∧k'≤k+10*(sumL Comp.bulk l:Int)∧R 13 [[.sl 10 (l.map Comp.enc)],[.int .i64 k]]=some [[.int .i64 k'],[.sl 10 (l'.map Comp.enc)]]:=by
 refine mark_gen q13.it Comp.enc Comp.bulk Ok l (fun pre post x k c c' _ h0 hk hw=> ?_) k h0 hk
 unfold Comp.bulk at hk ⊢
 have hb:=Tmpl.bulk_eq x.body
 rw[hb] at hk ⊢
 have w1:=kw h0 (by omega)
 obtain ⟨z1,j1,_,c1,d1,hz1⟩:=R33 x.states (k+1) (by omega) (by omega)
 obtain ⟨z2,j2,_,c2,d2,hz2⟩:=R34 x.acts j1 (by omega) (by omega)
 have w2:=kw (k:=j2) (by omega) (by omega)
 have w3:=kw (k:=j2+1) (by omega) (by omega)
 obtain ⟨y1,k1,_,a1,b1,hy1⟩:=R35 x.body.names (j2+1+1) (by omega) (by rw[sumL_zero];omega)
 rw[sumL_zero] at b1
 obtain ⟨y2,k2,_,a2,b2,hy2⟩:=R36 x.body.args k1 (by omega) (by omega)
 obtain ⟨y3,k3,_,a3,b3,hy3⟩:=R37 x.body.key k2 (by omega) (by omega)
 obtain ⟨y4,k4,_,a4,b4,hy4⟩:=R38 x.body.ons k3 (by omega) (by rw[sumL_zero];omega)
 rw[sumL_zero] at b4
 obtain ⟨y5,k5,_,a5,b5,hy5⟩:=markKids x.body k4 (by omega) (by omega)
 refine ⟨⟨k,z1,z2, .mk j2 (j2+1) y1 y2 y3 y4 y5⟩,k5,trivial,by omega,by omega,?_⟩
 simp[Comp.enc,w1,w2,w3,hz1,hz2,hy1,hy2,hy3,hy4,hy5,hw,setCells,backD]
theorem R14 (l:List Cell) (k:Int) (h0:0≤k) (hk:k+10*(sumL Cell.bulk l:Int)≤KMAX):∃(l':List Cell) (k':Int),Ch Ok k l' k'∧k≤k'∧k'≤k+10*(sumL Cell.bulk l:Int)∧R 14 [[.sl 2 (l.map Cell.enc)],[.int .i64 k]]=some [[.int .i64 k'],[.sl 2 (l'.map Cell.enc)]]:=by
 refine mark_gen q14.it Cell.enc Cell.bulk Ok l (fun pre post x k c c' _ h0 hk hw=> ?_) k h0 hk
 unfold Cell.bulk at hk ⊢
 obtain ⟨z1,j1,_,c1,d1,hz1⟩:=R40 x.place k (by omega) (by rw[sumL_zero];omega)
 rw[sumL_zero] at d1
 obtain ⟨z2,j2,_,c2,d2,hz2⟩:=R33 x.states j1 (by omega) (by omega)
 refine ⟨⟨z1,z2⟩,j2,trivial,by omega,by omega,?_⟩
 simp[hz1,hz2,hw,backD]
def Tre.bulk:Tre→Nat
 | .mk _ _ _ ps ks=>ps.length+(ks.length+(ks.map Tre.bulk).sum)
theorem Tre.bulk_eq (t:Tre):t.bulk=t.props.length+sumL Tre.bulk t.kids:=by
 cases t
 rw[Tre.bulk]
 rfl
def PrpHeld (k:Int) (p:Prp) (k':Int):Prop:=p=⟨k,⟨k+1,k+1+1,mtext (k+1+1+1)⟩⟩∧k'=k+1+1+1+1∧k+10≤KMAX
theorem R41 (l:List Prp) (k:Int) (h0:0≤k) (hk:k+10*(sumL (fun _=>0) l:Int)≤KMAX):∃(l':List Prp) (k':Int),Ch PrpHeld k l' k'∧k≤k'∧k'≤k+10*(sumL (fun _=>0) l:Int)∧R 41 [[.sl 4 (l.map Prp.enc)],[.int .i64 k]]=some [[.int .i64 k'],[.sl 4 (l'.map Prp.enc)]]:=by
 refine mark_gen q41.it Prp.enc (fun _=>0) PrpHeld l (fun pre post x k c c' _ h0 hk hw=> ?_) k h0 hk
 have w1:=kw h0 (by omega)
 have w2:=kw (k:=k+1) (by omega) (by omega)
 have w3:=kw (k:=k+1+1) (by omega) (by omega)
 have w4:=kw (k:=k+1+1+1) (by omega) (by omega)
 have hm:=R78 (k+1+1+1) (by omega) (by omega)
 refine ⟨⟨k,⟨k+1,k+1+1,mtext (k+1+1+1)⟩⟩,k+1+1+1+1,⟨rfl,rfl,by omega⟩,by omega,by omega,?_⟩
 simp[w1,w2,w3,w4,hm,hw,setCells]
def hdT0:T:= .go 0 [.v 1, .v 0, .k (.int .i64 0)]
def hdT1 (b:T):T:= .op .len [.v 2] [tI]<| .op (.bin .lss) [.v 1, .v 0] [tB]<| .ite (.v 0) b (.ret [[.v 3]])
theorem held_gen {β:Type} {f sz:Nat} {b:T} {go:Nat→List D→Rs} (it:IsTree tab ext f [[tL sz],[tI]] [[tL sz,tI,tI]] hdT0 [hdT1 b] go) (enc:β→List D) (Q:Int→β→Int→Prop)
  (hs:∀(pre post:List β) (y:β) (k k':Int) (c c':D),0≤k→Q k y k'→IntKind.wrap .i64 ((pre.length:Int)+1)=pre.length+1→
   evT R go b [c,c', .int .i64 pre.length, .int .i64 k, .sl sz (pre.map enc++enc y::post.map enc)]=go 0 [.sl sz (pre.map enc++enc y::post.map enc), .int .i64 k', .int .i64 (pre.length+1)])
  (l:List β) (hl:l.length≤most) (k k':Int) (h0:0≤k) (hc:Ch Q k l k'):R f [[.sl sz (l.map enc)],[.int .i64 k]]=some [[.int .i64 k']]:=by
 have loop:∀(suf pre:List β) (k:Int),0≤k→(pre++suf).length≤most→Ch Q k suf k'→go 0 [.sl sz ((pre++suf).map enc), .int .i64 k, .int .i64 pre.length]=some [[.int .i64 k']]:=by
  intro suf
  induction suf with
  |nil=>
   intro pre k _ _ hc
   cases hc
   refine it.go 0 _ _ _ _ rfl rfl (by simp[tysOk,Ty.ok]) ?_
   simp[hdT1]
  |cons y t ih=>
   intro pre k h0 hl hc
   obtain ⟨m,hq,hm,hc⟩:=hc
   have hw:=most_wrap (n:=pre.length) (by omega) (by simp at hl;omega)
   have ih:=ih (pre++[y]) m (by omega) (by simpa using hl) hc
   have hev:=hs pre t y k m (.bool true) (.int .i64 (pre.length+((t.length:Int)+1))) h0 hq hw
   refine it.go 0 _ _ _ _ rfl rfl (by simp[tysOk,Ty.ok]) ?_
   simp at ih
   simp[hdT1,hev,ih]
 refine it.fn _ _ (by simp[outsOk,tysOk,Ty.ok]) ?_
 have:=loop l [] k h0 hl hc
 simp at this
 simp[hdT0,this]
theorem R43 (l:List Prp) (hl:l.length≤most) (k k':Int) (h0:0≤k) (hc:Ch PrpHeld k l k'):R 43 [[.sl 4 (l.map Prp.enc)],[.int .i64 k]]=some [[.int .i64 k']]:=by
 refine held_gen q43.it Prp.enc PrpHeld (fun pre post y k k' c c' h0 hq hw=> ?_) l hl k k' h0 hc
 obtain ⟨rfl,rfl,hk⟩:=hq
 have w1:=kw h0 (by omega)
 have w2:=kw (k:=k+1) (by omega) (by omega)
 have w3:=kw (k:=k+1+1) (by omega) (by omega)
 have w4:=kw (k:=k+1+1+1) (by omega) (by omega)
 have hm:=R78 (k+1+1+1) (by omega) (by omega)
 simp[w1,w2,w3,w4,hm,hw]
theorem Ch.len {α:Type} {Q:Int→α→Int→Prop} {c:Int} (h:∀k y m,Q k y m→k+c≤m):∀{l:List α} {k k':Int},Ch Q k l k'→k+c*l.length≤k'
 | [],_,_,e=>by cases e;simp
 |y::t,k,k',⟨m,hq,_,hc⟩=>by
  have:=h k y m hq
  have:=Ch.len h hc
  simp[Int.mul_add]
  omega
def TreHeld (k:Int) (t:Tre) (k':Int):Prop:=t.tag=k∧t.key=k+1∧t.text=mtext (k+1+1)∧k+10≤KMAX∧k+1≤k'∧∃k1,0≤k1∧R 43 [[.sl 4 (t.props.map Prp.enc)],[.int .i64 (k+1+1+1)]]=some [[.int .i64 k1]]∧0≤k'∧R 44 [[.sl 5 (t.kids.map Tre.enc)],[.int .i64 k1]]=some [[.int .i64 k']]
theorem R44 (l:List Tre) (hl:l.length≤most) (k k':Int) (h0:0≤k) (hc:Ch TreHeld k l k'):R 44 [[.sl 5 (l.map Tre.enc)],[.int .i64 k]]=some [[.int .i64 k']]:=by
 refine held_gen q44.it Tre.enc TreHeld (fun pre post y k k' c c' h0 hq hw=> ?_) l hl k k' h0 hc
 obtain ⟨e1,e2,e3,hk,_,k1,hk1,hp,hk',ht⟩:=hq
 have w1:=kw h0 (by omega)
 have w2:=kw (k:=k+1) (by omega) (by omega)
 have w3:=kw (k:=k+1+1) (by omega) (by omega)
 have hm:=R78 (k+1+1) (by omega) (by omega)
 have n1:¬ k1<0:=by omega
 have n2:¬ k'<0:=by omega
 rw[Tre.enc_eq y,e1,e2,e3]
 simp[w1,w2,w3,hm,hw,hp,ht,n1,n2]
def MarkedKids (x:Tre):Prop:=∀(k:Int),0≤k→k+10*(sumL Tre.bulk x.kids:Int)≤KMAX→∃(l':List Tre) (k':Int),Ch TreHeld k l' k'∧k≤k'∧k'≤k+10*(sumL Tre.bulk x.kids:Int)∧R 42 [[.sl 5 (x.kids.map Tre.enc)],[.int .i64 k]]=some [[.int .i64 k'],[.sl 5 (l'.map Tre.enc)]]
theorem PrpHeld.len {l:List Prp} {k k':Int} (h:Ch PrpHeld k l k') (hk:k'≤KMAX) (h0:0≤k):l.length≤most:=by
 have:=h.len (c:=1) (fun k y m h=>by obtain ⟨_,rfl,_⟩:=h;omega)
 unfold KMAX at hk;unfold most;omega
theorem TreHeld.len {l:List Tre} {k k':Int} (h:Ch TreHeld k l k') (hk:k'≤KMAX) (h0:0≤k):l.length≤most:=by
 have:=h.len (c:=1) (fun k y m h=>h.2.2.2.2.1)
 unfold KMAX at hk;unfold most;omega
theorem R42 (l:List Tre) (hl:∀x∈l,MarkedKids x) (k:Int) (h0:0≤k) (hk:k+10*(sumL Tre.bulk l:Int)≤KMAX):∃(l':List Tre) (k':Int),Ch TreHeld k l' k'∧k≤k'∧k'≤k+10*(sumL Tre.bulk l:Int)∧R 42 [[.sl 5 (l.map Tre.enc)],[.int .i64 k]]=some [[.int .i64 k'],[.sl 5 (l'.map Tre.enc)]]:=by
 refine mark_gen q42.it Tre.enc Tre.bulk TreHeld l (fun pre post x k c c' hx h0 hk hw=> ?_) k h0 hk
 have hb:=Tre.bulk_eq x
 rw[hb] at hk ⊢
 have w1:=kw h0 (by omega)
 have w2:=kw (k:=k+1) (by omega) (by omega)
 have w3:=kw (k:=k+1+1) (by omega) (by omega)
 have hm:=R78 (k+1+1) (by omega) (by omega)
 obtain ⟨y1,k1,q1,a1,b1,hy1⟩:=R41 x.props (k+1+1+1) (by omega) (by rw[sumL_zero];omega)
 rw[sumL_zero] at b1
 obtain ⟨y2,k2,q2,a2,b2,hy2⟩:=hl x hx k1 (by omega) (by omega)
 have g1:=R43 y1 (PrpHeld.len q1 (by omega) (by omega)) _ _ (by omega) q1
 have g2:=R44 y2 (TreHeld.len q2 (by omega) (by omega)) _ _ (by omega) q2
 refine ⟨.mk k (k+1) (mtext (k+1+1)) y1 y2,k2,⟨rfl,rfl,rfl,by omega,by omega,k1,by omega,g1,by omega,g2⟩,by omega,by omega,?_⟩
 rw[Tre.enc_eq x,Tre.enc]
 simp[w1,w2,w3,hm,hy1,hy2,hw,setCells,backD]
theorem markedKids:∀x:Tre,MarkedKids x:=Tre.ind fun _ _ _ _ ks ih k h0 hk=>R42 ks ih k h0 hk
theorem R15 (t:Tre) (hb:t.bulk≤100000000):∃(ps:List Prp) (ks:List Tre) (k':Int),0≤k'∧R 15 [t.enc,[.int .i64 1]]=some [[.int .i64 k'],[.sl 4 (ps.map Prp.enc), .sl 5 (ks.map Tre.enc)]]∧
  ∀tag key text,R 16 [[.int .i64 tag, .int .i64 key, .str text, .sl 4 (ps.map Prp.enc), .sl 5 (ks.map Tre.enc)],[.int .i64 1]]=some [[.int .i64 k']]:=by
 have hK:KMAX=4294967296:=rfl
 rw[Tre.bulk_eq] at hb
 obtain ⟨y1,k1,q1,a1,b1,hy1⟩:=R41 t.props 1 (by omega) (by rw[sumL_zero];omega)
 rw[sumL_zero] at b1
 obtain ⟨y2,k2,q2,a2,b2,hy2⟩:=R42 t.kids (fun x _=>markedKids x) k1 (by omega) (by omega)
 have g1:=R43 y1 (PrpHeld.len q1 (by omega) (by omega)) _ _ (by omega) q1
 have g2:=R44 y2 (TreHeld.len q2 (by omega) (by omega)) _ _ (by omega) q2
 refine ⟨y1,y2,k2,by omega,q15.it.fn _ _ (by rw[Tre.enc_eq];rfl) ?_,fun tag key text=>q16.f rfl ?_⟩
 ·rw[Tre.enc_eq]
  simp[t15_0,hy1,hy2]
 ·have n1:¬ k1<0:=by omega
  have n2:¬ k2<0:=by omega
  simp[t16_0,g1,g2,n1,n2]
set_option maxRecDepth 100000
theorem room_of_bulk:∀t:Tre,t.bulk≤most→t.room:=by
 refine Tre.ind fun tg k s ps ks ih hb=> ?_
 rw[Tre.bulk_eq] at hb
 simp at hb
 exact .mk (by omega) (zS (sumL_len (f:=Tre.bulk) (n:=most) (by omega)) (Nat.le_refl _)) fun x hx=>ih x hx (sumL_mem (f:=Tre.bulk) (n:=most) (by omega) hx)
theorem R3 (P:List Comp) (S:List Cell) (hP:lmem Comp.mem P) (hS:lmem Cell.mem S)
  (h:sumL Comp.bulk P≤BULK→sumL Cell.bulk S≤BULK→∃t:Tre,t.bulk≤100000000∧R 6 [[.sl 10 (P.map Comp.enc)],[.sl 2 (S.map Cell.enc)]]=some [t.enc]∧R 9 [[.sl 10 (P.map Comp.enc)],[.sl 2 (S.map Cell.enc)]]=some [t.enc]):
  R 3 [[.sl 10 (P.map Comp.enc)],[.sl 2 (S.map Cell.enc)]]=some [[.bool true]]:=by
 have s1:=R4 P 1048576 hP (by omega) (by unfold ROOM;omega)
 refine q3.f rfl ?_
 by_cases hb1:sumL Comp.bulk P≤BULK
 ·have e1:left (sumL Comp.bulk P) 1048576=1048576-(sumL Comp.bulk P:Nat):=by unfold left;unfold BULK at hb1;rw[if_pos (by omega)]
  have p1:¬ left (sumL Comp.bulk P) 1048576<0:=by rw[e1];unfold BULK at hb1;omega
  have s2:=R5 S (left (sumL Comp.bulk P) 1048576) hS (by omega) (by rw[e1];unfold ROOM;omega)
  by_cases hb2:left (sumL Cell.bulk S) (left (sumL Comp.bulk P) 1048576)<0
  ·simp[t3_0,s1,p1,s2,hb2]
  ·have hb2':sumL Cell.bulk S≤BULK:=by
    rw[e1] at hb2
    unfold left at hb2
    unfold BULK
    split at hb2<;>omega
   obtain ⟨t,hB,hd1,hd2⟩:=h hb1 hb2'
   have hr:=room_of_bulk t (by unfold most;omega)
   have q1:=R10 t hr
   have hK:KMAX=4294967296:=rfl
   unfold BULK at hb1 hb2'
   obtain ⟨P',j1,_,a1,b1,m1⟩:=R13 P 1 (by omega) (by omega)
   obtain ⟨S',j2,_,a2,b2,m2⟩:=R14 S j1 (by omega) (by omega)
   obtain ⟨ps,ks,k',hk',m3,m4⟩:=R15 t hB
   have n1:¬ j2<0:=by omega
   have n2:¬ k'<0:=by omega
   rw[Tre.enc_eq] at q1 m3 hd1 hd2
   have c1:=R7 P (by unfold BULK;omega)
   have c2:=R8 S (by unfold BULK;omega)
   have c3:=R11 P (by unfold BULK;omega)
   have c4:=R12 S (by unfold BULK;omega)
   simp[t3_0,s1,p1,s2,hb2,c1,c2,c3,c4,hd1,hd2,q1,m1,m2,m3,m4,n1,n2]
 ·have p1:left (sumL Comp.bulk P) 1048576<0:=by unfold left;unfold BULK at hb1;rw[if_neg (by omega)];omega
  simp[t3_0,s1,p1]
set_option maxRecDepth 100000
theorem inR_iff {n lo hi:Int}:inR n lo hi=true↔lo≤n∧n≤hi:=by simp[inR]
def incOk (p:Option Int) (n:Int):Bool:=match p with
 |some p=>decide (p<n)
 |none=>true
def namesFrom:Option Int→List Int→Bool
 |_,[]=>true
 |p,n::t=>inR n 0 3&&(incOk p n&&namesFrom (some n) t)
def onsFrom (na:Int):Option Int→List On→Bool
 |_,[]=>true
 |p,x::t=>inR x.event 0 2&&(inR x.act 0 (na-1)&&(incOk p x.event&&onsFrom na (some x.event) t))
theorem drop_cons {α:Type} {l t:List α} {x:α} {n:Nat} (h:l.drop n=x::t):l[n]? =some x∧n<l.length∧l.drop (n+1)=t:=by
 have hn:n<l.length:=by
  rcases zJ n l.length with h1|h1
  ·exact h1
  ·rw[List.drop_eq_nil_of_le h1] at h;cases h
 have e:=List.drop_eq_getElem_cons hn
 rw[h] at e
 injection e with e1 e2
 exact ⟨by rw[zB hn,e1],hn,e2.symm⟩
theorem drop_nil {α:Type} {l:List α} {n:Nat} (h:l.drop n=[]) (hn:n≤l.length):n=l.length:=by
 have:=congrArg List.length h
 simp at this
 omega
def ahead {α:Type} (l:List α) (n:Nat):Option α:=if n=0 then none else l[n-1]?
theorem ahead_succ {α:Type} {l:List α} {n:Nat} {x:α} (h:l[n]? =some x):ahead l (n+1)=some x:=by simp[ahead,h]
theorem G125 (l:List Int) (hl:l.length≤most):∀(suf:List Int) (n:Nat),n≤l.length→l.drop n=suf→q125.go 0 [.sl 1 (l.map encI), .int .i64 n]=some [[.bool (namesFrom (ahead l n) suf)]]:=by
 intro suf
 induction suf with
 |nil=>
  intro n hn hd
  have:=drop_nil hd hn
  subst this
  refine q125.g 0 rfl rfl rfl ?_
  simp[t125_1,namesFrom]
 |cons x t ih=>
  intro n hn hd
  obtain ⟨hx,hlt,hd'⟩:=drop_cons hd
  have hg:l[n]=x:=by rw[zB hlt] at hx;injection hx
  refine q125.g 0 rfl rfl rfl ?_
  have hw:=most_wrap (n:=n) (by omega) (by omega)
  have ih:=ih (n+1) hlt hd'
  rw[ahead_succ hx] at ih
  simp at ih
  cases hr:inR x 0 3
  ·simp[t125_1,R49,hg,hlt,hr,namesFrom]
  ·by_cases hz:n=0
   ·have hz':¬ 0<n:=by omega
    have ha:ahead l n=none:=by simp[ahead,hz]
    simp[t125_1,R49,hg,hlt,hr,namesFrom,incOk,hz',ha,hw,ih]
   ·have hz':0<n:=by omega
    have hw2:IntKind.wrap .i64 ((n:Int)-1)=((n-1:Nat):Int):=by unfold most at hl;rw[wrap64]<;>omega
    obtain ⟨y,hy⟩:∃y,l[n-1]? =some y:=⟨l[n-1]'(by omega),zB (by omega)⟩
    have ha:ahead l n=some y:=by simp[ahead,hz,hy]
    by_cases hzx:x≤y
    ·have h':¬ y<x:=by omega
     simp[t125_1,R49,hg,hlt,hr,namesFrom,incOk,hz',hw2,hy,ha,hzx,h']
    ·have h':y<x:=by omega
     simp[t125_1,R49,hg,hlt,hr,namesFrom,incOk,hz',hw2,hy,ha,hzx,h',hw,ih]
theorem R125 (l:List Int) (hl:l.length≤most):R 125 [[.sl 1 (l.map encI)]]=some [[.bool (namesFrom none l)]]:=by
 refine q125.f rfl ?_
 have:=G125 l hl l 0 (by omega) rfl
 simp[ahead] at this
 simp[t125_0,this]
theorem G126 (l:List On) (na:Int) (hna:smallI na) (hl:l.length≤most):∀(suf:List On) (n:Nat),n≤l.length→l.drop n=suf→q126.go 0 [.sl 2 (l.map On.enc), .int .i64 na, .int .i64 n]=some [[.bool (onsFrom na ((ahead l n).map On.event) suf)]]:=by
 intro suf
 have hs:=small_sub hna
 induction suf with
 |nil=>
  intro n hn hd
  have:=drop_nil hd hn
  subst this
  refine q126.g 0 rfl rfl rfl ?_
  simp[t126_1,onsFrom]
 |cons x t ih=>
  intro n hn hd
  obtain ⟨hx,hlt,hd'⟩:=drop_cons hd
  have hg:l[n]=x:=by rw[zB hlt] at hx;injection hx
  refine q126.g 0 rfl rfl rfl ?_
  have hw:=most_wrap (n:=n) (by omega) (by omega)
  have ih:=ih (n+1) hlt hd'
  rw[ahead_succ hx] at ih
  simp at ih
  cases hr:inR x.event 0 2
  ·simp[t126_1,R49,hg,hlt,hr,onsFrom]
  ·cases hr2:inR x.act 0 (na-1)
   ·simp[t126_1,R49,hg,hlt,hr,hr2,hs,onsFrom]
   ·by_cases hz:n=0
    ·have hz':¬ 0<n:=by omega
     have ha:ahead l n=none:=by simp[ahead,hz]
     simp[t126_1,R49,hg,hlt,hr,hr2,hs,onsFrom,incOk,hz',ha,hw,ih]
    ·have hz':0<n:=by omega
     have hw2:IntKind.wrap .i64 ((n:Int)-1)=((n-1:Nat):Int):=by unfold most at hl;rw[wrap64]<;>omega
     obtain ⟨y,hy⟩:∃y,l[n-1]? =some y:=⟨l[n-1]'(by omega),zB (by omega)⟩
     have ha:ahead l n=some y:=by simp[ahead,hz,hy]
     by_cases hzx:x.event≤y.event
     ·have h':¬ y.event<x.event:=by omega
      simp[t126_1,R49,hg,hlt,hr,hr2,hs,onsFrom,incOk,hz',hw2,hy,ha,hzx,h']
     ·have h':y.event<x.event:=by omega
      simp[t126_1,R49,hg,hlt,hr,hr2,hs,onsFrom,incOk,hz',hw2,hy,ha,hzx,h',hw,ih]
theorem R126 (l:List On) (na:Int) (hna:smallI na) (hl:l.length≤most):R 126 [[.sl 2 (l.map On.enc)],[.int .i64 na]]=some [[.bool (onsFrom na none l)]]:=by
 refine q126.f rfl ?_
 have:=G126 l na hna hl l 0 (by omega) rfl
 simp[ahead] at this
 simp[t126_0,this]
def loK (k:Int):Int:=if k=2∨k=3 then 1 else 0
def hiK (k:Int):Int:=if k=0∨k=4 then 0 else if k=2 then 2 else if k=3 then 1 else 4
theorem R89 (k:Int):R 89 [[.int .i64 k]]=some [[.int .i64 (loK k), .int .i64 (hiK k)]]:=by
 refine q89.f rfl ?_
 unfold loK hiK
 by_cases h0:k=0
 ·subst h0;simp[t89_0]
 by_cases h4:k=4
 ·subst h4;simp[t89_0]
 by_cases h2:k=2
 ·subst h2;simp[t89_0]
 by_cases h3:k=3
 ·subst h3;simp[t89_0]
 simp[t89_0,h0,h4,h2,h3]
theorem G91 (p s it:Int) (hp:smallI p) (hs:smallI s) (ht:smallI it) (l:List (List Stp)) (hl:l.length≤most):∀(suf:List (List Stp)) (n:Nat),n≤l.length→l.drop n=suf→
  q91.go 0 [.sl 1 (l.map encF), .int .i64 p, .int .i64 s, .int .i64 it, .int .i64 n]=some [[.bool (suf.all fun f=>formOk f p s it)]]:=by
 intro suf
 induction suf with
 |nil=>
  intro n hn hd
  have:=drop_nil hd hn
  subst this
  refine q91.g 0 rfl rfl rfl ?_
  simp[t91_1]
 |cons x t ih=>
  intro n hn hd
  obtain ⟨hx,hlt,hd'⟩:=drop_cons hd
  have hg:l[n]=x:=by rw[zB hlt] at hx;injection hx
  refine q91.g 0 rfl rfl rfl ?_
  have hw:=most_wrap (n:=n) (by omega) (by omega)
  have ih:=ih (n+1) hlt hd'
  simp at ih
  have hf:=R88 x p s it hp hs ht
  cases hr:formOk x p s it
  ·simp[t91_1,hf,hg,hlt,hr]
  ·simp[t91_1,hf,hg,hlt,hr,hw,ih]
theorem R91 (p s it:Int) (hp:smallI p) (hs:smallI s) (ht:smallI it) (l:List (List Stp)) (hl:l.length≤most):
  R 91 [[.sl 1 (l.map encF)],[.int .i64 p],[.int .i64 s],[.int .i64 it]]=some [[.bool (l.all fun f=>formOk f p s it)]]:=by
 refine q91.f rfl ?_
 have:=G91 p s it hp hs ht l hl l 0 (by omega) rfl
 simp at this
 simp[t91_0,this]
def badHead (t:Tmpl):Bool:=(!decide (t.kind=1)&&(decide (0<t.names.length)||decide (0<t.ons.length)))||(!decide (t.kind=3)&&decide (0<t.key.length))
def propsAt (P:List Comp) (n:Int):Option Int:=(P[n.toNat]?).map Comp.props
def goodHead (P:List Comp) (i:Nat) (c:Comp) (t:Tmpl):Bool:=
 if t.kind=0∨t.kind=2∨t.kind=3 then decide (t.tag=0)&&decide (t.args.length=1)
 else if t.kind=1 then inR t.tag 0 4&&(decide (t.names.length=t.args.length)&&(namesFrom none t.names&&onsFrom c.acts.length none t.ons))
 else if t.kind=4 then inR t.tag (i+1) (P.length-1)&&decide (propsAt P t.tag=some (t.args.length:Int))
 else if t.kind=5 then inR t.tag 0 1&&decide (t.args.length=1) else false
def Tmpl.sm (t:Tmpl):Prop:=t.names.length≤most∧t.args.length≤most∧t.key.length≤most∧t.ons.length≤most∧t.kids.length≤most
theorem Comp.enc_len (c:Comp):c.enc.length=10:=rfl
theorem G90 (P:List Comp) (hP:P.length≤1000) (i:Nat) (c:Comp) (hc:P[i]? =some c) (hca:c.acts.length≤1000000) (t:Tmpl) (ht:t.sm) (b:Bool):
  q90.go 0 [.sl 10 (P.map Comp.enc), .int .i64 i, .int .i64 t.kind, .int .i64 t.tag, .sl 1 (t.names.map encI), .sl 1 (t.args.map encF), .sl 5 (t.key.map Stp.enc), .sl 2 (t.ons.map On.enc), .sl 7 (t.kids.map Tmpl.enc), .bool b]=some [[.bool (!b&&goodHead P i c t)]]:=by
 obtain ⟨t1,t2,t3,t4,t5⟩:=ht
 have hi:i<P.length:=by
  rcases zJ i P.length with h|h
  ·exact h
  ·rw[zG h] at hc;cases hc
 have hg:P[i]=c:=by rw[zB hi] at hc;injection hc
 refine q90.g 0 rfl rfl rfl ?_
 have l1:decide ((t.args.length:Int)=1)=decide (t.args.length=1):=by rw[decide_eq_decide];omega
 cases b
 ·by_cases k0:t.kind=0
  ·by_cases g:t.tag=0<;>simp[t90_1,goodHead,k0,g,l1]
  by_cases k2:t.kind=2
  ·by_cases g:t.tag=0<;>simp[t90_1,goodHead,k2,g,l1]
  by_cases k3:t.kind=3
  ·by_cases g:t.tag=0<;>simp[t90_1,goodHead,k3,g,l1]
  by_cases k1:t.kind=1
  ·cases g:inR t.tag 0 4
   ·simp[t90_1,goodHead,k1,g,R49]
   ·by_cases g2:t.names.length=t.args.length
    ·have v1:=R125 t.names t1
     have v2:=R126 t.ons c.acts.length ⟨by omega,by omega⟩ t4
     cases g3:namesFrom none t.names
     ·simp[t90_1,goodHead,k1,g,g2,g3,v1,R49]
     ·simp[t90_1,goodHead,k1,g,g2,g3,v1,v2,R49,hi,hg,Comp.enc]
    ·have g2':¬ (t.args.length:Int)=t.names.length:=by omega
     simp[t90_1,goodHead,k1,g,g2,g2',R49]
  by_cases k4:t.kind=4
  ·have w1:IntKind.wrap .i64 ((i:Int)+1)=i+1:=wrap64 (by omega) (by omega)
   have w2:IntKind.wrap .i64 ((P.length:Int)-1)=P.length-1:=wrap64 (by omega) (by omega)
   cases g:inR t.tag (i+1) (P.length-1)
   ·simp[t90_1,goodHead,k4,g,w1,w2,R49]
   ·obtain ⟨g1,g2⟩:=inR_iff.1 g
    have hk:t.tag.toNat<P.length:=by omega
    have h0:0≤t.tag:=by omega
    have he:decide ((t.args.length:Int)=(P[t.tag.toNat]).props)=decide ((P[t.tag.toNat]).props=(t.args.length:Int)):=by rw[decide_eq_decide];exact eq_comm
    simp[t90_1,goodHead,k4,g,w1,w2,R49,h0,hk,Comp.enc,propsAt,he]
  by_cases k5:t.kind=5
  ·cases g:inR t.tag 0 1<;>simp[t90_1,goodHead,k5,g,R49,l1]
  simp[t90_1,goodHead,k0,k1,k2,k3,k4,k5]
 ·simp[t90_1]
theorem R90 (P:List Comp) (hP:P.length≤1000) (i:Nat) (c:Comp) (hc:P[i]? =some c) (hca:c.acts.length≤1000000) (t:Tmpl) (ht:t.sm):
  R 90 [[.sl 10 (P.map Comp.enc)],[.int .i64 i],t.enc]=some [[.bool (!badHead t&&goodHead P i c t)]]:=by
 have hG:=G90 P hP i c hc hca t ht
 rw[Tmpl.enc_eq]
 refine q90.f rfl ?_
 unfold badHead
 by_cases k1:t.kind=1
 ·simp only[k1] at hG ⊢
  simp[t90_0,k1,hG]
 by_cases k3:t.kind=3
 ·simp only[k3] at hG ⊢
  by_cases h1:0<t.names.length
  ·simp[t90_0,h1,hG]
  by_cases h2:0<t.ons.length
  ·simp[t90_0,h1,h2,hG]
  ·simp[t90_0,h1,h2,hG]
 by_cases h1:0<t.names.length
 ·simp[t90_0,k1,k3,h1,hG]
 by_cases h2:0<t.ons.length
 ·simp[t90_0,k1,k3,h1,h2,hG]
 ·simp[t90_0,k1,k3,h1,h2,hG]
theorem sm_of_bulk {t:Tmpl} (h:t.bulk≤BULK):t.sm:=by
 rw[Tmpl.bulk_eq] at h
 have hb:BULK≤most:=by decide
 exact ⟨by omega,zS (sumL_len (f:=sumL Stp.bulk) (n:=BULK) (by omega)) hb,zS (sumL_len (f:=Stp.bulk) (n:=BULK) (by omega)) hb,by omega,zS (sumL_len (f:=Tmpl.bulk) (n:=BULK) (by omega)) hb⟩
theorem kid_bulk {t:Tmpl} (h:t.bulk≤BULK) {x:Tmpl} (hx:x∈t.kids):x.bulk≤BULK:=by
 rw[Tmpl.bulk_eq] at h
 exact sumL_mem (f:=Tmpl.bulk) (n:=BULK) (by omega) hx
def okAt (P:List Comp) (i:Nat) (c:Comp) (t:Tmpl) (d it:Int) (kidsOk:Bool):Bool:=
 decide (d≤4)&&((!badHead t&&goodHead P i c t)&&(inR t.kids.length (loK t.kind) (hiK t.kind)&&((t.args.all fun f=>formOk f c.props c.states.length it)&&
  ((!decide (t.kind=3)||(decide (t.key.length=0)||formOk t.key c.props c.states.length (it+1)))&&kidsOk))))
def itIn (t:Tmpl) (it:Int):Int:=if t.kind=3 then it+1 else it
def Tmpl.ok (P:List Comp) (i:Nat) (c:Comp):Tmpl→Int→Int→Bool
 | .mk k tg ns ar ky os ks=>fun d it=>okAt P i c (.mk k tg ns ar ky os ks) d it ((ks.map fun x=>Tmpl.ok P i c x (d+1) (itIn (.mk k tg ns ar ky os ks) it)).all id)
theorem Tmpl.ok_eq (P:List Comp) (i:Nat) (c:Comp) (t:Tmpl) (d it:Int):t.ok P i c d it=okAt P i c t d it (t.kids.all fun x=>x.ok P i c (d+1) (itIn t it)):=by
 cases t
 rw[Tmpl.ok]
 simp only[List.all_map,Tmpl.kids_mk]
 rfl
theorem G52 (P:List Comp) (i:Nat) (d it:Int) (hd:smallI d) (t:Tmpl) (ht:t.sm) (f:Tmpl→Bool) (hk:∀x∈t.kids,R 52 [[.sl 10 (P.map Comp.enc)],[.int .i64 i],x.enc,[.int .i64 (d+1)],[.int .i64 it]]=some [[.bool (f x)]]):∀(suf:List Tmpl) (n:Nat),n≤t.kids.length→t.kids.drop n=suf→
  q52.go 0 [.sl 10 (P.map Comp.enc), .int .i64 i, .int .i64 d, .int .i64 it, .int .i64 t.kind, .int .i64 t.tag, .sl 1 (t.names.map encI), .sl 1 (t.args.map encF), .sl 5 (t.key.map Stp.enc), .sl 2 (t.ons.map On.enc), .sl 7 (t.kids.map Tmpl.enc), .int .i64 n]=some [[.bool (suf.all f)]]:=by
 intro suf
 obtain ⟨_,_,_,_,hl⟩:=ht
 have hs:=small_add hd
 induction suf with
 |nil=>
  intro n hn hd
  have:=drop_nil hd hn
  subst this
  refine q52.g 0 rfl rfl rfl ?_
  simp[t52_1]
 |cons x t ih=>
  intro n hn hd
  obtain ⟨hx,hlt,hd'⟩:=drop_cons hd
  have hm:=hk x (zF hx)
  have hg:=hx
  rw[zB hlt] at hg
  injection hg with hg
  refine q52.g 0 rfl rfl rfl ?_
  have hw:=most_wrap (n:=n) (by omega) (by omega)
  have ih:=ih (n+1) hlt hd'
  simp at ih
  rw[Tmpl.enc_eq] at hm
  have he:Tmpl.enc x=_:=Tmpl.enc_eq x
  cases hr:f x
  ·rw[hr] at hm
   simp[t52_1,hg,hlt,hs,he,hm,hr]
  ·rw[hr] at hm
   simp[t52_1,hg,hlt,hs,he,hm,hr,hw,ih]
theorem smallL {n k:Int} (h0: -1000000≤n) (h:n≤k) (hk:k≤1000000):smallI n:=⟨h0,by omega⟩
theorem R52 (P:List Comp) (hP:P.length≤1000) (i:Nat) (c:Comp) (hc:P[i]? =some c) (hca:c.acts.length≤1000000) (hcp:smallI c.props) (hcs:c.states.length≤1000000):∀(t:Tmpl),t.bulk≤BULK→∀d it:Int,d≤5→0≤it→it<d→
  R 52 [[.sl 10 (P.map Comp.enc)],[.int .i64 i],t.enc,[.int .i64 d],[.int .i64 it]]=some [[.bool (t.ok P i c d it)]]:=by
 refine Tmpl.ind fun k tg ns ar ky os ks ih hb d it hd5 hi0 hid=> ?_
 have ht:=sm_of_bulk hb
 have ih':∀x∈ks,∀d it:Int,d≤5→0≤it→it<d→R 52 [[.sl 10 (P.map Comp.enc)],[.int .i64 i],x.enc,[.int .i64 d],[.int .i64 it]]=some [[.bool (x.ok P i c d it)]]:=fun x hx=>ih x hx (kid_bulk hb hx)
 generalize hT:Tmpl.mk k tg ns ar ky os ks=t at hb ht ⊢
 have hks:t.kids=ks:=by rw[← hT];rfl
 rw[← hks] at ih'
 clear ih hT hks
 have hH:=R90 P hP i c hc hca t ht
 have hF:=R91 c.props c.states.length it hcp ⟨by omega,by omega⟩ ⟨by omega,by omega⟩ t.args ht.2.1
 have hK:=R88 t.key c.props c.states.length (it+1) hcp ⟨by omega,by omega⟩ ⟨by omega,by omega⟩
 have hi:i<P.length:=by
  rcases zJ i P.length with h|h
  ·exact h
  ·rw[zG h] at hc;cases hc
 have hg:P[i]=c:=by rw[zB hi] at hc;injection hc
 have hwi:IntKind.wrap .i64 (it+1)=it+1:=wrap64 (by omega) (by omega)
 rw[Tmpl.ok_eq]
 rw[Tmpl.enc_eq] at hH ⊢
 refine q52.f rfl ?_
 unfold okAt
 by_cases hd4:d≤4
 ·have hd4':¬ 4<d:=by omega
  cases h1:(!badHead t&&goodHead P i c t)
  ·rw[h1] at hH
   simp[t52_0,R89,hd4,hd4',hH]
  ·rw[h1] at hH
   cases h2:inR t.kids.length (loK t.kind) (hiK t.kind)
   ·simp[t52_0,R89,R49,hd4,hd4',hH,h2]
   ·cases h3:t.args.all fun f=>formOk f c.props c.states.length it
    ·rw[h3] at hF
     simp[t52_0,R89,R49,hd4,hd4',hH,h2,hi,hg,Comp.enc,hF]
    ·rw[h3] at hF
     by_cases h4:t.kind=3
     ·have hL:=G52 P i d (it+1) ⟨by omega,by omega⟩ t ht (fun x=>x.ok P i c (d+1) (it+1)) (fun x hx=>ih' x hx (d+1) (it+1) (by omega) (by omega) (by omega)) t.kids 0 (by omega) rfl
      simp only[h4] at hL hH h2 ⊢
      simp at hL
      by_cases h5:t.key.length=0
      ·have h5':¬ 0<t.key.length:=by omega
       simp[t52_0,R89,R49,hd4,hd4',hH,h2,hi,hg,Comp.enc,hF,h4,h5,h5',hwi,hL,itIn]
      ·have h5':0<t.key.length:=by omega
       cases h6:formOk t.key c.props c.states.length (it+1)
       ·rw[h6] at hK
        simp[t52_0,R89,R49,hd4,hd4',hH,h2,hi,hg,Comp.enc,hF,h4,h5,h5',hwi,hK]
       ·rw[h6] at hK
        simp[t52_0,R89,R49,hd4,hd4',hH,h2,hi,hg,Comp.enc,hF,h4,h5,h5',hwi,hK,hL,itIn]
     ·have hL:=G52 P i d it ⟨by omega,by omega⟩ t ht (fun x=>x.ok P i c (d+1) it) (fun x hx=>ih' x hx (d+1) it (by omega) (by omega) (by omega)) t.kids 0 (by omega) rfl
      simp at hL
      simp[t52_0,R89,R49,hd4,hd4',hH,h2,hi,hg,Comp.enc,hF,h4,hL,itIn]
 ·have hd4':4<d:=by omega
  simp[t52_0,R89,hd4,hd4']
set_option maxRecDepth 100000
theorem Comp.enc_eq (c:Comp):c.enc=[.int .i64 c.props, .sl 3 (c.states.map Val.enc), .sl 1 (c.acts.map encA), .int .i64 c.body.kind, .int .i64 c.body.tag, .sl 1 (c.body.names.map encI), .sl 1 (c.body.args.map encF), .sl 5 (c.body.key.map Stp.enc), .sl 2 (c.body.ons.map On.enc), .sl 7 (c.body.kids.map Tmpl.enc)]:=rfl
theorem fit_of_bulk {x:Stp} {n:Nat} (h:Stp.bulk x≤n) (hn:n≤BULK):x.fit:=by
 unfold Stp.bulk Val.bulk at h
 unfold BULK at hn
 unfold Stp.fit Val.fit
 omega
theorem form_fit {f:List Stp} (h:sumL Stp.bulk f≤BULK):f.length≤most∧∀x∈f,x.fit:=
 ⟨bulk_most (sumL_len h),fun _ hx=>fit_of_bulk (sumL_mem h hx) (Nat.le_refl _)⟩
theorem formOk' (f:List Stp) (p s t:Int) (hf:sumL Stp.bulk f≤BULK) (hp:0≤p∧p≤3) (hs:0≤s∧s≤3) (ht:0≤t∧t≤4):R 106 [[.sl 5 (f.map Stp.enc)],[.int .i64 p],[.int .i64 s],[.int .i64 t]]=some [[.bool (formOk f p s t)]]:=by
 have:=R106 f p s t (form_fit hf).1 (form_fit hf).2
 rw[inR_iff.2 hp,inR_iff.2 hs,inR_iff.2 ht] at this
 simpa using this
structure Comp.fair (c:Comp):Prop where
 p:0≤c.props∧c.props≤3
 s:c.states.length≤3
 a:c.acts.length≤1000000
theorem G107 (c:Comp) (hc:c.fair) (it:Int) (ht:0≤it∧it≤4) (l:List (List Stp)) (hl:sumL (sumL Stp.bulk) l≤BULK):∀(suf:List (List Stp)) (n:Nat),n≤l.length→l.drop n=suf→
  q107.go 0 (.int .i64 it::(c.enc++[.sl 1 (l.map encF), .int .i64 l.length, .int .i64 n]))=some [[.bool (suf.all fun f=>formOk f c.props c.states.length it)]]:=by
 intro suf
 have hlm:=bulk_most (sumL_len hl)
 induction suf with
 |nil=>
  intro n hn hd
  have:=drop_nil hd hn
  subst this
  refine q107.g 0 rfl rfl rfl ?_
  simp[t107_1,Comp.enc]
 |cons x t ih=>
  intro n hn hd
  obtain ⟨hx,hlt,hd'⟩:=drop_cons hd
  have hb:=sumL_mem hl (zF hx)
  have hg:l[n]=x:=by rw[zB hlt] at hx;injection hx
  refine q107.g 0 rfl rfl rfl ?_
  have hw:=most_wrap (n:=n) (by omega) (by omega)
  have ih:=ih (n+1) hlt hd'
  have hf:=formOk' x c.props c.states.length it hb hc.p ⟨by omega,by have:=hc.s;omega⟩ ht
  simp[Comp.enc] at ih
  cases hr:formOk x c.props c.states.length it
  ·simp[t107_1,Comp.enc,hf,hg,hlt,hr]
  ·simp[t107_1,Comp.enc,hf,hg,hlt,hr,hw,ih]
theorem R107 (c:Comp) (hc:c.fair) (it:Int) (ht:0≤it∧it≤4) (l:List (List Stp)) (hl:sumL (sumL Stp.bulk) l≤BULK):
  R 107 [c.enc,[.sl 1 (l.map encF)],[.int .i64 it]]=some [[.bool (l.all fun f=>formOk f c.props c.states.length it)]]:=by
 refine q107.f rfl ?_
 have:=G107 c hc it ht l hl l 0 (by omega) rfl
 simp[Comp.enc] at this
 simp[t107_0,Comp.enc,this]
abbrev tkIn (P:List Comp) (i:Nat) (d it:Int) (t:Tmpl) (c:Comp) (l:List D):List D:=
 .sl 10 (P.map Comp.enc):: .int .i64 i:: .int .i64 d:: .int .i64 it::(t.enc++(c.enc++l))
theorem K65 (P:List Comp) (i:Nat) (d it:Int) (hd:smallI d) (l:List Tmpl) (hl:l.length≤most) (f:Tmpl→Bool) (hk:∀x∈l,R 65 [[.sl 10 (P.map Comp.enc)],[.int .i64 i],x.enc,[.int .i64 (d+1)],[.int .i64 it]]=some [[.bool (f x)]]):∀(suf:List Tmpl) (n:Nat),n≤l.length→l.drop n=suf→
  q65.go 4 [.sl 10 (P.map Comp.enc), .int .i64 i, .int .i64 d, .int .i64 it, .sl 7 (l.map Tmpl.enc), .int .i64 l.length, .int .i64 n]=some [[.bool (suf.all f)]]:=by
 intro suf
 have hs:=small_add hd
 induction suf with
 |nil=>
  intro n hn hd
  have:=drop_nil hd hn
  subst this
  refine q65.g 4 rfl rfl rfl ?_
  simp[t65_5]
 |cons x t ih=>
  intro n hn hd
  obtain ⟨hx,hlt,hd'⟩:=drop_cons hd
  have hm:=hk x (zF hx)
  have hg:=hx
  rw[zB hlt] at hg
  injection hg with hg
  refine q65.g 4 rfl rfl rfl ?_
  have hw:=most_wrap (n:=n) (by omega) (by omega)
  have ih:=ih (n+1) hlt hd'
  simp at ih
  rw[Tmpl.enc_eq] at hm
  have he:Tmpl.enc x=_:=Tmpl.enc_eq x
  cases hr:f x
  ·rw[hr] at hm
   simp[t65_5,hg,hlt,hs,he,hm,hr]
  ·rw[hr] at hm
   simp[t65_5,hg,hlt,hs,he,hm,hr,hw,ih]
theorem F65 (P:List Comp) (i:Nat) (d it:Int) (c:Comp) (hc:c.fair) (hit:0≤it∧it≤4) (t:Tmpl) (ht:t.bulk≤BULK) (b:Bool)
  (hk:q65.go 4 [.sl 10 (P.map Comp.enc), .int .i64 i, .int .i64 d, .int .i64 (itIn t it), .sl 7 (t.kids.map Tmpl.enc), .int .i64 t.kids.length, .int .i64 (0:Nat)]=some [[.bool b]]) (want lo hi:Int):
  q65.go 2 (tkIn P i d it t c [.int .i64 want, .int .i64 lo, .int .i64 hi])=some [[.bool (decide ((t.args.length:Int)=want)&&(inR t.kids.length lo hi&&((t.args.all fun f=>formOk f c.props c.states.length it)&&b)))]]:=by
 have ha:sumL (sumL Stp.bulk) t.args≤BULK:=by rw[Tmpl.bulk_eq] at ht;omega
 have hF:=R107 c hc it hit t.args ha
 have hwi:IntKind.wrap .i64 (it+1)=it+1:=wrap64 (by omega) (by omega)
 unfold tkIn
 rw[Tmpl.enc_eq]
 refine q65.g 2 rfl rfl rfl ?_
 rw[Comp.enc_eq c] at hF ⊢
 simp at hk
 by_cases h1:(t.args.length:Int)=want
 ·cases h2:inR t.kids.length lo hi
  ·simp[t65_3,h1,R63,h2]
  ·cases h3:t.args.all fun f=>formOk f c.props c.states.length it
   ·rw[h3] at hF
    simp[t65_3,h1,R63,h2,hF]
   ·rw[h3] at hF
    by_cases h4:t.kind=3
    ·simp only[itIn,h4,if_true] at hk
     simp[t65_3,h1,R63,h2,hF,h4,hwi,hk]
    ·simp only[itIn,h4,if_false] at hk
     simp[t65_3,h1,R63,h2,hF,h4,hk]
 ·simp[t65_3,h1]
theorem O65 (P:List Comp) (i:Nat) (d it:Int) (c:Comp) (hca:c.acts.length≤1000000) (t:Tmpl) (hl:t.ons.length≤most) (want lo hi:Int) (b:Bool)
  (hk:q65.go 2 (tkIn P i d it t c [.int .i64 want, .int .i64 lo, .int .i64 hi])=some [[.bool b]]):∀(suf:List On) (n:Nat),n≤t.ons.length→t.ons.drop n=suf→
  q65.go 5 (tkIn P i d it t c [.int .i64 want, .int .i64 lo, .int .i64 hi, .sl 2 (t.ons.map On.enc), .int .i64 t.ons.length, .int .i64 n])=some [[.bool (onsFrom c.acts.length ((ahead t.ons n).map On.event) suf&&b)]]:=by
 intro suf
 have hs:IntKind.wrap .i64 ((c.acts.length:Int)-1)=c.acts.length-1:=wrap64 (by omega) (by omega)
 unfold tkIn at hk ⊢
 rw[Tmpl.enc_eq,Comp.enc_eq c] at hk
 simp only[Tmpl.enc_eq t,Comp.enc_eq c]
 simp at hk
 induction suf with
 |nil=>
  intro n hn hd
  have:=drop_nil hd hn
  subst this
  refine q65.g 5 rfl rfl rfl ?_
  simp[t65_6,onsFrom,hk]
 |cons x s ih=>
  intro n hn hd
  obtain ⟨hx,hlt,hd'⟩:=drop_cons hd
  have hg:=hx
  rw[zB hlt] at hg
  injection hg with hg
  refine q65.g 5 rfl rfl rfl ?_
  have hw:=most_wrap (n:=n) (by omega) (by omega)
  have ih:=ih (n+1) hlt hd'
  rw[ahead_succ hx] at ih
  simp at ih
  cases hr:inR x.event 0 2
  ·simp[t65_6,R63,hg,hlt,hr,onsFrom]
  ·by_cases hz:n=0
   ·have hz':¬ 0<n:=by omega
    have ha:ahead t.ons n=none:=by simp[ahead,hz]
    cases hr2:inR x.act 0 (c.acts.length-1)
    ·simp[t65_6,R63,hg,hlt,hr,hr2,hs,onsFrom,incOk,hz',ha]
    ·simp[t65_6,R63,hg,hlt,hr,hr2,hs,onsFrom,incOk,hz',ha,hw,ih]
   ·have hz':0<n:=by omega
    have hw2:IntKind.wrap .i64 ((n:Int)-1)=((n-1:Nat):Int):=by unfold most at hl;rw[wrap64]<;>omega
    obtain ⟨y,hy⟩:∃y,t.ons[n-1]? =some y:=⟨t.ons[n-1]'(by omega),zB (by omega)⟩
    have ha:ahead t.ons n=some y:=by simp[ahead,hz,hy]
    by_cases hzx:x.event≤y.event
    ·have h':¬ y.event<x.event:=by omega
     simp[t65_6,R63,hg,hlt,hr,hs,onsFrom,incOk,hz',hw2,hy,ha,hzx,h']
    ·have h':y.event<x.event:=by omega
     cases hr2:inR x.act 0 (c.acts.length-1)
     ·simp[t65_6,R63,hg,hlt,hr,hr2,hs,onsFrom,incOk,hz',hw2,hy,ha,hzx,h']
     ·simp[t65_6,R63,hg,hlt,hr,hr2,hs,onsFrom,incOk,hz',hw2,hy,ha,hzx,h',hw,ih]
theorem N65 (P:List Comp) (i:Nat) (d it:Int) (c:Comp) (t:Tmpl) (hl:t.names.length≤most) (want lo hi:Int) (b:Bool)
  (hk:q65.go 5 (tkIn P i d it t c [.int .i64 want, .int .i64 lo, .int .i64 hi, .sl 2 (t.ons.map On.enc), .int .i64 t.ons.length, .int .i64 (0:Nat)])=some [[.bool b]]):∀(suf:List Int) (n:Nat),n≤t.names.length→t.names.drop n=suf→
  q65.go 3 (tkIn P i d it t c [.int .i64 want, .int .i64 lo, .int .i64 hi, .sl 1 (t.names.map encI), .int .i64 t.names.length, .int .i64 n])=some [[.bool (namesFrom (ahead t.names n) suf&&b)]]:=by
 intro suf
 unfold tkIn at hk ⊢
 rw[Tmpl.enc_eq,Comp.enc_eq c] at hk
 simp only[Tmpl.enc_eq t,Comp.enc_eq c]
 simp at hk
 induction suf with
 |nil=>
  intro n hn hd
  have:=drop_nil hd hn
  subst this
  refine q65.g 3 rfl rfl rfl ?_
  simp[t65_4,namesFrom,hk]
 |cons x s ih=>
  intro n hn hd
  obtain ⟨hx,hlt,hd'⟩:=drop_cons hd
  have hg:=hx
  rw[zB hlt] at hg
  injection hg with hg
  refine q65.g 3 rfl rfl rfl ?_
  have hw:=most_wrap (n:=n) (by omega) (by omega)
  have ih:=ih (n+1) hlt hd'
  rw[ahead_succ hx] at ih
  simp at ih
  cases hr:inR x 0 3
  ·simp[t65_4,R63,hg,hlt,hr,namesFrom]
  ·by_cases hz:n=0
   ·have hz':¬ 0<n:=by omega
    have ha:ahead t.names n=none:=by simp[ahead,hz]
    simp[t65_4,R63,hg,hlt,hr,namesFrom,incOk,hz',ha,hw,ih]
   ·have hz':0<n:=by omega
    have hw2:IntKind.wrap .i64 ((n:Int)-1)=((n-1:Nat):Int):=by unfold most at hl;rw[wrap64]<;>omega
    obtain ⟨y,hy⟩:∃y,t.names[n-1]? =some y:=⟨t.names[n-1]'(by omega),zB (by omega)⟩
    have ha:ahead t.names n=some y:=by simp[ahead,hz,hy]
    by_cases hzx:x≤y
    ·have h':¬ y<x:=by omega
     simp[t65_4,R63,hg,hlt,hr,namesFrom,incOk,hz',hw2,hy,ha,hzx,h']
    ·have h':y<x:=by omega
     simp[t65_4,R63,hg,hlt,hr,namesFrom,incOk,hz',hw2,hy,ha,hzx,h',hw,ih]
def fbOf (c:Comp) (t:Tmpl) (it:Int) (b:Bool) (want lo hi:Int):Bool:=decide ((t.args.length:Int)=want)&&(inR t.kids.length lo hi&&((t.args.all fun f=>formOk f c.props c.states.length it)&&b))
def dispOf (P:List Comp) (i:Nat) (c:Comp) (t:Tmpl) (it:Int) (b:Bool):Bool:=
 if t.kind=0 then fbOf c t it b 1 0 0
 else if t.kind=1 then inR t.tag 0 4&&(namesFrom none t.names&&(onsFrom c.acts.length none t.ons&&fbOf c t it b t.names.length 0 4))
 else if t.kind=2 then fbOf c t it b 1 1 2
 else if t.kind=3 then (decide (t.key.length=0)||formOk t.key c.props c.states.length (it+1))&&fbOf c t it b 1 1 1
 else if t.kind=4 then inR t.tag (i+1) (P.length-1)&&(match propsAt P t.tag with|some p=>fbOf c t it b p 0 0|none=>false)
 else if t.kind=5 then inR t.tag 0 1&&fbOf c t it b 1 0 4
 else false
theorem G65 (P:List Comp) (hP:P.length≤1000) (i:Nat) (hi:i<P.length) (d it:Int) (hd:smallI d) (c:Comp) (hc:c.fair) (hit:0≤it∧it<d∧d≤4) (t:Tmpl) (ht:t.bulk≤BULK) (f:Tmpl→Bool)
  (hk:∀x∈t.kids,R 65 [[.sl 10 (P.map Comp.enc)],[.int .i64 i],x.enc,[.int .i64 (d+1)],[.int .i64 (itIn t it)]]=some [[.bool (f x)]]) (b:Bool):
  q65.go 1 (tkIn P i d it t c [.bool b])=some [[.bool (!b&&dispOf P i c t it (t.kids.all f))]]:=by
 obtain ⟨t1,t2,t3,t4,t5⟩:=sm_of_bulk ht
 have hK:=K65 P i d (itIn t it) hd t.kids t5 f hk t.kids 0 (by omega) rfl
 have hF:=F65 P i d it c hc ⟨by omega,by omega⟩ t ht (t.kids.all f) hK
 have hkey:=formOk' t.key c.props c.states.length (it+1) (by rw[Tmpl.bulk_eq] at ht;omega) hc.p ⟨by omega,by have:=hc.s;omega⟩ ⟨by omega,by omega⟩
 have hwi:IntKind.wrap .i64 (it+1)=it+1:=wrap64 (by omega) (by omega)
 have w1:IntKind.wrap .i64 ((i:Int)+1)=i+1:=wrap64 (by omega) (by omega)
 have w2:IntKind.wrap .i64 ((P.length:Int)-1)=P.length-1:=wrap64 (by omega) (by omega)
 have hO:=fun want lo hi=>O65 P i d it c hc.a t t4 want lo hi _ (hF want lo hi) t.ons 0 (by omega) rfl
 have hN:=fun want lo hi=>N65 P i d it c t t1 want lo hi _ (hO want lo hi) t.names 0 (by omega) rfl
 unfold tkIn at hF hN ⊢
 rw[Tmpl.enc_eq,Comp.enc_eq c] at hF hN ⊢
 refine q65.g 1 rfl rfl rfl ?_
 unfold dispOf fbOf
 clear hO hK hk
 simp[ahead] at hN
 simp at hF
 cases b
 ·by_cases k0:t.kind=0
  ·simp only[k0] at hF ⊢
   simp[t65_2,hF]
  by_cases k1:t.kind=1
  ·simp only[k1] at hN ⊢
   cases g:inR t.tag 0 4
   ·simp[t65_2,R63,g]
   ·simp[t65_2,R63,g,hN]
  by_cases k2:t.kind=2
  ·simp only[k2] at hF ⊢
   simp[t65_2,hF]
  by_cases k3:t.kind=3
  ·simp only[k3] at hF ⊢
   by_cases h5:t.key.length=0
   ·have h5':¬ 0<t.key.length:=by omega
    simp[t65_2,h5,h5',hF]
   ·have h5':0<t.key.length:=by omega
    cases h6:formOk t.key c.props c.states.length (it+1)
    ·rw[h6] at hkey
     simp[t65_2,h5,h5',hwi,hkey]
    ·rw[h6] at hkey
     simp[t65_2,h5,h5',hwi,hkey,hF]
  by_cases k4:t.kind=4
  ·simp only[k4] at hF ⊢
   cases g:inR t.tag (i+1) (P.length-1)
   ·simp[t65_2,R63,w1,w2,g]
   ·obtain ⟨g1,g2⟩:=inR_iff.1 g
    have hk:t.tag.toNat<P.length:=by omega
    have h0:0≤t.tag:=by omega
    simp[t65_2,R63,w1,w2,g,h0,hk,propsAt,Comp.enc_eq (P[t.tag.toNat]),hF]
  by_cases k5:t.kind=5
  ·simp only[k5] at hF ⊢
   cases g:inR t.tag 0 1
   ·simp[t65_2,R63,g]
   ·simp[t65_2,R63,g,hF]
  simp[t65_2,k0,k1,k2,k3,k4,k5]
 ·simp[t65_2]
def tagOk (t:Tmpl):Bool:= !(decide (t.kind=0∨t.kind=2∨t.kind=3)&& !decide (t.tag=0))
theorem ok_disp (P:List Comp) (i:Nat) (c:Comp) (t:Tmpl) (d it:Int) (b:Bool):okAt P i c t d it b=(decide (d≤4)&&(!badHead t&&(tagOk t&&dispOf P i c t it b))):=by
 unfold okAt tagOk
 cases decide (d≤4)
 ·rfl
 cases badHead t
 case true=>rfl
 have l1:decide ((t.args.length:Int)=1)=decide (t.args.length=1):=by rw[decide_eq_decide];omega
 have l2:decide ((t.args.length:Int)=t.names.length)=decide (t.names.length=t.args.length):=by rw[decide_eq_decide];omega
 generalize (inR · · ·)=q at*
 by_cases k0:t.kind=0
 ·simp[goodHead,dispOf,fbOf,loK,hiK,k0,l1]
  ac_rfl
 by_cases k1:t.kind=1
 ·simp[goodHead,dispOf,fbOf,loK,hiK,k1,l2]
  ac_rfl
 by_cases k2:t.kind=2
 ·simp[goodHead,dispOf,fbOf,loK,hiK,k2,l1]
  ac_rfl
 by_cases k3:t.kind=3
 ·simp[goodHead,dispOf,fbOf,loK,hiK,k3,l1]
  ac_rfl
 by_cases k4:t.kind=4
 ·cases hp:propsAt P t.tag with
  |none=>simp[goodHead,dispOf,fbOf,loK,hiK,k4,hp]
  |some p=>
   have l3:decide (p=(t.args.length:Int))=decide ((t.args.length:Int)=p):=by rw[decide_eq_decide];exact eq_comm
   simp[goodHead,dispOf,fbOf,loK,hiK,k4,hp,l3]
   ac_rfl
 by_cases k5:t.kind=5
 ·simp[goodHead,dispOf,fbOf,loK,hiK,k5,l1]
  ac_rfl
 simp[goodHead,dispOf,k0,k1,k2,k3,k4,k5]
theorem R65 (P:List Comp) (hP:P.length≤1000) (i:Nat) (c:Comp) (hci:P[i]? =some c) (hc:c.fair):∀(t:Tmpl),t.bulk≤BULK→∀d it:Int,d≤5→0≤it→it<d→
  R 65 [[.sl 10 (P.map Comp.enc)],[.int .i64 i],t.enc,[.int .i64 d],[.int .i64 it]]=some [[.bool (t.ok P i c d it)]]:=by
 refine Tmpl.ind fun k tg ns ar ky os ks ih hb d it hd5 hi0 hid=> ?_
 have ih':∀x∈ks,∀d it:Int,d≤5→0≤it→it<d→R 65 [[.sl 10 (P.map Comp.enc)],[.int .i64 i],x.enc,[.int .i64 d],[.int .i64 it]]=some [[.bool (x.ok P i c d it)]]:=fun x hx=>ih x hx (kid_bulk hb hx)
 generalize hT:Tmpl.mk k tg ns ar ky os ks=t at hb ⊢
 have hks:t.kids=ks:=by rw[← hT];rfl
 rw[← hks] at ih'
 clear ih hT hks
 have hi:i<P.length:=by
  rcases zJ i P.length with h|h
  ·exact h
  ·rw[zG h] at hci;cases hci
 have hg:P[i]=c:=by rw[zB hi] at hci;injection hci
 rw[Tmpl.ok_eq,ok_disp]
 by_cases hd4:d≤4
 ·have hd4':¬ 4<d:=by omega
  have hin:0≤itIn t it∧itIn t it<d+1:=by unfold itIn;split<;>omega
  have h1:=G65 P hP i hi d it ⟨by omega,by omega⟩ c hc ⟨hi0,hid,hd4⟩ t hb (fun x=>x.ok P i c (d+1) (itIn t it)) (fun x hx=>ih' x hx (d+1) (itIn t it) (by omega) (by omega) (by omega))
  generalize dispOf P i c t it (t.kids.all fun x=>x.ok P i c (d+1) (itIn t it))=dsp at h1 ⊢
  have h0:∀b,q65.go 0 (tkIn P i d it t c [.bool b])=some [[.bool (!b&&(tagOk t&&dsp))]]:=by
   intro b
   unfold tkIn at h1 ⊢
   rw[Tmpl.enc_eq,Comp.enc_eq c] at h1 ⊢
   refine q65.g 0 rfl rfl rfl ?_
   unfold tagOk
   have hf:=h1 false
   have ht:=h1 true
   clear h1
   simp at hf ht
   cases b
   ·by_cases k0:t.kind=0
    ·simp only[k0] at hf ht ⊢
     by_cases g:t.tag=0
     ·simp only[g] at hf ht ⊢
      simp[t65_1,hf]
     ·simp[t65_1,ht,g]
    by_cases k2:t.kind=2
    ·simp only[k2] at hf ht ⊢
     by_cases g:t.tag=0
     ·simp only[g] at hf ht ⊢
      simp[t65_1,hf]
     ·simp[t65_1,ht,g]
    by_cases k3:t.kind=3
    ·simp only[k3] at hf ht ⊢
     by_cases g:t.tag=0
     ·simp only[g] at hf ht ⊢
      simp[t65_1,hf]
     ·simp[t65_1,ht,g]
    simp[t65_1,hf,k0,k2,k3]
   ·simp[t65_1]
  unfold tkIn at h0
  rw[Tmpl.enc_eq,Comp.enc_eq c] at h0
  simp only[List.cons_append,List.nil_append] at h0
  rw[Tmpl.enc_eq]
  refine q65.f rfl ?_
  unfold badHead
  by_cases k1:t.kind=1
  ·simp only[k1] at h0 ⊢
   simp[t65_0,hi,hg,Comp.enc_eq c,hd4,hd4',h0]
  by_cases k3:t.kind=3
  ·simp only[k3] at h0 ⊢
   by_cases h1:0<t.names.length
   ·simp[t65_0,hi,hg,Comp.enc_eq c,hd4,hd4',h1,h0]
   by_cases h2:0<t.ons.length
   ·simp[t65_0,hi,hg,Comp.enc_eq c,hd4,hd4',h1,h2,h0]
   ·simp[t65_0,hi,hg,Comp.enc_eq c,hd4,hd4',h1,h2,h0]
  by_cases h1:0<t.names.length
  ·simp[t65_0,hi,hg,Comp.enc_eq c,hd4,hd4',k1,h1,h0]
  by_cases h2:0<t.ons.length
  ·simp[t65_0,hi,hg,Comp.enc_eq c,hd4,hd4',k1,h1,h2,h0]
  ·simp[t65_0,hi,hg,Comp.enc_eq c,hd4,hd4',k1,k3,h1,h2,h0]
 ·have hd4':4<d:=by omega
  rw[Tmpl.enc_eq]
  refine q65.f rfl ?_
  simp[t65_0,hi,hg,Comp.enc_eq c,hd4,hd4']
set_option maxRecDepth 100000
def setOk (ns:Nat) (x:Sett):Bool:=inR x.state 0 ((ns:Int)-1)&&formOk x.form 0 ns 0
def actOk (ns:Nat) (a:List Sett):Bool:=decide (a.length≤3)&&a.all (setOk ns)
def actsOk (c:Comp):Bool:=decide (c.acts.length≤3)&&c.acts.all (actOk c.states.length)
theorem I51 (c:Comp) (hcs:c.states.length≤1000000) (i:Nat) (a:List Sett) (hi:i<c.acts.length) (ha:c.acts[i]=a) (hal:a.length≤most) (hil:i<most) (b:Bool)
  (hk:q51.go 0 (c.enc++[.int .i64 ((i:Int)+1)])=some [[.bool b]]):∀(suf:List Sett) (n:Nat),n≤a.length→a.drop n=suf→
  q51.go 1 (c.enc++[.int .i64 i, .int .i64 n])=some [[.bool (suf.all (setOk c.states.length)&&b)]]:=by
 intro suf
 have hs:IntKind.wrap .i64 ((c.states.length:Int)-1)=c.states.length-1:=wrap64 (by omega) (by omega)
 have hwi:=most_wrap (n:=i) (by omega) (by omega)
 rw[Comp.enc_eq c] at hk ⊢
 simp at hk
 induction suf with
 |nil=>
  intro n hn hd
  have:=drop_nil hd hn
  subst this
  refine q51.g 1 rfl rfl rfl ?_
  simp[t51_2,hi,ha,hk,hwi]
 |cons x t ih=>
  intro n hn hd
  obtain ⟨hx,hlt,hd'⟩:=drop_cons hd
  have hg:a[n]=x:=by rw[zB hlt] at hx;injection hx
  refine q51.g 1 rfl rfl rfl ?_
  have hw:=most_wrap (n:=n) (by omega) (by omega)
  have ih:=ih (n+1) hlt hd'
  simp at ih
  have hf:=R88 x.form 0 c.states.length 0 ⟨by omega,by omega⟩ ⟨by omega,by omega⟩ ⟨by omega,by omega⟩
  cases hr:inR x.state 0 ((c.states.length:Int)-1)
  ·simp[t51_2,R49,hi,ha,hg,hlt,hs,hr,setOk]
  ·cases hr2:formOk x.form 0 c.states.length 0
   ·rw[hr2] at hf
    simp[t51_2,R49,hi,ha,hg,hlt,hs,hr,hf,hr2,setOk]
   ·rw[hr2] at hf
    simp[t51_2,R49,hi,ha,hg,hlt,hs,hr,hf,hr2,setOk,hw,ih]
theorem G51 (c:Comp) (hcs:c.states.length≤1000000) (hca:c.acts.length≤1000):∀(suf:List (List Sett)) (n:Nat),n≤c.acts.length→c.acts.drop n=suf→
  q51.go 0 (c.enc++[.int .i64 n])=some [[.bool (suf.all (actOk c.states.length))]]:=by
 intro suf
 induction suf with
 |nil=>
  intro n hn hd
  have:=drop_nil hd hn
  subst this
  rw[Comp.enc_eq c]
  refine q51.g 0 rfl rfl rfl ?_
  simp[t51_1]
 |cons x t ih=>
  intro n hn hd
  obtain ⟨hx,hlt,hd'⟩:=drop_cons hd
  have hg:c.acts[n]=x:=by rw[zB hlt] at hx;injection hx
  have ih:=ih (n+1) hlt hd'
  by_cases h3:x.length≤3
  ·have h3':¬ 3<x.length:=by omega
   have hI:=I51 c hcs n x hlt hg (by unfold most;omega) (by unfold most;omega) _ ih x 0 (by omega) rfl
   rw[Comp.enc_eq c] at hI ⊢
   simp at hI
   refine q51.g 0 rfl rfl rfl ?_
   have h3'':¬ (3:Int)<x.length:=by omega
   simp[t51_1,hlt,hg,h3,h3',h3'',actOk,hI]
  ·have h3':3<x.length:=by omega
   have h3'':(3:Int)<x.length:=by omega
   rw[Comp.enc_eq c]
   refine q51.g 0 rfl rfl rfl ?_
   simp[t51_1,hlt,hg,h3,h3',h3'',actOk]
theorem R51 (c:Comp) (hcs:c.states.length≤1000000):R 51 [c.enc]=some [[.bool (actsOk c)]]:=by
 unfold actsOk
 by_cases h3:c.acts.length≤3
 ·have h:=G51 c hcs (by omega) c.acts 0 (by omega) rfl
  rw[Comp.enc_eq c] at h ⊢
  simp at h
  refine q51.f rfl ?_
  have h3'':¬ (3:Int)<c.acts.length:=by omega
  simp[t51_0,h3'',h3,h]
 ·have h3'':(3:Int)<c.acts.length:=by omega
  rw[Comp.enc_eq c]
  refine q51.f rfl ?_
  simp[t51_0,h3'',h3]
def compV (c:Comp):Bool:=inR c.props 0 3&&(decide (c.states.length≤3)&&(c.states.all Val.ok&&actsOk c))
theorem I64 (c:Comp) (hcs:c.states.length≤3) (l:List (List Sett)) (i:Nat) (hil:i<most) (a:List Sett) (hab:sumL Sett.bulk a≤BULK) (b:Bool)
  (hk:q64.go 0 (c.enc++[.sl 1 (l.map encA), .int .i64 l.length, .int .i64 ((i:Int)+1)])=some [[.bool b]]):∀(suf:List Sett) (n:Nat),n≤a.length→a.drop n=suf→
  q64.go 1 (c.enc++[.sl 1 (l.map encA), .int .i64 l.length, .int .i64 i, .sl 2 (a.map Sett.enc), .int .i64 a.length, .int .i64 n])=some [[.bool (suf.all (setOk c.states.length)&&b)]]:=by
 intro suf
 have hal:=bulk_most (sumL_len hab)
 have hs:IntKind.wrap .i64 ((c.states.length:Int)-1)=c.states.length-1:=wrap64 (by omega) (by omega)
 have hwi:=most_wrap (n:=i) (by omega) (by omega)
 rw[Comp.enc_eq c] at hk ⊢
 simp at hk
 induction suf with
 |nil=>
  intro n hn hd
  have:=drop_nil hd hn
  subst this
  refine q64.g 1 rfl rfl rfl ?_
  simp[t64_2,hk,hwi]
 |cons x t ih=>
  intro n hn hd
  obtain ⟨hx,hlt,hd'⟩:=drop_cons hd
  have hg:a[n]=x:=by rw[zB hlt] at hx;injection hx
  refine q64.g 1 rfl rfl rfl ?_
  have hw:=most_wrap (n:=n) (by omega) (by omega)
  have ih:=ih (n+1) hlt hd'
  simp at ih
  have hf:=formOk' x.form 0 c.states.length 0 (sumL_mem hab (zF hx)) ⟨by omega,by omega⟩ ⟨by omega,by omega⟩ ⟨by omega,by omega⟩
  cases hr:inR x.state 0 ((c.states.length:Int)-1)
  ·simp[t64_2,R63,hg,hlt,hs,hr,setOk]
  ·cases hr2:formOk x.form 0 c.states.length 0
   ·rw[hr2] at hf
    simp[t64_2,R63,hg,hlt,hs,hr,hf,hr2,setOk]
   ·rw[hr2] at hf
    simp[t64_2,R63,hg,hlt,hs,hr,hf,hr2,setOk,hw,ih]
theorem G64 (c:Comp) (hcs:c.states.length≤3) (l:List (List Sett)) (hl:sumL (sumL Sett.bulk) l≤BULK):∀(suf:List (List Sett)) (n:Nat),n≤l.length→l.drop n=suf→
  q64.go 0 (c.enc++[.sl 1 (l.map encA), .int .i64 l.length, .int .i64 n])=some [[.bool (suf.all (actOk c.states.length))]]:=by
 intro suf
 have hlm:=bulk_most (sumL_len hl)
 induction suf with
 |nil=>
  intro n hn hd
  have:=drop_nil hd hn
  subst this
  rw[Comp.enc_eq c]
  refine q64.g 0 rfl rfl rfl ?_
  simp[t64_1]
 |cons x t ih=>
  intro n hn hd
  obtain ⟨hx,hlt,hd'⟩:=drop_cons hd
  have hg:l[n]=x:=by rw[zB hlt] at hx;injection hx
  have ih:=ih (n+1) hlt hd'
  by_cases h3:x.length≤3
  ·have h3'':¬ (3:Int)<x.length:=by omega
   have hI:=I64 c hcs l n (by omega) x (sumL_mem hl (zF hx)) _ ih x 0 (by omega) rfl
   rw[Comp.enc_eq c] at hI ⊢
   simp at hI
   refine q64.g 0 rfl rfl rfl ?_
   simp[t64_1,hlt,hg,h3,h3'',actOk,hI]
  ·have h3'':(3:Int)<x.length:=by omega
   rw[Comp.enc_eq c]
   refine q64.g 0 rfl rfl rfl ?_
   simp[t64_1,hlt,hg,h3,h3'',actOk]
theorem R64 (P:List Comp) (i:Nat) (hi:i<P.length) (c:Comp) (hg:P[i]=c) (hb:c.bulk≤BULK):R 64 [[.sl 10 (P.map Comp.enc)],[.int .i64 i]]=some [[.bool (compV c)]]:=by
 unfold Comp.bulk at hb
 have hv:=R68 c.states (bulk_most (sumL_len (f:=Val.bulk) (by omega))) (fun v hv=>by
  have:=sumL_mem (f:=Val.bulk) (n:=BULK) (by omega) hv
  unfold Val.bulk at this
  unfold BULK at this
  unfold Val.fit
  omega)
 have hcE:=Comp.enc_eq c
 refine q64.f rfl ?_
 unfold compV actsOk
 cases h1:inR c.props 0 3
 ·simp[t64_0,hi,hg,hcE,R63,h1]
 ·by_cases h2:c.states.length≤3
  ·have h2':¬ (3:Int)<c.states.length:=by omega
   cases h3:c.states.all Val.ok
   ·rw[h3] at hv
    simp[t64_0,hi,hg,hcE,R63,h1,h2',hv]
   ·rw[h3] at hv
    by_cases h4:c.acts.length≤3
    ·have h4':¬ (3:Int)<c.acts.length:=by omega
     have hG:=G64 c h2 c.acts (by omega) c.acts 0 (by omega) rfl
     rw[hcE] at hG
     simp at hG
     simp[t64_0,hi,hg,hcE,R63,h1,h2,h2',hv,h4,h4',hG]
    ·have h4':(3:Int)<c.acts.length:=by omega
     simp[t64_0,hi,hg,hcE,R63,h1,h2',hv,h4,h4']
  ·have h2':(3:Int)<c.states.length:=by omega
   simp[t64_0,hi,hg,hcE,R63,h1,h2,h2']
set_option maxRecDepth 100000
def mulK (k:Int):Nat:=if k=3 then 4 else 1
def Tmpl.size (σ:Nat→Nat):Tmpl→Nat
 | .mk k tg _ _ _ _ ks=>1+mulK k*(ks.map (Tmpl.size σ)).sum+(if k=4 then σ tg.toNat else 0)
theorem Tmpl.size_eq (σ:Nat→Nat) (t:Tmpl):t.size σ=1+mulK t.kind*(t.kids.map (Tmpl.size σ)).sum+(if t.kind=4 then σ t.tag.toNat else 0):=by
 cases t
 rw[Tmpl.size]
 rfl
theorem andT {a b:Bool}:(a&&b)=true↔a=true∧b=true:=by cases a<;>simp
structure Tmpl.Right (P:List Comp) (i:Nat) (c:Comp) (t:Tmpl) (d it:Int):Prop where
 dep:d≤4
 head:goodHead P i c t=true
 bad:badHead t=false
 n:inR t.kids.length (loK t.kind) (hiK t.kind)=true
 forms:(t.args.all fun f=>formOk f c.props c.states.length it)=true
 key:t.kind=3→t.key.length=0∨formOk t.key c.props c.states.length (it+1)=true
 kids:∀x∈t.kids,x.ok P i c (d+1) (itIn t it)=true
theorem Tmpl.right {P:List Comp} {i:Nat} {c:Comp} {t:Tmpl} {d it:Int} (h:t.ok P i c d it=true):t.Right P i c d it:=by
 rw[Tmpl.ok_eq] at h
 unfold okAt at h
 obtain ⟨h1,h⟩:=andT.1 h
 obtain ⟨h2,h⟩:=andT.1 h
 obtain ⟨h2a,h2b⟩:=andT.1 h2
 obtain ⟨h3,h⟩:=andT.1 h
 obtain ⟨h4,h⟩:=andT.1 h
 obtain ⟨h5,h6⟩:=andT.1 h
 refine ⟨of_decide_eq_true h1,h2b,by simpa using h2a,h3,h4,fun k3=> ?_,zL.1 h6⟩
 simpa[k3] using h5
theorem right_tag {P:List Comp} {i:Nat} {c:Comp} {t:Tmpl} (h:goodHead P i c t=true) (k:t.kind=4):∃j:Nat,t.tag=j∧i<j∧j<P.length∧propsAt P t.tag=some (t.args.length:Int):=by
 unfold goodHead at h
 simp[k] at h
 obtain ⟨h1,h2⟩:=h
 obtain ⟨g1,g2⟩:=inR_iff.1 h1
 exact ⟨t.tag.toNat,by omega,by omega,by omega,h2⟩
theorem right_kids {t:Tmpl} (h:inR t.kids.length (loK t.kind) (hiK t.kind)=true):t.kids.length≤4∧(t.kind=3→t.kids.length=1)∧(t.kind=4→t.kids=[]):=by
 obtain ⟨g1,g2⟩:=inR_iff.1 h
 unfold loK at g1
 unfold hiK at g2
 refine ⟨?_,fun k=> ?_,fun k=> ?_⟩
 ·split at g2
  ·omega
  ·split at g2
   ·omega
   ·split at g2<;>omega
 ·simp[k] at g1 g2;omega
 ·rw[if_pos (Or.inr k)] at g2;exact List.eq_nil_of_length_eq_zero (by omega)
theorem sum_congr {α:Type} {f g:α→Nat} {l:List α} (h:∀x∈l,f x=g x):(l.map f).sum=(l.map g).sum:=by rw[List.map_congr_left h]
theorem sum_bound {α:Type} {f:α→Nat} {l:List α} {m:Nat} (h:∀x∈l,f x≤m):(l.map f).sum≤l.length*m:=by
 induction l with
 |nil=>simp
 |cons x t ih=>
  have:=h x (by simp)
  have:=ih fun y hy=>h y (by simp[hy])
  simp[Nat.add_mul]
  omega
theorem size_congr {P:List Comp} {i:Nat} {c:Comp} {σ τ:Nat→Nat} (h:∀j,i<j→j<P.length→σ j=τ j):∀(t:Tmpl) (d it:Int),t.ok P i c d it=true→t.size σ=t.size τ:=by
 refine Tmpl.ind fun k tg ns ar ky os ks ih d it ho=> ?_
 have r:=Tmpl.right ho
 rw[Tmpl.size_eq,Tmpl.size_eq]
 have e:=sum_congr (f:=Tmpl.size σ) (g:=Tmpl.size τ) (l:=(Tmpl.mk k tg ns ar ky os ks).kids) fun x hx=>ih x hx _ _ (r.kids x hx)
 rw[e]
 by_cases k4:(Tmpl.mk k tg ns ar ky os ks).kind=4
 ·obtain ⟨j,hj,hij,hjl,_⟩:=right_tag r.head k4
  rw[if_pos k4,if_pos k4,hj,Int.toNat_natCast,h j hij hjl]
 ·rw[if_neg k4,if_neg k4]
def gB (m:Nat):Nat→Nat
 |0=>0
 |n+1=>1+m+4*gB m n
theorem size_bound {P:List Comp} {i:Nat} {c:Comp} {σ:Nat→Nat} {m:Nat} (h:∀j,i<j→j<P.length→σ j≤m):∀(t:Tmpl) (n:Nat) (d it:Int),d+n=5→t.ok P i c d it=true→t.size σ≤gB m n:=by
 refine Tmpl.ind fun k tg ns ar ky os ks ih n d it hn ho=> ?_
 have r:=Tmpl.right ho
 obtain ⟨r1,r2,r3⟩:=right_kids r.n
 obtain ⟨n,rfl⟩:∃n',n=n'+1:=⟨n-1,by have:=r.dep;omega⟩
 rw[Tmpl.size_eq]
 generalize hT:Tmpl.mk k tg ns ar ky os ks=t at r r1 r2 r3 ⊢
 have hks:t.kids=ks:=by rw[← hT];rfl
 have hs:=sum_bound (f:=Tmpl.size σ) (l:=t.kids) (m:=gB m n) fun x hx=>ih x (hks ▸ hx) n (d+1) _ (by omega) (r.kids x hx)
 have hmul:mulK t.kind*(t.kids.map (Tmpl.size σ)).sum≤4*gB m n:=by
  unfold mulK
  by_cases k3:t.kind=3
  ·rw[if_pos k3]
   rw[r2 k3] at hs
   omega
  ·rw[if_neg k3]
   have:t.kids.length*gB m n≤4*gB m n:=zR _ r1
   omega
 have htag:(if t.kind=4 then σ t.tag.toNat else 0)≤m:=by
  by_cases k4:t.kind=4
  ·obtain ⟨j,hj,hij,hjl,_⟩:=right_tag r.head k4
   rw[if_pos k4,hj,Int.toNat_natCast]
   exact h j hij hjl
  ·rw[if_neg k4];omega
 unfold gB
 omega
def BodiesOk (P:List Comp):Prop:=∀(i:Nat) (c:Comp),P[i]? =some c→c.body.ok P i c 1 0=true
def capB:Nat→Nat
 |0=>0
 |n+1=>gB (capB n) 4
theorem capB_mono:∀{a b:Nat},a≤b→capB a≤capB b
 |0,b,_=>by simp[capB]
 |a+1,b+1,h=>by
  have:=capB_mono (a:=a) (b:=b) (by omega)
  unfold capB gB gB gB gB gB
  omega
def IsSizes (P:List Comp) (σ:Nat→Nat):Prop:=∀(i:Nat) (c:Comp),P[i]? =some c→σ i=c.body.size σ∧σ i≤capB (P.length-i)
theorem sizes_ex {P:List Comp} (hP:BodiesOk P):∃σ,IsSizes P σ:=by
 have:∀n,n≤P.length→∃σ:Nat→Nat,∀(i:Nat) (c:Comp),P.length-n≤i→P[i]? =some c→σ i=c.body.size σ∧σ i≤capB (P.length-i):=by
  intro n
  induction n with
  |zero=>
   intro _
   refine ⟨fun _=>0,fun i c hi hc=> ?_⟩
   rw[zG (by omega)] at hc
   cases hc
  |succ n ih=>
   intro hn
   obtain ⟨σ,hσ⟩:=ih (by omega)
   have hlt:P.length-(n+1)<P.length:=by omega
   obtain ⟨c0,hc0⟩:∃c,P[P.length-(n+1)]? =some c:=⟨_,zB hlt⟩
   refine ⟨fun j=>if j=P.length-(n+1) then c0.body.size σ else σ j,fun i c hi hc=> ?_⟩
   have hag:∀j,P.length-(n+1)<j→j<P.length→σ j=(fun j=>if j=P.length-(n+1) then c0.body.size σ else σ j) j:=by
    intro j hj _
    show σ j=if j=P.length-(n+1) then _ else _
    rw[if_neg (by omega)]
   by_cases he:i=P.length-(n+1)
   ·subst he
    rw[hc0] at hc
    cases hc
    simp only[if_true]
    refine ⟨size_congr hag c0.body 1 0 (hP _ _ hc0),?_⟩
    have hb:=size_bound (P:=P) (i:=P.length-(n+1)) (c:=c0) (σ:=σ) (m:=capB n) (fun j hj hjl=>by
     obtain ⟨c',hc'⟩:∃c,P[j]? =some c:=⟨_,zB hjl⟩
     exact zS (hσ j c' (by omega) hc').2 (capB_mono (by omega))) c0.body 4 1 0 (by omega) (hP _ _ hc0)
    have e:P.length-(P.length-(n+1))=n+1:=by omega
    rw[e,capB]
    exact hb
   ·simp only[if_neg he]
    have h1:=hσ i c (by omega) hc
    refine ⟨h1.1.trans (size_congr (fun j hj hjl=>hag j (by omega) hjl) c.body 1 0 (hP _ _ hc)),h1.2⟩
 obtain ⟨σ,hσ⟩:=this P.length (Nat.le_refl _)
 exact ⟨σ,fun i c hc=>hσ i c (by omega) hc⟩
set_option maxRecDepth 100000
@[simp] theorem op_min {a b:Int}:Op1.ev (.mm false) [.int .i64 a, .int .i64 b]=some [.int .i64 (if b<a then b else a)]:=Eq.trans rfl rfl
def cap (n:Nat):Nat:=min n 201
theorem cap_le (n:Nat):cap n≤201:=Nat.min_le_right _ _
theorem cap_int (n:Nat):(if (201:Int)<(n:Int) then (201:Int) else n)=((cap n:Nat):Int):=by
 unfold cap
 split<;>omega
theorem cap_sum {α:Type} {f:α→Nat} {l:List α} {m a b:Nat}:cap (a+m*(l.map fun x=>cap (f x)).sum+b)=cap (a+m*(l.map f).sum+b):=by
 induction l generalizing a with
 |nil=>rfl
 |cons x t ih=>
  simp only[List.map_cons,List.sum_cons,Nat.mul_add]
  have h1:=ih (a:=a+m*cap (f x))
  have h2:cap (a+m*cap (f x)+m*(t.map f).sum+b)=cap (a+m*f x+m*(t.map f).sum+b):=by
   have hc:cap (f x)=f x∨(201≤cap (f x)∧201≤f x):=by unfold cap;omega
   rcases hc with hc|⟨hc1,hc2⟩
   ·rw[hc]
   ·rcases Nat.eq_zero_or_pos m with hm|hm
    ·subst hm;simp
    ·have g1:201≤m*cap (f x):=zS hc1 (Nat.le_mul_of_pos_left _ hm)
     have g2:201≤m*f x:=zS hc2 (Nat.le_mul_of_pos_left _ hm)
     generalize m*cap (f x)=u at*
     generalize m*f x=v at*
     unfold cap
     omega
  have e1:a+(m*cap (f x)+m*(t.map fun x=>cap (f x)).sum)+b=a+m*cap (f x)+m*(t.map fun x=>cap (f x)).sum+b:=by omega
  have e2:a+(m*f x+m*(t.map f).sum)+b=a+m*f x+m*(t.map f).sum+b:=by omega
  rw[e1,e2,h1,h2]
theorem cap_add {a b:Nat}:cap (a+cap b)=cap (a+b):=by unfold cap;omega
theorem R92 (P:List Comp) (hP:P.length≤1000) (i:Nat) (c:Comp) (σ:Nat→Nat) (l:List Int) (hl:l.length=P.length) (hσ:∀j,i<j→j<P.length→l[j]? =some ((cap (σ j):Nat):Int)):
  ∀(t:Tmpl) (d it:Int),t.ok P i c d it=true→R 92 [t.enc,[.sl 1 (l.map encI)]]=some [[.int .i64 (cap (t.size σ):Nat)]]:=by
 refine Tmpl.ind fun k tg ns ar ky os ks ih d it ho=> ?_
 have r:=Tmpl.right ho
 have ih':∀x∈(Tmpl.mk k tg ns ar ky os ks).kids,R 92 [x.enc,[.sl 1 (l.map encI)]]=some [[.int .i64 (cap (x.size σ):Nat)]]:=fun x hx=>ih x hx _ _ (r.kids x hx)
 generalize Tmpl.mk k tg ns ar ky os ks=t at r ih' ⊢
 clear ih ho
 obtain ⟨r1,r2,r3⟩:=right_kids r.n
 have loop:∀(suf:List Tmpl) (n acc:Nat),n≤t.kids.length→t.kids.drop n=suf→acc≤1+804*n→
   q92.go 0 [.sl 1 (l.map encI), .int .i64 t.kind, .int .i64 t.tag, .sl 1 (t.names.map encI), .sl 1 (t.args.map encF), .sl 5 (t.key.map Stp.enc), .sl 2 (t.ons.map On.enc), .sl 7 (t.kids.map Tmpl.enc), .int .i64 acc, .int .i64 n]=
    some [[.int .i64 (cap (acc+mulK t.kind*(suf.map fun x=>cap (x.size σ)).sum+(if t.kind=4 then σ t.tag.toNat else 0)):Nat)]]:=by
  intro suf
  induction suf with
  |nil=>
   intro n acc hn hd hacc
   have:=drop_nil hd hn
   subst this
   refine q92.g 0 rfl rfl rfl ?_
   by_cases k4:t.kind=4
   ·obtain ⟨j,hj,hij,hjl,_⟩:=right_tag r.head k4
    have hlj:=hσ j hij hjl
    have w1:IntKind.wrap .i64 ((P.length:Int)-1)=P.length-1:=wrap64 (by omega) (by omega)
    have hin:inR (j:Int) 0 ((P.length:Int)-1)=true:=inR_iff.2 ⟨by omega,by omega⟩
    have hc:=cap_le (σ j)
    have w2:IntKind.wrap .i64 ((acc:Int)+(cap (σ j):Nat))=(acc:Int)+(cap (σ j):Nat):=by rw[wrap64]<;>omega
    have e:=cap_int (acc+cap (σ j))
    rw[cap_add,Int.natCast_add] at e
    simp only[k4,hj] at*
    simp[t92_1,R49,hl,w1,hin,hlj,w2,e]
   ·have e:=cap_int acc
    simp[t92_1,k4,e]
  |cons x s ihs=>
   intro n acc hn hd hacc
   obtain ⟨hx,hlt,hd'⟩:=drop_cons hd
   have hm:=ih' x (zF hx)
   have hg:=hx
   rw[zB hlt] at hg
   injection hg with hg
   have hc:=cap_le (x.size σ)
   have hw:IntKind.wrap .i64 ((n:Int)+1)=(n:Int)+1:=wrap64 (by omega) (by omega)
   refine q92.g 0 rfl rfl rfl ?_
   rw[Tmpl.enc_eq] at hm
   have he:Tmpl.enc x=_:=Tmpl.enc_eq x
   by_cases k3:t.kind=3
   ·have h:=ihs (n+1) (acc+4*cap (x.size σ)) hlt hd' (by omega)
    have e:acc+mulK t.kind*((x::s).map fun x=>cap (x.size σ)).sum=acc+4*cap (x.size σ)+mulK t.kind*(s.map fun x=>cap (x.size σ)).sum:=by
     simp only[List.map_cons,List.sum_cons,mulK,if_pos k3]
     omega
    rw[e,← h]
    generalize cap (x.size σ)=C at*
    have w1:IntKind.wrap .i64 ((C:Int)*4)=4*(C:Int):=by rw[wrap64]<;>omega
    have w2:IntKind.wrap .i64 ((acc:Int)+4*(C:Int))=(acc:Int)+4*(C:Int):=by rw[wrap64]<;>omega
    simp[t92_1,hg,hlt,he,hm,k3,w1,w2,hw]
   ·have h:=ihs (n+1) (acc+cap (x.size σ)) hlt hd' (by omega)
    have e:acc+mulK t.kind*((x::s).map fun x=>cap (x.size σ)).sum=acc+cap (x.size σ)+mulK t.kind*(s.map fun x=>cap (x.size σ)).sum:=by
     simp only[List.map_cons,List.sum_cons,mulK,if_neg k3]
     omega
    rw[e,← h]
    generalize cap (x.size σ)=C at*
    have w2:IntKind.wrap .i64 ((acc:Int)+(C:Int))=(acc:Int)+(C:Int):=by rw[wrap64]<;>omega
    simp[t92_1,hg,hlt,he,hm,k3,w2,hw]
 have h:=loop t.kids 0 1 (by omega) rfl (by omega)
 rw[cap_sum,← Tmpl.size_eq] at h
 rw[Tmpl.enc_eq]
 refine q92.f rfl ?_
 simp at h
 simp[t92_0,h]
theorem put_int {l:List Int} {n:Nat} {v:Int} (h:n<l.length):putpD 0 1 true n [.int .i64 v] (.sl 1 (l.map encI))=some (.sl 1 ((l.set n v).map encI)):=by
 show ((l.map encI)[n]?.bind fun row=>_)=_
 rw[zK,zB h]
 simp[setCells,List.map_set]
@[simp] theorem op_at1 {o sz:Nat} {rows:List (List D)} {n:Int} (h:0≤n):Op1.ev (.at [o]) [.sl sz rows, .int .i64 n]=((rows[n.toNat]?).bind (·[o]?)).map ([·]):=by
 simp only[Op1.ev,mkWay,if_pos h,Option.map_some,Option.bind_some,D.at,cellAt]
 cases (rows[n.toNat]?).bind (·[o]?)<;>rfl
theorem R53 (P:List Comp) (hP:P.length≤1000) (hB:BodiesOk P) (σ:Nat→Nat) (hσ:IsSizes P σ):∃l:List Int,l.length=P.length∧(∀j,j<P.length→l[j]? =some ((cap (σ j):Nat):Int))∧R 53 [[.sl 10 (P.map Comp.enc)]]=some [[.sl 1 (l.map encI)]]:=by
 have loop:∀(n:Nat) (l:List Int),n≤P.length→l.length=P.length→(∀j,n≤j→j<P.length→l[j]? =some ((cap (σ j):Nat):Int))→
   ∃l':List Int,l'.length=P.length∧(∀j,j<P.length→l'[j]? =some ((cap (σ j):Nat):Int))∧q53.go 0 [.sl 10 (P.map Comp.enc), .sl 1 (l.map encI), .int .i64 ((n:Int)-1)]=some [[.sl 1 (l'.map encI)]]:=by
  intro n
  induction n with
  |zero=>
   intro l _ hl hj
   refine ⟨l,hl,fun j h=>hj j (by omega) h,q53.g 0 rfl rfl rfl ?_⟩
   simp[t53_1]
  |succ n ih=>
   intro l hn hl hj
   have hlt:n<P.length:=by omega
   have hc:P[n]? =some P[n]:=zB hlt
   obtain ⟨h1,_⟩:=hσ n _ hc
   have hz:=R92 P hP n P[n] σ l hl (fun j h1 h2=>hj j (by omega) h2) P[n].body 1 0 (hB n _ hc)
   rw[← h1] at hz
   obtain ⟨l',a,b,hgo⟩:=ih (l.set n ((cap (σ n):Nat):Int)) (by omega) (by simpa using hl) (fun j h2 h3=>by
    by_cases he:j=n
    ·subst he
     rw[zO (by omega)]
    ·rw[zN (by omega)]
     exact hj j (by omega) h3)
   refine ⟨l',a,b,q53.g 0 rfl rfl rfl ?_⟩
   have hw:IntKind.wrap .i64 ((n:Int)-1)=(n:Int)-1:=wrap64 (by omega) (by omega)
   have hp:=put_int (l:=l) (n:=n) (v:=((cap (σ n):Nat):Int)) (by omega)
   have hnl:n<l.length:=by omega
   have en:((n+1:Nat):Int)-1=(n:Int):=by omega
   have he:=Comp.enc_eq P[n]
   simp only[List.map_set,encI] at hgo hp
   rw[Tmpl.enc_eq] at hz
   rw[en]
   simp[t53_1,hlt,hl,he,hz,hp,hw,hgo]
 obtain ⟨l',a,b,hgo⟩:=loop P.length (List.replicate P.length 0) (Nat.le_refl _) (by simp) (fun j h1 h2=>by omega)
 refine ⟨l',a,b,q53.f rfl ?_⟩
 have hw:IntKind.wrap .i64 ((P.length:Int)-1)=(P.length:Int)-1:=wrap64 (by omega) (by omega)
 have hm:(P.length:Int)≤most:=by unfold most;omega
 have hz:List.replicate P.length [D.int .i64 0]=(List.replicate P.length (0:Int)).map encI:=by rw[List.map_replicate];rfl
 simp at hgo
 simp[t53_0,hw,hm,hgo]
theorem gB_mono {m:Nat}:∀{a b:Nat},a≤b→gB m a≤gB m b
 |0,b,_=>by simp[gB]
 |a+1,b+1,h=>by
  have:=gB_mono (m:=m) (a:=a) (b:=b) (by omega)
  unfold gB
  omega
theorem size_small {P:List Comp} (hP:P.length≤4) {σ:Nat→Nat} (hσ:IsSizes P σ) {i:Nat} {c:Comp} {t:Tmpl} {d it:Int} (hd:1≤d) (h:t.ok P i c d it=true):t.size σ≤5000000000:=by
 have hd4:=(Tmpl.right h).dep
 have h1:=size_bound (σ:=σ) (m:=capB 4) (fun j _ hj=>zS (hσ j _ (zB hj)).2 (capB_mono (by omega))) t (5-d).toNat d it (by omega) h
 have h2:gB (capB 4) (5-d).toNat≤gB (capB 4) 4:=gB_mono (by omega)
 have h3:gB (capB 4) 4≤5000000000:=by decide
 omega
theorem R66 (P:List Comp) (hP:P.length≤4) (hB:BodiesOk P) (σ:Nat→Nat) (hσ:IsSizes P σ):∀(n i:Nat) (c:Comp),P.length-i≤n→P[i]? =some c→∀(t:Tmpl) (d it:Int),1≤d→t.ok P i c d it=true→
  R 66 [[.sl 10 (P.map Comp.enc)],t.enc]=some [[.int .i64 (t.size σ:Nat)]]:=by
 intro n
 induction n with
 |zero=>
  intro i c h hc
  rw[zG (by omega)] at hc
  cases hc
 |succ n ihn=>
  intro i c hni hc
  refine Tmpl.ind fun k tg ns ar ky os ks ih d it hd1 ho=> ?_
  have r:=Tmpl.right ho
  have hsm:=size_small hP hσ hd1 ho
  have ih':∀x∈(Tmpl.mk k tg ns ar ky os ks).kids,R 66 [[.sl 10 (P.map Comp.enc)],x.enc]=some [[.int .i64 (x.size σ:Nat)]]:=fun x hx=>ih x hx _ _ (by omega) (r.kids x hx)
  generalize Tmpl.mk k tg ns ar ky os ks=t at r ih' hsm ⊢
  clear ih ho
  rw[Tmpl.size_eq] at hsm ⊢
  obtain ⟨r1,r2,r3⟩:=right_kids r.n
  have hmul:(t.kids.map (Tmpl.size σ)).sum≤mulK t.kind*(t.kids.map (Tmpl.size σ)).sum:=Nat.le_mul_of_pos_left _ (by unfold mulK;split<;>omega)
  have loop:∀(suf:List Tmpl) (n acc:Nat),n≤t.kids.length→t.kids.drop n=suf→acc+(suf.map (Tmpl.size σ)).sum=(t.kids.map (Tmpl.size σ)).sum→
    q66.go 0 [.sl 10 (P.map Comp.enc), .int .i64 t.kind, .int .i64 t.tag, .sl 1 (t.names.map encI), .sl 1 (t.args.map encF), .sl 5 (t.key.map Stp.enc), .sl 2 (t.ons.map On.enc), .sl 7 (t.kids.map Tmpl.enc), .int .i64 acc, .sl 7 (t.kids.map Tmpl.enc), .int .i64 t.kids.length, .int .i64 n]=
     some [[.int .i64 (1+mulK t.kind*(t.kids.map (Tmpl.size σ)).sum+(if t.kind=4 then σ t.tag.toNat else 0):Nat)]]:=by
   intro suf
   induction suf with
   |nil=>
    intro n acc hn hd hacc
    have:=drop_nil hd hn
    subst this
    refine q66.g 0 rfl rfl rfl ?_
    rw[← hacc] at hsm hmul ⊢
    simp only[List.map_nil,List.sum_nil,Nat.add_zero] at hsm hmul ⊢
    by_cases k3:t.kind=3
    ·have w1:IntKind.wrap .i64 ((acc:Int)*4)=(acc:Int)*4:=by rw[wrap64]<;>omega
     have w2:IntKind.wrap .i64 ((acc:Int)*4+1)=1+4*(acc:Int):=by rw[wrap64]<;>omega
     simp[t66_1,k3,w1,w2,mulK]
    ·by_cases k4:t.kind=4
     ·obtain ⟨j,hj,hij,hjl,_⟩:=right_tag r.head k4
      have hc':P[j]? =some P[j]:=zB hjl
      have hbz:=ihn j P[j] (by omega) hc' P[j].body 1 0 (by omega) (hB j _ hc')
      rw[← (hσ j _ hc').1,Tmpl.enc_eq] at hbz
      rw[if_pos k4,hj,Int.toNat_natCast] at hsm
      have w1:IntKind.wrap .i64 ((acc:Int)+(σ j:Int))=(acc:Int)+(σ j:Int):=by rw[wrap64]<;>omega
      have w2:IntKind.wrap .i64 ((acc:Int)+(σ j:Int)+1)=1+(acc:Int)+(σ j:Int):=by rw[wrap64]<;>omega
      have he:=Comp.enc_eq P[j]
      simp[t66_1,k4,hj,hjl,he,hbz,w1,w2,mulK]
     ·have w2:IntKind.wrap .i64 ((acc:Int)+1)=1+(acc:Int):=by rw[wrap64]<;>omega
      simp[t66_1,k3,k4,w2,mulK]
   |cons x s ihs=>
    intro n acc hn hd hacc
    obtain ⟨hx,hlt,hd'⟩:=drop_cons hd
    have hm:=ih' x (zF hx)
    have hg:=hx
    rw[zB hlt] at hg
    injection hg with hg
    simp only[List.map_cons,List.sum_cons] at hacc
    have hw:IntKind.wrap .i64 ((n:Int)+1)=(n:Int)+1:=wrap64 (by omega) (by omega)
    refine q66.g 0 rfl rfl rfl ?_
    rw[Tmpl.enc_eq] at hm
    have he:Tmpl.enc x=_:=Tmpl.enc_eq x
    have h:=ihs (n+1) (acc+x.size σ) hlt hd' (by omega)
    rw[← h]
    have w2:IntKind.wrap .i64 ((acc:Int)+(x.size σ:Int))=(acc:Int)+(x.size σ:Int):=by rw[wrap64]<;>omega
    simp[t66_1,hg,hlt,he,hm,w2,hw]
  have h:=loop t.kids 0 0 (by omega) rfl (by omega)
  rw[Tmpl.enc_eq]
  refine q66.f rfl ?_
  rw[← h]
  simp[t66_0]
set_option maxRecDepth 100000
def preV (c:Comp):Bool:=inR c.props 0 3&&(decide (c.states.length≤3)&&c.states.all Val.ok)
theorem compV_eq (c:Comp):compV c=(preV c&&actsOk c):=by unfold compV preV;simp only[Bool.and_assoc]
def bodiesFrom (P:List Comp):Nat→List Comp→Bool
 |_,[]=>true
 |i,c::t=>c.body.ok P i c 1 0&&bodiesFrom P (i+1) t
theorem bodies_of:∀{P:List Comp} {i:Nat} {suf:List Comp},bodiesFrom P i suf=true→∀(j:Nat) (c:Comp),suf[j]? =some c→c.body.ok P (i+j) c 1 0=true
 |P,i,x::t,h,0,c,hc=>by cases hc;exact (andT.1 h).1
 |P,i,x::t,h,j+1,c,hc=>by
  have:=bodies_of (andT.1 h).2 j c hc
  rwa [show i+1+j=i+(j+1) by omega] at this
theorem bodiesOk_of {P:List Comp} (h:bodiesFrom P 0 P=true):BodiesOk P:=fun i c hc=>by
 have:=bodies_of h i c hc
 rwa [Nat.zero_add] at this
theorem fair_of {c:Comp} (h:compV c=true):c.fair:=by
 unfold compV at h
 obtain ⟨h1,h⟩:=andT.1 h
 obtain ⟨h2,h⟩:=andT.1 h
 obtain ⟨h3,h4⟩:=andT.1 h
 unfold actsOk at h4
 have h5:=of_decide_eq_true (andT.1 h4).1
 exact ⟨inR_iff.1 h1,of_decide_eq_true h2,by omega⟩
theorem E19 (P:List Comp) (hP:P.length≤4) (hne:0<P.length) (hB:BodiesOk P) (σ:Nat→Nat) (hσ:IsSizes P σ):q19.go 1 [.sl 10 (P.map Comp.enc), .int .i64 P.length]=some [[.bool (decide (σ 0<200))]]:=by
 obtain ⟨l,hl,hj,hR⟩:=R53 P (by omega) hB σ hσ
 have h0:=hj 0 hne
 have hl0:(0:Int)<l.length:=by omega
 have hg0:l[0]'(by omega)=((cap (σ 0):Nat):Int):=by rw[zB (by omega)] at h0;injection h0
 have e:((cap (σ 0):Nat):Int)<200↔σ 0<200:=by unfold cap;omega
 refine q19.g 1 rfl rfl rfl ?_
 simp[t19_2,hR,hl,hne,hg0,e]
theorem L219 (P:List Comp) (hP:P.length≤4) (hb:∀c∈P,c.body.bulk≤BULK) (hpre:∀c∈P,preV c=true) (z:Bool):∀(suf:List Comp) (n:Nat),n≤P.length→P.drop n=suf→((suf.all actsOk&&bodiesFrom P n suf)=true→q19.go 1 [.sl 10 (P.map Comp.enc), .int .i64 P.length]=some [[.bool z]])→
  q19.go 1 [.sl 10 (P.map Comp.enc), .int .i64 n]=some [[.bool ((suf.all actsOk&&bodiesFrom P n suf)&&z)]]:=by
 intro suf
 induction suf with
 |nil=>
  intro n hn hd hz
  have:=drop_nil hd hn
  subst this
  simpa[bodiesFrom] using hz
 |cons x t ih=>
  intro n hn hd hz
  obtain ⟨hx,hlt,hd'⟩:=drop_cons hd
  have hmem:=zF hx
  have hg:P[n]=x:=by rw[zB hlt] at hx;injection hx
  have hw:IntKind.wrap .i64 ((n:Int)+1)=(n:Int)+1:=wrap64 (by omega) (by omega)
  have hp:=hpre x hmem
  unfold preV at hp
  obtain ⟨h1,hp⟩:=andT.1 hp
  have h2:=of_decide_eq_true (andT.1 hp).1
  have hA:=R51 x (by omega)
  have hcE:=Comp.enc_eq x
  rw[hcE] at hA
  have hcE':=hcE
  rw[← hg] at hcE'
  cases ha:actsOk x
  ·rw[ha] at hA
   refine q19.g 1 rfl rfl rfl ?_
   simp[t19_2,hlt,hg,hcE,hA,ha]
  ·rw[ha] at hA
   have ha3:x.acts.length≤3:=by unfold actsOk at ha;exact of_decide_eq_true (andT.1 ha).1
   obtain ⟨i1,i2⟩:=inR_iff.1 h1
   have hT:=R52 P (by omega) n x hx (by omega) ⟨by omega,by omega⟩ (by omega) x.body (hb x hmem) 1 0 (by omega) (by omega) (by omega)
   rw[Tmpl.enc_eq] at hT
   cases ho:x.body.ok P n x 1 0
   ·rw[ho] at hT
    refine q19.g 1 rfl rfl rfl ?_
    simp[t19_2,hlt,hg,hcE,hA,hT,ho,bodiesFrom]
   ·rw[ho] at hT
    have ih:=ih (n+1) hlt hd' (fun h=>hz (by simp[ha,bodiesFrom,ho];simpa using h))
    refine q19.g 1 rfl rfl rfl ?_
    rw[show ((n+1:Nat):Int)=(n:Int)+1 from rfl] at ih
    simp[t19_2,hlt,hg,hcE,hA,hT,ho,ha,bodiesFrom,hw,ih]
theorem L119 (P:List Comp) (hP:P.length≤4) (hb:∀c∈P,c.states.length≤most) (z:Bool):∀(suf:List Comp) (n:Nat),n≤P.length→P.drop n=suf→(suf.all preV=true→q19.go 1 [.sl 10 (P.map Comp.enc), .int .i64 0]=some [[.bool z]])→
  q19.go 0 [.sl 10 (P.map Comp.enc), .int .i64 n]=some [[.bool (suf.all preV&&z)]]:=by
 intro suf
 induction suf with
 |nil=>
  intro n hn hd hz
  have:=drop_nil hd hn
  subst this
  have hz:=hz rfl
  refine q19.g 0 rfl rfl rfl ?_
  simp[t19_1,hz]
 |cons x t ih=>
  intro n hn hd hz
  obtain ⟨hx,hlt,hd'⟩:=drop_cons hd
  have hmem:=zF hx
  have hg:P[n]=x:=by rw[zB hlt] at hx;injection hx
  have hw:IntKind.wrap .i64 ((n:Int)+1)=(n:Int)+1:=wrap64 (by omega) (by omega)
  have hcE:=Comp.enc_eq x
  have hV:=R50 x.states (hb x hmem)
  refine q19.g 0 rfl rfl rfl ?_
  cases h1:inR x.props 0 3
  ·simp[t19_1,hlt,hg,hcE,R49,h1,preV]
  ·by_cases h2:x.states.length≤3
   ·have h2':¬ (3:Int)<x.states.length:=by omega
    cases h3:x.states.all Val.ok
    ·rw[h3] at hV
     have hpx:preV x=false:=by simp only[preV,h3];cases inR x.props 0 3<;>cases decide (x.states.length≤3)<;>rfl
     rw[List.all_cons,hpx]
     simp[t19_1,hlt,hg,hcE,R49,h1,h2',hV]
    ·rw[h3] at hV
     have ih:=ih (n+1) hlt hd' (fun h=>hz (by simp only[List.all_cons,preV,h1,h2,h3];simpa[preV] using h))
     rw[show ((n+1:Nat):Int)=(n:Int)+1 from rfl] at ih
     have hpx:preV x=true:=by simp only[preV,h1,h2,h3];rfl
     rw[List.all_cons,hpx,Bool.true_and,← ih]
     simp[t19_1,hlt,hg,hcE,R49,h1,h2',hV,hw]
   ·have h2':(3:Int)<x.states.length:=by omega
    simp[t19_1,hlt,hg,hcE,R49,h1,h2,h2',preV]
theorem E24 (P:List Comp) (hP:P.length≤4) (hne:0<P.length) (hB:BodiesOk P) (σ:Nat→Nat) (hσ:IsSizes P σ):q24.go 1 [.sl 10 (P.map Comp.enc), .int .i64 P.length, .int .i64 P.length]=some [[.bool (decide (σ 0<200))]]:=by
 have hc:P[0]? =some P[0]:=zB hne
 have hR:=R66 P hP hB σ hσ P.length 0 P[0] (by omega) hc P[0].body 1 0 (by omega) (hB 0 _ hc)
 rw[← (hσ 0 _ hc).1,Tmpl.enc_eq] at hR
 have hcE:=Comp.enc_eq P[0]
 refine q24.g 1 rfl rfl rfl ?_
 have e:((σ 0:Nat):Int)<200↔σ 0<200:=by omega
 simp[t24_2,hne,hcE,hR,e]
theorem L224 (P:List Comp) (hP:P.length≤4) (hb:∀c∈P,c.body.bulk≤BULK) (hpre:∀c∈P,c.fair) (z:Bool):∀(suf:List Comp) (n:Nat),n≤P.length→P.drop n=suf→(bodiesFrom P n suf=true→q24.go 1 [.sl 10 (P.map Comp.enc), .int .i64 P.length, .int .i64 P.length]=some [[.bool z]])→
  q24.go 1 [.sl 10 (P.map Comp.enc), .int .i64 P.length, .int .i64 n]=some [[.bool (bodiesFrom P n suf&&z)]]:=by
 intro suf
 induction suf with
 |nil=>
  intro n hn hd hz
  have:=drop_nil hd hn
  subst this
  simpa[bodiesFrom] using hz
 |cons x t ih=>
  intro n hn hd hz
  obtain ⟨hx,hlt,hd'⟩:=drop_cons hd
  have hmem:=zF hx
  have hg:P[n]=x:=by rw[zB hlt] at hx;injection hx
  have hw:IntKind.wrap .i64 ((n:Int)+1)=(n:Int)+1:=wrap64 (by omega) (by omega)
  have hcE:=Comp.enc_eq x
  have hT:=R65 P (by omega) n x hx (hpre x hmem) x.body (hb x hmem) 1 0 (by omega) (by omega) (by omega)
  rw[Tmpl.enc_eq] at hT
  cases ho:x.body.ok P n x 1 0
  ·rw[ho] at hT
   refine q24.g 1 rfl rfl rfl ?_
   simp[t24_2,hlt,hg,hcE,hT,ho,bodiesFrom]
  ·rw[ho] at hT
   have ih:=ih (n+1) hlt hd' (fun h=>hz (by simp[bodiesFrom,ho];simpa using h))
   refine q24.g 1 rfl rfl rfl ?_
   rw[show ((n+1:Nat):Int)=(n:Int)+1 from rfl] at ih
   simp[t24_2,hlt,hg,hcE,hT,ho,bodiesFrom,hw,ih]
theorem L124 (P:List Comp) (hP:P.length≤4) (hb:∀c∈P,c.bulk≤BULK) (z:Bool):∀(suf:List Comp) (n:Nat),n≤P.length→P.drop n=suf→(suf.all compV=true→q24.go 1 [.sl 10 (P.map Comp.enc), .int .i64 P.length, .int .i64 0]=some [[.bool z]])→
  q24.go 0 [.sl 10 (P.map Comp.enc), .int .i64 P.length, .int .i64 n]=some [[.bool (suf.all compV&&z)]]:=by
 intro suf
 induction suf with
 |nil=>
  intro n hn hd hz
  have:=drop_nil hd hn
  subst this
  have hz:=hz rfl
  refine q24.g 0 rfl rfl rfl ?_
  simp[t24_1,hz]
 |cons x t ih=>
  intro n hn hd hz
  obtain ⟨hx,hlt,hd'⟩:=drop_cons hd
  have hmem:=zF hx
  have hg:P[n]=x:=by rw[zB hlt] at hx;injection hx
  have hw:IntKind.wrap .i64 ((n:Int)+1)=(n:Int)+1:=wrap64 (by omega) (by omega)
  have hT:=R64 P n hlt x hg (hb x hmem)
  refine q24.g 0 rfl rfl rfl ?_
  cases ho:compV x
  ·rw[ho] at hT
   simp[t24_1,hlt,hT,ho]
  ·rw[ho] at hT
   have ih:=ih (n+1) hlt hd' (fun h=>hz (by simp[ho];simpa using h))
   rw[show ((n+1:Nat):Int)=(n:Int)+1 from rfl] at ih
   rw[List.all_cons,ho,Bool.true_and,← ih]
   simp[t24_1,hlt,hT,hw]
structure FineP (P:List Comp):Prop where
 pos:0<P.length
 le:P.length≤4
 root:∀c,P[0]? =some c→c.props=0
 comps:∀c∈P,compV c=true
 bodies:BodiesOk P
 small:∃σ,IsSizes P σ∧σ 0<200
theorem prog_same (P:List Comp) (hb:sumL Comp.bulk P≤BULK):∃v:Bool,R 19 [[.sl 10 (P.map Comp.enc)]]=some [[.bool v]]∧R 24 [[.sl 10 (P.map Comp.enc)]]=some [[.bool v]]∧(v=true→FineP P):=by
 have hbc:∀c∈P,c.bulk≤BULK:=fun c hc=>sumL_mem hb hc
 have hbb:∀c∈P,c.body.bulk≤BULK:=fun c hc=>by have:=hbc c hc;unfold Comp.bulk at this;omega
 have hbs:∀c∈P,c.states.length≤most:=fun c hc=>bulk_most (sumL_len (f:=Val.bulk) (by have:=hbc c hc;unfold Comp.bulk at this;omega))
 cases h1:inR P.length 1 4
 ·refine ⟨false,q19.f rfl ?_,q24.f rfl ?_,fun e=>by cases e⟩
  ·simp[t19_0,R49,h1]
  ·simp[t24_0,R63,h1]
 ·obtain ⟨p1,p2⟩:=inR_iff.1 h1
  have hne:0<P.length:=by omega
  have hP:P.length≤4:=by omega
  have hcE:=Comp.enc_eq P[0]
  by_cases h2:P[0].props=0
  ·obtain ⟨z,hz1,hz2,hz3⟩:∃z:Bool,((P.all preV=true∧(P.all actsOk&&bodiesFrom P 0 P)=true)→q19.go 1 [.sl 10 (P.map Comp.enc), .int .i64 P.length]=some [[.bool z]])∧
     ((P.all compV=true∧bodiesFrom P 0 P=true)→q24.go 1 [.sl 10 (P.map Comp.enc), .int .i64 P.length, .int .i64 P.length]=some [[.bool z]])∧(bodiesFrom P 0 P=true→z=true→∃σ,IsSizes P σ∧σ 0<200):=by
    by_cases hB:bodiesFrom P 0 P=true
    ·obtain ⟨σ,hσ⟩:=sizes_ex (bodiesOk_of hB)
     exact ⟨decide (σ 0<200),fun _=>E19 P hP hne (bodiesOk_of hB) σ hσ,fun _=>E24 P hP hne (bodiesOk_of hB) σ hσ,fun _ hz=>⟨σ,hσ,of_decide_eq_true hz⟩⟩
    ·exact ⟨false,fun h=>absurd (andT.1 h.2).2 hB,fun h=>absurd h.2 hB,fun h=>absurd h hB⟩
   have hpc:P.all compV=(P.all preV&&P.all actsOk):=by
    have:(fun c=>compV c)=fun c=>preV c&&actsOk c:=funext compV_eq
    rw[show P.all compV=P.all (fun c=>preV c&&actsOk c) by rw[← this],Bool.eq_iff_iff]
    simp only[zL,andT]
    exact ⟨fun h=>⟨fun x hx=>(h x hx).1,fun x hx=>(h x hx).2⟩,fun h x hx=>⟨h.1 x hx,h.2 x hx⟩⟩
   have s1:=L119 P hP hbs ((P.all actsOk&&bodiesFrom P 0 P)&&z) P 0 (by omega) rfl fun hp=>by
    have:=L219 P hP hbb (zL.1 hp) z P 0 (by omega) rfl fun h=>hz1 ⟨hp,h⟩
    simpa using this
   have s2:=L124 P hP hbc (bodiesFrom P 0 P&&z) P 0 (by omega) rfl fun hp=>by
    have:=L224 P hP hbb (fun c hc=>fair_of (zL.1 hp c hc)) z P 0 (by omega) rfl fun h=>hz2 ⟨hp,h⟩
    simpa using this
   have e:(P.all preV&&((P.all actsOk&&bodiesFrom P 0 P)&&z))=(P.all compV&&(bodiesFrom P 0 P&&z)):=by rw[hpc];simp only[Bool.and_assoc]
   rw[e] at s1
   refine ⟨P.all compV&&(bodiesFrom P 0 P&&z),q19.f rfl ?_,q24.f rfl ?_,fun hv=> ?_⟩
   ·simp only[Int.natCast_zero] at s1
    generalize (P.all compV&&(bodiesFrom P 0 P&&z))=v at*
    simp[t19_0,R49,h1,hne,hcE,h2,s1]
   ·simp only[Int.natCast_zero] at s2
    generalize (P.all compV&&(bodiesFrom P 0 P&&z))=v at*
    simp[t24_0,R63,h1,hne,hcE,h2,s2]
   ·obtain ⟨v1,hv⟩:=andT.1 hv
    obtain ⟨v2,v3⟩:=andT.1 hv
    exact ⟨hne,hP,fun c hc=>by rw[zB hne] at hc;injection hc with hc;rw[← hc];exact h2,zL.1 v1,bodiesOk_of v2,hz3 v2 v3⟩
  ·refine ⟨false,q19.f rfl ?_,q24.f rfl ?_,fun e=>by cases e⟩
   ·simp[t19_0,R49,h1,hne,hcE,h2]
   ·simp[t24_0,R63,h1,hne,hcE,h2]
set_option maxRecDepth 100000
@[simp] theorem op_eqs2 {a b c d:Int} {neg:Bool}:Op1.ev (.eqs neg 2 [.int .i64 0, .int .i64 0]) [.int .i64 a, .int .i64 b, .int .i64 c, .int .i64 d]=some [.bool ((decide (a=c)&&decide (b=d)) !=neg)]:=by
 have h1:(a==c)=decide (a=c):=by by_cases h:a=c<;>simp[h]
 have h2:(b==d)=decide (b=d):=by by_cases h:b=d<;>simp[h]
 simp[Op1.ev,sames,D.same,h1,h2]
def sltOk (x:Slt):Bool:=inR x.pos 0 3&&inR x.sub 0 103
def placeOk (p:List Slt):Bool:=decide (p.length≤20)&&p.all sltOk
theorem R93 (x:Slt):R 93 [x.enc]=some [[.bool (sltOk x)]]:=by
 refine q93.f rfl ?_
 unfold sltOk
 cases h:inR x.pos 0 3<;>simp[t93_0,R49,h]
theorem G54 (l:List Slt) (hl:l.length≤most):∀(suf:List Slt) (n:Nat),n≤l.length→l.drop n=suf→q54.go 0 [.sl 2 (l.map Slt.enc), .int .i64 n]=some [[.bool (suf.all sltOk)]]:=by
 intro suf
 induction suf with
 |nil=>
  intro n hn hd
  have:=drop_nil hd hn
  subst this
  refine q54.g 0 rfl rfl rfl ?_
  simp[t54_1]
 |cons x t ih=>
  intro n hn hd
  obtain ⟨hx,hlt,hd'⟩:=drop_cons hd
  have hg:l[n]=x:=by rw[zB hlt] at hx;injection hx
  have hs:=R93 x
  simp at hs
  refine q54.g 0 rfl rfl rfl ?_
  have hw:=most_wrap (n:=n) (by omega) (by omega)
  have ih:=ih (n+1) hlt hd'
  simp at ih
  cases hr:sltOk x
  ·simp[t54_1,hg,hlt,hs,hr]
  ·simp[t54_1,hg,hlt,hs,hr,hw,ih]
theorem R54 (l:List Slt):R 54 [[.sl 2 (l.map Slt.enc)]]=some [[.bool (placeOk l)]]:=by
 refine q54.f rfl ?_
 unfold placeOk
 by_cases h:l.length≤20
 ·have h':¬ (20:Int)<l.length:=by omega
  have hG:=G54 l (by unfold most;omega) l 0 (by omega) rfl
  simp at hG
  simp[t54_0,h,h',hG]
 ·have h':(20:Int)<l.length:=by omega
  simp[t54_0,h,h']
theorem G67 (l:List Slt) (hl:l.length≤most):∀(suf:List Slt) (n:Nat),n≤l.length→l.drop n=suf→q67.go 0 [.sl 2 (l.map Slt.enc), .sl 2 (l.map Slt.enc), .int .i64 l.length, .int .i64 n]=some [[.bool (suf.all sltOk&&decide (l.length≤20))]]:=by
 intro suf
 induction suf with
 |nil=>
  intro n hn hd
  have:=drop_nil hd hn
  subst this
  refine q67.g 0 rfl rfl rfl ?_
  have e:(l.length:Int)≤20↔l.length≤20:=by omega
  simp[t67_1,e]
 |cons x t ih=>
  intro n hn hd
  obtain ⟨hx,hlt,hd'⟩:=drop_cons hd
  have hg:l[n]=x:=by rw[zB hlt] at hx;injection hx
  refine q67.g 0 rfl rfl rfl ?_
  have hw:=most_wrap (n:=n) (by omega) (by omega)
  have ih:=ih (n+1) hlt hd'
  simp at ih
  cases h1:inR x.pos 0 3
  ·simp[t67_1,hg,hlt,R63,h1,sltOk]
  ·cases h2:inR x.sub 0 103
   ·simp[t67_1,hg,hlt,R63,h1,h2,sltOk]
   ·simp[t67_1,hg,hlt,R63,h1,h2,sltOk,hw,ih]
theorem R67 (l:List Slt) (hl:l.length≤most):R 67 [[.sl 2 (l.map Slt.enc)]]=some [[.bool (placeOk l)]]:=by
 refine q67.f rfl ?_
 have hG:=G67 l hl l 0 (by omega) rfl
 simp at hG
 simp[t67_0,hG,placeOk,Bool.and_comm]
def cmpP:List Slt→List Slt→Int
 | [],[]=>0
 | [],_::_=> -1
 |_::_,[]=>1
 |a::s,b::t=>if a.pos<b.pos then -1 else if a.pos=b.pos∧a.sub<b.sub then -1 else if a=b then cmpP s t else 1
theorem slt_eq {a b:Slt}:a=b↔a.pos=b.pos∧a.sub=b.sub:=by
 cases a;cases b;simp
theorem Z55 (p q:List Slt):q55.go 1 [.sl 2 (p.map Slt.enc), .sl 2 (q.map Slt.enc)]=some [[.int .i64 (if p.length<q.length then -1 else if q.length<p.length then 1 else 0)]]:=by
 refine q55.g 1 rfl rfl rfl ?_
 by_cases h:p.length<q.length
 ·simp[t55_2,h]
 ·by_cases h2:q.length<p.length<;>simp[t55_2,h,h2]
theorem drop_nil' {α:Type} {l:List α} {n:Nat} (h:l.drop n=[]):l.length≤n:=by
 have:=congrArg List.length h
 simp at this
 omega
theorem G55 (p q:List Slt) (hp:p.length≤most):∀(s t:List Slt) (n:Nat),n≤p.length→n≤q.length→p.drop n=s→q.drop n=t→q55.go 0 [.sl 2 (p.map Slt.enc), .sl 2 (q.map Slt.enc), .int .i64 n]=some [[.int .i64 (cmpP s t)]]:=by
 have hZ:=Z55 p q
 intro s
 induction s with
 |nil=>
  intro t n hn hm hs ht
  have:=drop_nil hs hn
  subst this
  refine q55.g 0 rfl rfl rfl ?_
  cases t with
  |nil=>
   have:=drop_nil ht hm
   rw[if_neg (by omega),if_neg (by omega)] at hZ
   simp[t55_1,hZ,cmpP]
  |cons b t=>
   obtain ⟨_,hlt,_⟩:=drop_cons ht
   rw[if_pos hlt] at hZ
   simp[t55_1,hZ,cmpP]
 |cons a s ih=>
  intro t n hn hm hs ht
  obtain ⟨ha,hla,hs'⟩:=drop_cons hs
  have hga:p[n]=a:=by rw[zB hla] at ha;injection ha
  refine q55.g 0 rfl rfl rfl ?_
  cases t with
  |nil=>
   have hq:=drop_nil ht hm
   have hnq:¬ n<q.length:=by omega
   rw[if_neg (by omega),if_pos (by omega)] at hZ
   simp[t55_1,hla,hnq,hZ,cmpP]
  |cons b t=>
   obtain ⟨hb,hlb,ht'⟩:=drop_cons ht
   have hgb:q[n]=b:=by rw[zB hlb] at hb;injection hb
   have hw:=most_wrap (n:=n) (by omega) (by omega)
   have ih:=ih t (n+1) hla hlb hs' ht'
   simp at ih
   by_cases h1:a.pos<b.pos
   ·simp[t55_1,hla,hlb,hga,hgb,h1,cmpP]
   ·by_cases h2:a.pos=b.pos
    ·by_cases h3:a.sub<b.sub
     ·simp[t55_1,hla,hlb,hga,hgb,h2,h3,cmpP]
     ·by_cases h4:a.sub=b.sub
      ·simp[t55_1,hla,hlb,hga,hgb,h2,h4,cmpP,slt_eq,hw,ih]
      ·simp[t55_1,hla,hlb,hga,hgb,h2,h3,h4,cmpP,slt_eq]
    ·simp[t55_1,hla,hlb,hga,hgb,h1,h2,cmpP,slt_eq]
theorem R55 (p q:List Slt) (hp:p.length≤most):R 55 [[.sl 2 (p.map Slt.enc)],[.sl 2 (q.map Slt.enc)]]=some [[.int .i64 (cmpP p q)]]:=by
 refine q55.f rfl ?_
 have:=G55 p q hp p q 0 (by omega) (by omega) rfl rfl
 simp at this
 simp[t55_0,this]
theorem G69 (p q:List Slt) (hp:p.length≤most):∀(s t:List Slt) (n:Nat),n≤p.length→n≤q.length→p.drop n=s→q.drop n=t→q69.go 0 [.sl 2 (p.map Slt.enc), .sl 2 (q.map Slt.enc), .int .i64 (min p.length q.length:Nat), .int .i64 n]=some [[.int .i64 (cmpP s t)]]:=by
 intro s
 induction s with
 |nil=>
  intro t n hn hm hs ht
  have:=drop_nil hs hn
  subst this
  have hmn:¬ p.length<min p.length q.length:=by omega
  have hmi:¬ (p.length:Int)<(min p.length q.length:Nat):=by omega
  refine q69.g 0 rfl rfl rfl ?_
  generalize min p.length q.length=m at*
  cases t with
  |nil=>
   have h:=drop_nil ht hm
   have h1:¬ p.length<q.length:=by omega
   have h2:¬ q.length<p.length:=by omega
   simp[t69_1,hmn,h1,h2,cmpP]
  |cons b t=>
   obtain ⟨_,hlt,_⟩:=drop_cons ht
   simp[t69_1,hmn,hlt,cmpP]
 |cons a s ih=>
  intro t n hn hm hs ht
  obtain ⟨ha,hla,hs'⟩:=drop_cons hs
  have hga:p[n]=a:=by rw[zB hla] at ha;injection ha
  refine q69.g 0 rfl rfl rfl ?_
  cases t with
  |nil=>
   have hq:=drop_nil ht hm
   have hmn:¬ n<min p.length q.length:=by omega
   have h1:¬ p.length<q.length:=by omega
   have h2:q.length<p.length:=by omega
   generalize min p.length q.length=m at*
   simp[t69_1,hmn,h1,h2,cmpP]
  |cons b t=>
   obtain ⟨hb,hlb,ht'⟩:=drop_cons ht
   have hgb:q[n]=b:=by rw[zB hlb] at hb;injection hb
   have hw:=most_wrap (n:=n) (by omega) (by omega)
   have ih:=ih t (n+1) hla hlb hs' ht'
   have hmn:n<min p.length q.length:=by omega
   generalize min p.length q.length=m at*
   simp at ih
   by_cases h2:a.pos=b.pos
   ·by_cases h4:a.sub=b.sub
    ·simp[t69_1,hmn,hla,hlb,hga,hgb,h2,h4,cmpP,slt_eq,hw,ih]
    ·by_cases h3:a.sub<b.sub
     ·simp[t69_1,hmn,hla,hlb,hga,hgb,h2,h3,h4,cmpP]
     ·simp[t69_1,hmn,hla,hlb,hga,hgb,h2,h3,h4,cmpP,slt_eq]
   ·by_cases h1:a.pos<b.pos
    ·simp[t69_1,hmn,hla,hlb,hga,hgb,h1,h2,cmpP]
    ·simp[t69_1,hmn,hla,hlb,hga,hgb,h1,h2,cmpP,slt_eq]
theorem R69 (p q:List Slt) (hp:p.length≤most):R 69 [[.sl 2 (p.map Slt.enc)],[.sl 2 (q.map Slt.enc)]]=some [[.int .i64 (cmpP p q)]]:=by
 refine q69.f rfl ?_
 have:=G69 p q hp p q 0 (by omega) (by omega) rfl rfl
 have e:(if q.length<p.length then (q.length:Int) else p.length)=((min p.length q.length:Nat):Int):=by split<;>omega
 simp only[Int.natCast_zero] at this
 generalize min p.length q.length=m at*
 simp[t69_0]
 rw[e]
 exact this
def aheadOk (pr:Option (List Slt)) (p:List Slt):Bool:=match pr with
 |some q=>decide (cmpP q p<0)
 |none=>true
def cellOk (x:Cell):Bool:=placeOk x.place&&(decide (x.states.length≤3)&&x.states.all Val.ok)
def storeFrom:Option (List Slt)→List Cell→Bool
 |_,[]=>true
 |pr,x::t=>cellOk x&&(aheadOk pr x.place&&storeFrom (some x.place) t)
def storeOk (S:List Cell):Bool:=decide (S.length≤200)&&storeFrom none S
theorem cell_place {S:List Cell} (hb:sumL Cell.bulk S≤BULK) {x:Cell} (hx:x∈S):x.place.length≤most∧x.states.length≤most∧∀v∈x.states,v.fit:=by
 have h:=sumL_mem hb hx
 unfold Cell.bulk at h
 exact ⟨bulk_most (by omega),bulk_most (sumL_len (f:=Val.bulk) (by omega)),fun v hv=>by
  have:=sumL_mem (f:=Val.bulk) (n:=BULK) (by omega) hv
  unfold Val.bulk at this
  unfold BULK at this
  unfold Val.fit
  omega⟩
theorem G20 (S:List Cell) (hb:sumL Cell.bulk S≤BULK):∀(suf:List Cell) (n:Nat),n≤S.length→S.drop n=suf→q20.go 0 [.sl 2 (S.map Cell.enc), .int .i64 n]=some [[.bool (storeFrom ((ahead S n).map Cell.place) suf)]]:=by
 intro suf
 have hl:=bulk_most (sumL_len hb)
 induction suf with
 |nil=>
  intro n hn hd
  have:=drop_nil hd hn
  subst this
  refine q20.g 0 rfl rfl rfl ?_
  simp[t20_1,storeFrom]
 |cons x t ih=>
  intro n hn hd
  obtain ⟨hx,hlt,hd'⟩:=drop_cons hd
  have hmem:=zF hx
  obtain ⟨c1,c2,_⟩:=cell_place hb hmem
  have hg:S[n]=x:=by rw[zB hlt] at hx;injection hx
  refine q20.g 0 rfl rfl rfl ?_
  have hw:=most_wrap (n:=n) (by omega) (by omega)
  have ih:=ih (n+1) hlt hd'
  rw[ahead_succ hx] at ih
  simp at ih
  have hp:=R54 x.place
  have hv:=R50 x.states c2
  unfold storeFrom cellOk
  cases h1:placeOk x.place
  ·rw[h1] at hp
   simp[t20_1,hg,hlt,hp]
  ·rw[h1] at hp
   by_cases h2:x.states.length≤3
   ·have h2':¬ (3:Int)<x.states.length:=by omega
    cases h3:x.states.all Val.ok
    ·rw[h3] at hv
     simp[t20_1,hg,hlt,hp,h2',hv]
    ·rw[h3] at hv
     by_cases hz:n=0
     ·have hz':¬ 0<n:=by omega
      have ha:ahead S n=none:=by simp[ahead,hz]
      simp[t20_1,hg,hlt,hp,h2,h2',hv,hz',ha,aheadOk,hw,ih]
     ·have hz':0<n:=by omega
      have hw2:IntKind.wrap .i64 ((n:Int)-1)=((n-1:Nat):Int):=by unfold most at hl;rw[wrap64]<;>omega
      obtain ⟨y,hy⟩:∃y,S[n-1]? =some y:=⟨S[n-1]'(by omega),zB (by omega)⟩
      have ha:ahead S n=some y:=by simp[ahead,hz,hy]
      have hc:=R55 y.place x.place (cell_place hb (zF hy)).1
      by_cases h4:0≤cmpP y.place x.place
      ·have h4':¬ cmpP y.place x.place<0:=by omega
       simp[t20_1,hg,hlt,hp,h2,h2',hv,hz',hw2,hy,ha,aheadOk,hc,h4,h4']
      ·have h4':cmpP y.place x.place<0:=by omega
       simp[t20_1,hg,hlt,hp,h2,h2',hv,hz',hw2,hy,ha,aheadOk,hc,h4,h4',hw,ih]
   ·have h2':(3:Int)<x.states.length:=by omega
    simp[t20_1,hg,hlt,hp,h2,h2']
theorem G25 (S:List Cell) (hb:sumL Cell.bulk S≤BULK):∀(suf:List Cell) (n:Nat),n≤S.length→S.drop n=suf→q25.go 0 [.sl 2 (S.map Cell.enc), .sl 2 (S.map Cell.enc), .int .i64 S.length, .int .i64 n]=some [[.bool (storeFrom ((ahead S n).map Cell.place) suf&&decide (S.length≤200))]]:=by
 intro suf
 have hl:=bulk_most (sumL_len hb)
 induction suf with
 |nil=>
  intro n hn hd
  have:=drop_nil hd hn
  subst this
  refine q25.g 0 rfl rfl rfl ?_
  have e:(S.length:Int)≤200↔S.length≤200:=by omega
  simp[t25_1,storeFrom,e]
 |cons x t ih=>
  intro n hn hd
  obtain ⟨hx,hlt,hd'⟩:=drop_cons hd
  have hmem:=zF hx
  obtain ⟨c1,c2,c3⟩:=cell_place hb hmem
  have hg:S[n]=x:=by rw[zB hlt] at hx;injection hx
  refine q25.g 0 rfl rfl rfl ?_
  have hw:=most_wrap (n:=n) (by omega) (by omega)
  have ih:=ih (n+1) hlt hd'
  rw[ahead_succ hx] at ih
  simp at ih
  have hp:=R67 x.place c1
  have hv:=R68 x.states c2 c3
  unfold storeFrom cellOk
  cases h1:placeOk x.place
  ·rw[h1] at hp
   simp[t25_1,hg,hlt,hp]
  ·rw[h1] at hp
   by_cases h2:x.states.length≤3
   ·have h2':¬ (3:Int)<x.states.length:=by omega
    cases h3:x.states.all Val.ok
    ·rw[h3] at hv
     simp[t25_1,hg,hlt,hp,h2',hv]
    ·rw[h3] at hv
     by_cases hz:n=0
     ·have hz':¬ 0<n:=by omega
      have ha:ahead S n=none:=by simp[ahead,hz]
      simp[t25_1,hg,hlt,hp,h2,h2',hv,hz',ha,aheadOk,hw,ih]
     ·have hz':0<n:=by omega
      have hw2:IntKind.wrap .i64 ((n:Int)-1)=((n-1:Nat):Int):=by unfold most at hl;rw[wrap64]<;>omega
      obtain ⟨y,hy⟩:∃y,S[n-1]? =some y:=⟨S[n-1]'(by omega),zB (by omega)⟩
      have ha:ahead S n=some y:=by simp[ahead,hz,hy]
      have hc:=R69 y.place x.place (cell_place hb (zF hy)).1
      by_cases h4:0≤cmpP y.place x.place
      ·have h4':¬ cmpP y.place x.place<0:=by omega
       simp[t25_1,hg,hlt,hp,h2,h2',hv,hz',hw2,hy,ha,aheadOk,hc,h4,h4']
      ·have h4':cmpP y.place x.place<0:=by omega
       simp[t25_1,hg,hlt,hp,h2,h2',hv,hz',hw2,hy,ha,aheadOk,hc,h4,h4',hw,ih]
   ·have h2':(3:Int)<x.states.length:=by omega
    simp[t25_1,hg,hlt,hp,h2,h2']
theorem R20 (S:List Cell) (hb:sumL Cell.bulk S≤BULK):R 20 [[.sl 2 (S.map Cell.enc)]]=some [[.bool (storeOk S)]]:=by
 refine q20.f rfl ?_
 unfold storeOk
 by_cases h:S.length≤200
 ·have h':¬ (200:Int)<S.length:=by omega
  have hG:=G20 S hb S 0 (by omega) rfl
  simp[ahead] at hG
  simp[t20_0,h,h',hG]
 ·have h':(200:Int)<S.length:=by omega
  simp[t20_0,h,h']
theorem R25 (S:List Cell) (hb:sumL Cell.bulk S≤BULK):R 25 [[.sl 2 (S.map Cell.enc)]]=some [[.bool (storeOk S)]]:=by
 refine q25.f rfl ?_
 have hG:=G25 S hb S 0 (by omega) rfl
 simp[ahead] at hG
 simp[t25_0,hG,storeOk,Bool.and_comm]
set_option maxRecDepth 100000
theorem cmp_trans:∀(q y p:List Slt),cmpP q y<0→0<cmpP q p→0<cmpP y p
 | [],y,[],h1,h2=>by simp[cmpP] at h2
 | [],y,_::_,h1,h2=>by simp[cmpP] at h2
 |_::_,[],_,h1,h2=>by simp[cmpP] at h1
 |_::_,_::_,[],h1,h2=>by simp[cmpP]
 |a::s,b::t,c::u,h1,h2=>by
  have ih:=cmp_trans s t u
  unfold cmpP at h1 h2 ⊢
  simp only[slt_eq] at h1 h2 ⊢
  by_cases g1:a.pos<b.pos
  ·by_cases g2:a.pos<c.pos
   ·rw[if_pos g2] at h2;omega
   ·rw[if_neg (by omega),if_neg (by omega),if_neg (by omega)];omega
  ·rw[if_neg g1] at h1
   by_cases g2:a.pos=b.pos∧a.sub<b.sub
   ·by_cases g3:a.pos<c.pos
    ·rw[if_pos g3] at h2;omega
    ·rw[if_neg g3] at h2
     by_cases g4:a.pos=c.pos∧a.sub<c.sub
     ·rw[if_pos g4] at h2;omega
     ·rw[if_neg (by omega),if_neg (by omega),if_neg (by omega)];omega
   ·rw[if_neg g2] at h1
    by_cases g3:a.pos=b.pos∧a.sub=b.sub
    ·rw[if_pos g3] at h1
     rw[← g3.1,← g3.2]
     by_cases g4:a.pos<c.pos
     ·rw[if_pos g4] at h2;omega
     ·rw[if_neg g4] at h2 ⊢
      by_cases g5:a.pos=c.pos∧a.sub<c.sub
      ·rw[if_pos g5] at h2;omega
      ·rw[if_neg g5] at h2 ⊢
       by_cases g6:a.pos=c.pos∧a.sub=c.sub
       ·rw[if_pos g6] at h2 ⊢;exact ih h1 h2
       ·rw[if_neg g6];omega
    ·rw[if_neg g3] at h1;omega
theorem later_gt {p:List Slt}:∀{suf:List Cell} {q:List Slt},storeFrom (some q) suf=true→0<cmpP q p→∀y∈suf,0<cmpP y.place p
 | [],_,_,_,y,hy=>by cases hy
 |x::t,q,h,hq,y,hy=>by
  unfold storeFrom at h
  obtain ⟨_,h⟩:=andT.1 h
  obtain ⟨h1,h2⟩:=andT.1 h
  have h3:cmpP q x.place<0:=of_decide_eq_true h1
  have h4:=cmp_trans _ _ _ h3 hq
  rcases List.mem_cons.1 hy with rfl|hy
  ·exact h4
  ·exact later_gt h2 h4 y hy
def found (S:List Cell) (p:List Slt):Option Cell:=S.find? fun x=>decide (cmpP x.place p=0)
theorem found_none {S:List Cell} {p:List Slt} (h:∀y∈S,0<cmpP y.place p):found S p=none:=by
 unfold found
 rw[List.find?_eq_none]
 intro x hx
 have:=h x hx
 simp
 omega
theorem G129 (S:List Cell) (hb:sumL Cell.bulk S≤BULK) (p:List Slt):∀(suf:List Cell) (n:Nat) (pr:Option (List Slt)),n≤S.length→S.drop n=suf→storeFrom pr suf=true→
  ∃(k:Int) (b:Bool),q129.go 0 [.sl 2 (S.map Cell.enc), .sl 2 (p.map Slt.enc), .int .i64 n]=some [[.int .i64 k, .bool b]]∧(b=true→∃x,0≤k∧S[k.toNat]? =some x∧found suf p=some x)∧(b=false→found suf p=none):=by
 intro suf
 have hl:=bulk_most (sumL_len hb)
 induction suf with
 |nil=>
  intro n pr hn hd _
  have:=drop_nil hd hn
  subst this
  refine ⟨S.length,false,q129.g 0 rfl rfl rfl ?_,(fun h=>by cases h),fun _=>rfl⟩
  simp[t129_1]
 |cons x t ih=>
  intro n pr hn hd ho
  obtain ⟨hx,hlt,hd'⟩:=drop_cons hd
  have hmem:=zF hx
  have hg:S[n]=x:=by rw[zB hlt] at hx;injection hx
  have hw:=most_wrap (n:=n) (by omega) (by omega)
  have hc:=R55 x.place p (cell_place hb hmem).1
  have ho':=(andT.1 (andT.1 ho).2).2
  by_cases h1:cmpP x.place p<0
  ·obtain ⟨k,b,hgo,hk1,hk2⟩:=ih (n+1) _ hlt hd' ho'
   have hne:¬ cmpP x.place p=0:=by omega
   have hf:found (x::t) p=found t p:=by unfold found;rw[List.find?_cons_of_neg (by simp[hne])]
   rw[hf]
   refine ⟨k,b,q129.g 0 rfl rfl rfl ?_,hk1,hk2⟩
   simp at hgo
   simp[t129_1,hg,hlt,hc,h1,hw,hgo]
  ·refine ⟨n,decide (cmpP x.place p=0),q129.g 0 rfl rfl rfl ?_,fun h=> ?_,fun h=> ?_⟩
   ·simp[t129_1,hg,hlt,hc,h1]
   ·refine ⟨x,by omega,by simpa using hx,?_⟩
    exact List.find?_cons_of_pos (p:=fun x:Cell=>decide (cmpP x.place p=0)) h
   ·have hne:¬ cmpP x.place p=0:=of_decide_eq_false h
    unfold found
    rw[List.find?_cons_of_neg (by simp[hne])]
    exact found_none (later_gt ho' (by omega))
theorem G135 (S:List Cell) (hb:sumL Cell.bulk S≤BULK) (p:List Slt):∀(suf:List Cell) (n:Nat),n≤S.length→S.drop n=suf→
  ∃k:Int,q135.go 0 [.sl 2 (p.map Slt.enc), .sl 2 (S.map Cell.enc), .int .i64 S.length, .int .i64 n]=some [[.int .i64 k]]∧((k<0∧found suf p=none)∨(0≤k∧∃x,S[k.toNat]? =some x∧found suf p=some x)):=by
 intro suf
 have hl:=bulk_most (sumL_len hb)
 induction suf with
 |nil=>
  intro n hn hd
  have:=drop_nil hd hn
  subst this
  refine ⟨-1,q135.g 0 rfl rfl rfl ?_, .inl ⟨by omega,rfl⟩⟩
  simp[t135_1]
 |cons x t ih=>
  intro n hn hd
  obtain ⟨hx,hlt,hd'⟩:=drop_cons hd
  have hmem:=zF hx
  have hg:S[n]=x:=by rw[zB hlt] at hx;injection hx
  have hw:=most_wrap (n:=n) (by omega) (by omega)
  have hc:=R69 x.place p (cell_place hb hmem).1
  by_cases h1:cmpP x.place p=0
  ·refine ⟨n,q135.g 0 rfl rfl rfl ?_, .inr ⟨by omega,x,by simpa using hx,?_⟩⟩
   ·simp[t135_1,hg,hlt,hc,h1]
   ·unfold found
    rw[List.find?_cons_of_pos (by simp[h1])]
  ·obtain ⟨k,hgo,hk⟩:=ih (n+1) hlt hd'
   have hf:found (x::t) p=found t p:=by unfold found;rw[List.find?_cons_of_neg (by simp[h1])]
   rw[hf]
   refine ⟨k,q135.g 0 rfl rfl rfl ?_,hk⟩
   simp at hgo
   simp[t135_1,hg,hlt,hc,h1,hw,hgo]
def stAt (S:List Cell) (c:Comp) (p:List Slt):List Val:=match found S p with
 |some x=>if x.states.length=c.states.length then x.states else c.states
 |none=>c.states
@[simp] theorem op_litn {sz:Nat}:Op1.ev (.lit sz []) []=some [.sl sz []]:=Eq.trans rfl rfl
theorem flat_all (l:List Val):(l.map Val.enc).all (fun r=>r.all D.flat)=true:=by
 rw[zL]
 intro r hr
 obtain ⟨v,_,rfl⟩:=List.mem_map.1 hr
 rfl
theorem op_appv {l m:List Val} (h:l.length+m.length≤most):Op1.ev (.app 3 true) [.sl 3 (l.map Val.enc), .sl 3 (m.map Val.enc)]=some [.sl 3 ((l++m).map Val.enc)]:=by
 simp only[Op1.ev,List.length_map,flat_all,List.map_append]
 rw[if_pos ⟨trivial,trivial,h,rfl⟩]
theorem op_appv0 {m:List Val} (h:m.length≤most):Op1.ev (.app 3 true) [.sl 3 [], .sl 3 (m.map Val.enc)]=some [.sl 3 (m.map Val.enc)]:=op_appv (l:=[]) (by simpa using h)
theorem R95 (S:List Cell) (hb:sumL Cell.bulk S≤BULK) (hS:storeOk S=true) (p:List Slt) (c:Comp) (hc:c.states.length≤3):
  R 95 [[.sl 2 (S.map Cell.enc)],[.sl 2 (p.map Slt.enc)],c.enc]=some [[.sl 3 ((stAt S c p).map Val.enc)]]:=by
 obtain ⟨k,b,hgo,hk1,hk2⟩:=G129 S hb p S 0 none (by omega) rfl (andT.1 hS).2
 have hcell:R 129 [[.sl 2 (S.map Cell.enc)],[.sl 2 (p.map Slt.enc)]]=some [[.int .i64 k, .bool b]]:=by
  refine q129.f rfl ?_
  simp at hgo
  simp[t129_0,hgo]
 have e2:=op_appv0 (m:=c.states) (by unfold most;omega)
 rw[Comp.enc_eq c]
 refine q95.f rfl ?_
 unfold stAt
 cases b
 ·rw[hk2 rfl]
  simp[t95_0,hcell,e2]
 ·obtain ⟨x,h0,hx,hf⟩:=hk1 rfl
  rw[hf]
  have e1:=op_appv0 (m:=x.states) (cell_place hb (zF hx)).2.1
  by_cases h:x.states.length=c.states.length
  ·simp[t95_0,hcell,h0,hx,h,e1]
  ·have h':decide ((x.states.length:Int)=c.states.length)=false:=by rw[decide_eq_false_iff_not];omega
   simp[t95_0,hcell,h0,hx,h,h',e2]
theorem R136 (l:List Val) (h:l.length≤most):R 136 [[.sl 3 (l.map Val.enc)]]=some [[.sl 3 (l.map Val.enc)]]:=by
 refine q136.f rfl ?_
 simp[t136_0,op_appv0 h]
theorem R109 (P:List Comp) (S:List Cell) (hb:sumL Cell.bulk S≤BULK) (p:List Slt) (i:Nat) (c:Comp) (hi:P[i]? =some c) (hc:c.states.length≤3):
  R 109 [[.sl 10 (P.map Comp.enc)],[.sl 2 (S.map Cell.enc)],[.int .i64 i],[.sl 2 (p.map Slt.enc)]]=some [[.sl 3 ((stAt S c p).map Val.enc)]]:=by
 obtain ⟨k,hgo,hk⟩:=G135 S hb p S 0 (by omega) rfl
 have hcell:R 135 [[.sl 2 (S.map Cell.enc)],[.sl 2 (p.map Slt.enc)]]=some [[.int .i64 k]]:=by
  refine q135.f rfl ?_
  simp at hgo
  simp[t135_0,hgo]
 have hlt:i<P.length:=by
  rcases zJ i P.length with h|h
  ·exact h
  ·rw[zG h] at hi;cases hi
 have hg:P[i]=c:=by rw[zB hlt] at hi;injection hi
 have hcE:=Comp.enc_eq c
 have e2:=R136 c.states (by unfold most;omega)
 refine q109.f rfl ?_
 unfold stAt
 rcases hk with ⟨h0,hf⟩|⟨h0,x,hx,hf⟩
 ·rw[hf]
  have h0':¬ 0≤k:=by omega
  simp[t109_0,hcell,h0',hlt,hg,hcE,e2]
 ·rw[hf]
  have e1:=R136 x.states (cell_place hb (zF hx)).2.1
  by_cases h:x.states.length=c.states.length
  ·have h':(c.states.length:Int)=x.states.length:=by omega
   simp[t109_0,hcell,h0,hx,hlt,hg,hcE,h,e1]
  ·have h':decide ((x.states.length:Int)=c.states.length)=false:=by rw[decide_eq_false_iff_not];omega
   simp[t109_0,hcell,h0,hx,hlt,hg,hcE,h,h',e2]
set_option maxRecDepth 100000
theorem itoa_len (u:Nat):(Lib.decDigits u).length≤u+1:=by
 induction u using Nat.strongRecOn with
 |_ u ih=>
  rw[Lib.decDigits]
  split
  ·simp
  ·have:=ih (u / 10) (by omega)
   simp
   omega
theorem dig_cut:∀i:_root_.Fin 10,cut ([48,49,50,51,52,53,54,55,56,57]:List UInt8) (some (.int .i64 i.val)) (some (.int .i64 (i.val+1:Nat)))=some (Lib.decDigits i.val):=by
 intro i
 rw[Lib.decDigits,dif_pos i.isLt]
 revert i
 decide
@[simp] theorem op_ssl {s:List UInt8} {a b:Int}:Op1.ev (.ssl true true) [.str s, .int .i64 a, .int .i64 b]=(cut s (some (.int .i64 a)) (some (.int .i64 b))).map fun r=>[.str r]:=Eq.trans rfl rfl
theorem decimal_nat:∀u:Nat,u≤1000000→R 156 [[.int .i64 u]]=some [[.str (Lib.decDigits u)]]:=by
 intro u
 induction u using Nat.strongRecOn with
 |_ u ih=>
  intro hu
  refine q156.f rfl ?_
  have h0:¬ (u:Int)<0:=by omega
  by_cases h:u<10
  ·have h':(u:Int)<10:=by omega
   have hw:IntKind.wrap .i64 ((u:Int)+1)=((u+1:Nat):Int):=by rw[wrap64]<;>omega
   have hc:=dig_cut ⟨u,h⟩
   simp only[Int.natCast_add] at hw hc
   simp at hc
   simp[t156_0,h0,h',hw,hc]
  ·have h':¬ (u:Int)<10:=by omega
   have i1:=ih (u / 10) (by omega) (by omega)
   have i2:=ih (u % 10) (by omega) (by omega)
   have e1:(u:Int).tdiv 10=((u / 10:Nat):Int):=by rw[Int.tdiv_eq_ediv_of_nonneg (by omega)];omega
   have e2:(u:Int).tmod 10=((u % 10:Nat):Int):=by rw[Int.tmod_eq_emod_of_nonneg (by omega)];omega
   have w1:IntKind.wrap .i64 ((u / 10:Nat):Int)=((u / 10:Nat):Int):=by rw[wrap64]<;>omega
   have hl:=itoa_len (u / 10)
   have hl2:=itoa_len (u % 10)
   have hd:Lib.decDigits u=Lib.decDigits (u / 10)++Lib.decDigits (u % 10):=by
    rw[Lib.decDigits,dif_neg h,Lib.decDigits_one (Nat.mod_lt u (by omega))]
   have hm:(Lib.decDigits (u / 10)).length+(Lib.decDigits (u % 10)).length≤most:=by unfold most;omega
   rw[hd]
   generalize u / 10=a at*
   generalize u % 10=b at*
   simp[t156_0,h0,h',e1,e2,w1,i1,i2,hm]
@[simp] theorem op_ng {a:Int}:Op1.ev .ng [.int .i64 a]=some [.int .i64 (IntKind.wrap .i64 (0-a))]:=Eq.trans rfl rfl
theorem R156 (n:Int) (h: -1000000≤n∧n≤1000000):R 156 [[.int .i64 n]]=some [[.str (Lib.itoa n)]]:=by
 unfold Lib.itoa
 by_cases h0:n<0
 ·have i1:=decimal_nat n.natAbs (by omega)
  have hw:IntKind.wrap .i64 (0-n)=(n.natAbs:Int):=by rw[wrap64]<;>omega
  have hl:=itoa_len n.natAbs
  have hm:(Lib.decDigits n.natAbs).length+1≤most:=by unfold most;omega
  rw[if_pos h0]
  refine q156.f rfl ?_
  generalize n.natAbs=u at*
  simp at hw
  simp[t156_0,h0,hw,i1,Nat.add_comm 1,hm]
 ·have i1:=decimal_nat n.toNat (by omega)
  rw[if_neg h0]
  rwa [show ((n.toNat:Nat):Int)=n by omega] at i1
def showV (v:Val):List UInt8:=if v.kind=1 then Lib.itoa v.num else if v.kind=2 then v.text else []
def trueV (v:Val):Bool:= !decide (v.num=0)|| !decide (v.text=[])
theorem ok_num {v:Val} (h:v.ok=true): -1000≤v.num∧v.num≤1000:=by
 unfold Val.ok at h
 split at h
 ·have:=of_decide_eq_true (andT.1 h).1;omega
 ·split at h
  ·have:=inR_iff.1 (andT.1 h).1;omega
  ·split at h
   ·have:=of_decide_eq_true (andT.1 h).1;omega
   ·cases h
theorem R146 (v:Val) (h:v.ok=true):R 146 [v.enc]=some [[.str (showV v)]]:=by
 have hn:=ok_num h
 have hd:=R156 v.num (by omega)
 refine q146.f rfl ?_
 unfold showV
 by_cases h1:v.kind=1
 ·simp[t146_0,h1,hd]
 ·by_cases h2:v.kind=2<;>simp[t146_0,h1,h2]
theorem R149 (v:Val):R 149 [v.enc]=some [[.bool (trueV v)]]:=by
 refine q149.f rfl ?_
 unfold trueV
 by_cases h1:v.num=0<;>simp[t149_0,h1]
theorem R_itoa (n:Int) (h: -1000000≤n∧n≤1000000):R 155 [[.int .i64 n]]=some [[.str (Lib.itoa n)]]:=by
 refine (run_ext (T:=tab) (X:=ext) (f:=155) rfl _).trans ?_
 ·show (if -9223372036854775808≤n∧n≤9223372036854775807 then some [[D.str (Lib.itoa n)]] else none)=_
  rw[if_pos ⟨by omega,by omega⟩]
theorem fit_ok {v:Val} (h:v.ok=true):v.fit:=by
 unfold Val.fit
 unfold Val.ok at h
 split at h
 ·rw[of_decide_eq_true (andT.1 h).2];decide
 ·split at h
  ·rw[of_decide_eq_true (andT.1 h).2];decide
  ·split at h
   ·have h2:=(andT.1 h).2
    unfold wordOk at h2
    have:=of_decide_eq_true (andT.1 h2).1
    omega
   ·cases h
theorem ok_kind {v:Val} (h:v.ok=true):(v.kind=0∧v.num=0∧v.text=[])∨(v.kind=1∧v.text=[])∨(v.kind=2∧v.num=0∧wordOk v.text=true):=by
 unfold Val.ok at h
 split at h
 ·exact .inl ⟨by assumption,of_decide_eq_true (andT.1 h).1,of_decide_eq_true (andT.1 h).2⟩
 ·split at h
  ·exact .inr (.inl ⟨by assumption,of_decide_eq_true (andT.1 h).2⟩)
  ·split at h
   ·exact .inr (.inr ⟨by assumption,of_decide_eq_true (andT.1 h).1,(andT.1 h).2⟩)
   ·cases h
theorem R138 (v:Val) (h:v.ok=true):R 138 [v.enc]=some [[.str (showV v)]]:=by
 have hn:=ok_num h
 have hd:=R_itoa v.num (by omega)
 have ho:=R108 v (fit_ok h)
 rw[h] at ho
 simp at ho
 refine q138.f rfl ?_
 unfold showV
 rcases ok_kind h with ⟨h1,_⟩|⟨h1,_⟩|⟨h1,_⟩
 ·rw[h1] at ho;simp[t138_0,h1,ho]
 ·rw[h1] at ho;simp[t138_0,h1,ho,hd]
 ·rw[h1] at ho;simp[t138_0,h1,ho]
theorem R140 (v:Val) (h:v.ok=true):R 140 [v.enc]=some [[.bool (trueV v)]]:=by
 have ho:=R108 v (fit_ok h)
 rw[h] at ho
 simp at ho
 refine q140.f rfl ?_
 unfold trueV
 rcases ok_kind h with ⟨h1,h2,h3⟩|⟨h1,h2⟩|⟨h1,h2,_⟩
 ·rw[h1,h2,h3] at ho;simp[t140_0,h1,h2,h3,ho]
 ·rw[h1,h2] at ho
  by_cases h3:v.num=0
  ·rw[h3] at ho;simp[t140_0,h1,h2,h3,ho]
  ·simp[t140_0,h1,h2,h3,ho]
 ·rw[h1,h2] at ho;simp[t140_0,h1,h2,ho]
def numV (n:Int):Val:=if inR n (-1000) 1000=true then ⟨1,n,[]⟩ else .zero
def boolV (b:Bool):Val:=⟨1,if b=true then 1 else 0,[]⟩
theorem R165 (n:Int):R 165 [[.int .i64 n]]=some [(numV n).enc]:=by
 refine q165.f rfl ?_
 unfold numV Val.zero
 cases h:inR n (-1000) 1000<;>simp[t165_0,R49,h]
theorem R153 (n:Int):R 153 [[.int .i64 n]]=some [[.int .i64 1, .int .i64 n, .str []]]:=by
 refine q153.f rfl ?_
 simp[t153_0]
theorem R164 (b:Bool):R 164 [[.bool b]]=some [(boolV b).enc]:=by
 refine q164.f rfl ?_
 have h1:numV 1=⟨1,1,[]⟩:=by decide
 have h0:numV 0=⟨1,0,[]⟩:=by decide
 unfold boolV
 cases b<;>simp[t164_0,R165,h1,h0]
theorem R162 (b:Bool):R 162 [[.bool b]]=some [(boolV b).enc]:=by
 refine q162.f rfl ?_
 unfold boolV
 cases b<;>simp[t162_0,R153]
def doV (op:Int) (a b:Val):Val:=
 if op=4 then boolV (decide (a=b)) else if op=6 then (if trueV a=true then b else a)
 else if op=5 then (if wordOk (showV a++showV b)=true then ⟨2,0,showV a++showV b⟩ else .zero)
 else if a.kind=1∧b.kind=1 then (if op=0 then numV (a.num+b.num) else if op=1 then numV (a.num-b.num) else if op=2 then numV (a.num*b.num) else boolV (decide (a.num<b.num)))
 else .zero
set_option maxRecDepth 100000
theorem mul_small {a b:Int} (ha: -1000≤a∧a≤1000) (hb: -1000≤b∧b≤1000): -1000000≤a*b∧a*b≤1000000:=by
 have h1:(a*b).natAbs≤1000*1000:=by
  rw[Int.natAbs_mul]
  exact Nat.mul_le_mul (by omega) (by omega)
 omega
theorem show_len {v:Val} (h:v.ok=true):(showV v).length≤2000:=by
 unfold showV
 have hn:=ok_num h
 split
 ·unfold Lib.itoa
  have h1:=itoa_len v.num.natAbs
  have h2:=itoa_len v.num.toNat
  split
  ·simp;omega
  ·omega
 ·split
  ·rcases ok_kind h with ⟨_,_,h3⟩|⟨_,h3⟩|⟨_,_,h3⟩
   ·rw[h3];simp
   ·rw[h3];simp
   ·unfold wordOk at h3
    have:=of_decide_eq_true (andT.1 h3).1
    omega
  ·simp
theorem val_dec (a b:Val):(decide (a.kind=b.kind)&&(decide (a.num=b.num)&&decide (a.text=b.text)))=decide (a=b):=by
 obtain ⟨x,y,z⟩:=a
 obtain ⟨x',y',z'⟩:=b
 by_cases h1:x=x'<;>by_cases h2:y=y'<;>by_cases h3:z=z'<;>simp[h1,h2,h3]
theorem R157 (op:Int) (a b:Val) (ha:a.ok=true) (hb:b.ok=true):R 157 [[.int .i64 op],a.enc,b.enc]=some [(doV op a b).enc]:=by
 have na:=ok_num ha
 have nb:=ok_num hb
 have nm:=mul_small na nb
 have w1:IntKind.wrap .i64 (a.num+b.num)=a.num+b.num:=wrap64 (by omega) (by omega)
 have w2:IntKind.wrap .i64 (a.num-b.num)=a.num-b.num:=wrap64 (by omega) (by omega)
 have w3:IntKind.wrap .i64 (a.num*b.num)=a.num*b.num:=wrap64 (by omega) (by omega)
 have t1:=R149 a
 have s1:=R146 a ha
 have s2:=R146 b hb
 have l1:=show_len ha
 have l2:=show_len hb
 have hm:(showV a).length+(showV b).length≤most:=by unfold most;omega
 have vw:=R122 (showV a++showV b)
 simp at t1 s1 s2
 have hG:∀c:Bool,c=decide (a.kind=1∧b.kind=1)→q157.go 0 [.int .i64 op, .int .i64 a.kind, .int .i64 a.num, .str a.text, .int .i64 b.kind, .int .i64 b.num, .str b.text, .int .i64 0, .int .i64 0, .str [], .bool c, .bool (decide (op=4))]=some [(doV op a b).enc]:=by
  intro c hc
  refine q157.g 0 rfl rfl rfl ?_
  unfold doV
  by_cases h4:op=4
  ·simp[t157_1,h4,R164,val_dec]
  by_cases h6:op=6
  ·cases ht:trueV a
   ·rw[ht] at t1;simp[t157_1,h6,t1]
   ·rw[ht] at t1;simp[t157_1,h6,t1]
  by_cases h5:op=5
  ·cases hw:wordOk (showV a++showV b)
   ·rw[hw] at vw;simp[t157_1,h5,s1,s2,hm,vw,Val.zero]
   ·rw[hw] at vw;simp[t157_1,h5,s1,s2,hm,vw]
  by_cases hk:a.kind=1∧b.kind=1
  ·have hc':c=true:=by rw[hc];exact decide_eq_true hk
   by_cases h0:op=0
   ·simp[t157_1,hc',hk,h0,w1,R165]
   by_cases h1:op=1
   ·simp[t157_1,hc',hk,h1,w2,R165]
   by_cases h2:op=2
   ·simp[t157_1,hc',hk,h2,w3,R165]
   simp[t157_1,hc',hk,h0,h1,h2,h4,h5,h6,R164]
  ·have hc':c=false:=by rw[hc];exact decide_eq_false hk
   simp[t157_1,hc',hk,h4,h5,h6,Val.zero]
 refine q157.f rfl ?_
 simp only[Val.enc] at hG ⊢
 by_cases k1:a.kind=1
 ·by_cases k2:b.kind=1
  ·have:=hG true (by simp[k1,k2])
   rw[k1,k2] at this
   simp[t157_0,k1,k2,this]
  ·have:=hG false (by simp[k1,k2])
   rw[k1] at this
   simp[t157_0,k1,k2,this]
 ·have:=hG false (by simp[k1])
  simp[t157_0,k1,this]
theorem num_in {n:Int}:(numV n).enc=if inR n (-1000) 1000=true then [.int .i64 1, .int .i64 n, .str []] else [.int .i64 0, .int .i64 0, .str []]:=by
 unfold numV Val.zero
 split<;>rfl
theorem R154 (op:Int) (hop:0≤op∧op≤6) (a b:Val) (ha:a.ok=true) (hb:b.ok=true):R 154 [[.int .i64 op],a.enc,b.enc]=some [(doV op a b).enc]:=by
 have na:=ok_num ha
 have nb:=ok_num hb
 have nm:=mul_small na nb
 have w1:IntKind.wrap .i64 (a.num+b.num)=a.num+b.num:=wrap64 (by omega) (by omega)
 have w2:IntKind.wrap .i64 (a.num-b.num)=a.num-b.num:=wrap64 (by omega) (by omega)
 have w3:IntKind.wrap .i64 (a.num*b.num)=a.num*b.num:=wrap64 (by omega) (by omega)
 have t1:=R140 a ha
 have s1:=R138 a ha
 have s2:=R138 b hb
 have o1:=R108 a (fit_ok ha)
 have o2:=R108 b (fit_ok hb)
 rw[ha] at o1
 rw[hb] at o2
 have l1:=show_len ha
 have l2:=show_len hb
 have hm:(showV a).length+(showV b).length≤most:=by unfold most;omega
 have hm2:(showV a++showV b).length<9223372036854775807:=by rw[List.length_append];omega
 have vw:=R108 ⟨2,0,showV a++showV b⟩ hm2
 have hv:(⟨2,0,showV a++showV b⟩:Val).ok=wordOk (showV a++showV b):=by simp[Val.ok]
 rw[hv] at vw
 simp at t1 s1 s2 o1 o2 vw
 have hG:(op=0∨op=1∨op=2∨op=3)→∀c:Bool,c= !decide (a.kind=1∧b.kind=1)→q154.go 0 [.int .i64 op, .int .i64 a.kind, .int .i64 a.num, .str a.text, .int .i64 b.kind, .int .i64 b.num, .str b.text, .int .i64 0, .int .i64 0, .str [], .bool c]=some [(doV op a b).enc]:=by
  intro hop c hc
  refine q154.g 0 rfl rfl rfl ?_
  unfold doV
  have h4:¬ op=4:=by omega
  have h5:¬ op=5:=by omega
  have h6:¬ op=6:=by omega
  rw[if_neg h4,if_neg h6,if_neg h5]
  by_cases hk:a.kind=1∧b.kind=1
  ·have hc':c=false:=by rw[hc,decide_eq_true hk];rfl
   rw[if_pos hk]
   by_cases h0:op=0
   ·rw[if_pos h0,num_in]
    cases hr:inR (a.num+b.num) (-1000) 1000<;>simp[t154_1,hc',h0,w1,R153,R63,hr]
   by_cases h1:op=1
   ·rw[if_neg h0,if_pos h1,num_in]
    cases hr:inR (a.num-b.num) (-1000) 1000<;>simp[t154_1,hc',h1,w2,R153,R63,hr]
   by_cases h2:op=2
   ·rw[if_neg h0,if_neg h1,if_pos h2,num_in]
    cases hr:inR (a.num*b.num) (-1000) 1000<;>simp[t154_1,hc',h2,w3,R153,R63,hr]
   simp[t154_1,hc',h0,h1,h2,R162]
  ·have hc':c=true:=by rw[hc,decide_eq_false hk];rfl
   rw[if_neg hk]
   simp[t154_1,hc',Val.zero]
 refine q154.f rfl ?_
 have hlow:(op=0∨op=1∨op=2∨op=3)→evT (runF tab ext) (q154.go) t154_0 (pushD [[D.int .i64 op],a.enc,b.enc].flatten [])=some [(doV op a b).enc]:=by
  intro h
  have hG:=hG h
  simp only[Val.enc] at hG ⊢
  by_cases k1:a.kind=1
  ·by_cases k2:b.kind=1
   ·have:=hG false (by simp[k1,k2])
    rw[k1,k2] at this
    rw[k1] at o1
    rw[k2] at o2
    rcases h with h|h|h|h<;>subst h<;>simp[t154_0,o1,o2,k1,k2,this]
   ·have:=hG true (by simp[k1,k2])
    rw[k1] at this o1
    rcases h with h|h|h|h<;>subst h<;>simp[t154_0,o1,o2,k1,k2,this]
  ·have:=hG true (by simp[k1])
   rcases h with h|h|h|h<;>subst h<;>simp[t154_0,o1,o2,k1,this]
 by_cases h4:op=4
 ·unfold doV
  simp[t154_0,o1,o2,h4,R162,val_dec]
 by_cases h6:op=6
 ·unfold doV
  cases ht:trueV a
  ·rw[ht] at t1;simp[t154_0,o1,o2,h6,t1]
  ·rw[ht] at t1;simp[t154_0,o1,o2,h6,t1]
 by_cases h5:op=5
 ·unfold doV
  cases hw:wordOk (showV a++showV b)
  ·rw[hw] at vw;simp[t154_0,o1,o2,h5,s1,s2,hm,vw,Val.zero]
  ·rw[hw] at vw;simp[t154_0,o1,o2,h5,s1,s2,hm,vw]
 exact hlow (by omega)
set_option maxRecDepth 100000
structure VE where
 props:List Val
 states:List Val
 items:List Int
 pay:List Val
def VE.enc (e:VE):List D:=[.sl 3 (e.props.map Val.enc), .sl 3 (e.states.map Val.enc), .sl 1 (e.items.map encI), .sl 3 (e.pay.map Val.enc)]
def leafV (e:VE) (x:Stp):Val:=
 if x.kind=1 then e.props.getD x.a.toNat .zero else if x.kind=2 then e.states.getD x.a.toNat .zero
 else if x.kind=3 then numV (e.items.getD (e.items.length-1-x.a.toNat) 0) else if x.kind=4 then e.pay.getD x.a.toNat .zero else x.val
def stepR (e:VE) (x:Stp) (rs:List Val):List Val:=
 if x.kind=5 then (match rs with
  |v::u::r=>doV x.a u v::r
  |_=>[])
 else if x.kind=6 then (match rs with
  |w::v::u::r=>(if trueV u=true then v else w)::r
  |_=>[])
 else leafV e x::rs
def goV (e:VE):List Stp→List Val→List Val
 | [],rs=>rs
 |x::f,rs=>goV e f (stepR e x rs)
structure VE.Fits (e:VE) (p s t:Int):Prop where
 p:p≤e.props.length
 s:s≤e.states.length
 t:t≤e.items.length
 y:2≤e.pay.length
 vp:∀v∈e.props,v.ok=true
 vs:∀v∈e.states,v.ok=true
 vt:∀n∈e.items, -1000≤n∧n≤1000
 vy:∀v∈e.pay,v.ok=true
 lt:e.items.length≤1000
theorem getD_ok {l:List Val} {n:Nat} (h:∀v∈l,v.ok=true):(l.getD n .zero).ok=true:=by
 rw[zM]
 cases hg:l[n]? with
 |none=>decide
 |some v=>exact h v (zF hg)
theorem numV_ok (n:Int):(numV n).ok=true:=by
 unfold numV
 split
 ·rename_i h;simp[Val.ok,h]
 ·decide
theorem boolV_ok (b:Bool):(boolV b).ok=true:=by cases b<;>decide
theorem doV_ok {op:Int} {a b:Val} (ha:a.ok=true) (hb:b.ok=true):(doV op a b).ok=true:=by
 unfold doV
 split
 ·exact boolV_ok _
 ·split
  ·split<;>assumption
  ·split
   ·split
    ·rename_i h;simp[Val.ok,h]
    ·decide
   ·split
    ·split
     ·exact numV_ok _
     ·split
      ·exact numV_ok _
      ·split
       ·exact numV_ok _
       ·exact boolV_ok _
    ·decide
theorem leaf_ok {e:VE} {p s t:Int} (he:e.Fits p s t) {x:Stp} (hx:x.ok p s t=true) (h5:x.kind≠5) (h6:x.kind≠6):(leafV e x).ok=true:=by
 unfold leafV
 split
 ·exact getD_ok he.vp
 ·split
  ·exact getD_ok he.vs
  ·split
   ·exact numV_ok _
   ·split
    ·exact getD_ok he.vy
    ·unfold Stp.ok at hx
     by_cases h0:x.kind=0
     ·rw[if_pos h0] at hx;exact (andT.1 hx).2
     ·rw[if_neg h0] at hx
      rename_i a b c d
      rw[if_neg a,if_neg b,if_neg c,if_neg d,if_neg h5,if_neg h6] at hx
      simp at hx
theorem step_ok {e:VE} {p s t:Int} (he:e.Fits p s t) {x:Stp} (hx:x.ok p s t=true) {rs:List Val} (hr:∀v∈rs,v.ok=true) (ht:x.takes≤rs.length):(∀v∈stepR e x rs,v.ok=true)∧((stepR e x rs).length:Int)=rs.length-x.takes+1:=by
 unfold stepR
 unfold Stp.takes at ht ⊢
 by_cases h5:x.kind=5
 ·rw[if_pos h5] at ht ⊢
  rw[if_pos h5]
  match rs,ht,hr with
  |v::u::r,ht,hr=>
   refine ⟨fun w hw=> ?_,by simp;omega⟩
   rcases List.mem_cons.1 hw with rfl|hw
   ·exact doV_ok (hr u (by simp)) (hr v (by simp))
   ·exact hr w (by simp[hw])
  | [v],ht,_=>simp at ht
  | [],ht,_=>simp at ht
 ·rw[if_neg h5] at ht ⊢
  rw[if_neg h5]
  by_cases h6:x.kind=6
  ·rw[if_pos h6] at ht ⊢
   rw[if_pos h6]
   match rs,ht,hr with
   |w::v::u::r,ht,hr=>
    refine ⟨fun z hz=> ?_,by simp;omega⟩
    rcases List.mem_cons.1 hz with rfl|hz
    ·split
     ·exact hr v (by simp)
     ·exact hr w (by simp)
    ·exact hr z (by simp[hz])
   | [w,v],ht,_=>simp at ht
   | [v],ht,_=>simp at ht
   | [],ht,_=>simp at ht
  ·rw[if_neg h6] at ht ⊢
   rw[if_neg h6]
   refine ⟨fun z hz=> ?_,by simp⟩
   rcases List.mem_cons.1 hz with rfl|hz
   ·exact leaf_ok he hx h5 h6
   ·exact hr z hz
theorem at_get {l:List Val} {n:Int} (h0:0≤n) (h:n<l.length):l[n.toNat]? =some (l.getD n.toNat .zero):=by
 have:n.toNat<l.length:=by omega
 rw[zM,zB this]
 rfl
theorem R158 (e:VE) (p s t:Int) (he:e.Fits p s t) (x:Stp) (hx:x.ok p s t=true) (h5:x.kind≠5) (h6:x.kind≠6):R 158 [x.enc,e.enc]=some [(leafV e x).enc]:=by
 refine q158.f rfl ?_
 unfold leafV VE.enc
 unfold Stp.ok at hx
 by_cases h0:x.kind=0
 ·simp[t158_0,h0]
 rw[if_neg h0] at hx
 have hx:=(andT.1 hx).2
 by_cases h1:x.kind=1
 ·rw[if_pos h1] at hx
  obtain ⟨g1,g2⟩:=inR_iff.1 hx
  have hg:=at_get (l:=e.props) g1 (by have:=he.p;omega)
  rw[if_pos h1]
  generalize e.props.getD x.a.toNat .zero=w at*
  simp[t158_0,h1,g1,hg]
 rw[if_neg h1] at hx ⊢
 by_cases h2:x.kind=2
 ·rw[if_pos h2] at hx ⊢
  obtain ⟨g1,g2⟩:=inR_iff.1 hx
  have hg:=at_get (l:=e.states) g1 (by have:=he.s;omega)
  generalize e.states.getD x.a.toNat .zero=w at*
  simp[t158_0,h2,g1,hg]
 rw[if_neg h2] at hx ⊢
 by_cases h3:x.kind=3
 ·rw[if_pos h3] at hx ⊢
  obtain ⟨g1,g2⟩:=inR_iff.1 hx
  have hlt:=he.lt
  have ht:=he.t
  have w1:IntKind.wrap .i64 ((e.items.length:Int)-1)=e.items.length-1:=wrap64 (by omega) (by omega)
  have w2:IntKind.wrap .i64 ((e.items.length:Int)-1-x.a)=((e.items.length-1-x.a.toNat:Nat):Int):=by rw[wrap64]<;>omega
  have hk:e.items.length-1-x.a.toNat<e.items.length:=by omega
  have hg:e.items[e.items.length-1-x.a.toNat]? =some (e.items.getD (e.items.length-1-x.a.toNat) 0):=by
   rw[zM,zB hk];rfl
  generalize e.items.getD (e.items.length-1-x.a.toNat) 0=w at*
  generalize e.items.length-1-x.a.toNat=m at*
  simp[t158_0,h3,w1,w2,hg,R165]
 rw[if_neg h3] at hx ⊢
 by_cases h4:x.kind=4
 ·rw[if_pos h4] at hx ⊢
  obtain ⟨g1,g2⟩:=inR_iff.1 hx
  have hg:=at_get (l:=e.pay) g1 (by have:=he.y;omega)
  generalize e.pay.getD x.a.toNat .zero=w at*
  simp[t158_0,h4,g1,hg]
 rw[if_neg h4,if_neg h5,if_neg h6] at hx
 cases hx
set_option maxRecDepth 100000
theorem op_sub0 {l:List Val} {m:Nat} (h:m≤l.length):Op1.ev (.sub 3 false true) [.sl 3 (l.map Val.enc), .int .i64 m]=some [.sl 3 ((l.take m).map Val.enc)]:=by
 simp only[Op1.ev,optD,cut,endOf,natOf,if_pos (Int.natCast_nonneg m),Int.toNat_natCast,List.length_map,if_true,Option.bind_some]
 rw[if_pos ⟨by omega,h⟩]
 simp[List.map_take]
theorem op_app1 {l:List Val} {v:Val} (h:l.length<most):Op1.ev (.app 3 true) [.sl 3 (l.map Val.enc), .sl 3 [[.int .i64 v.kind, .int .i64 v.num, .str v.text]]]=some [.sl 3 ((l++[v]).map Val.enc)]:=
 op_appv (l:=l) (m:=[v]) (by simp;omega)
@[simp] theorem op_lit3 {a b c:D}:Op1.ev (.lit 3 [3]) [a,b,c]=some [.sl 3 [[a,b,c]]]:=Eq.trans rfl rfl
abbrev evEnv (f:List Stp) (e:VE) (l:List Val) (n:Nat) (more:List D):List D:=
 .sl 5 (f.map Stp.enc)::(e.enc++(.int .i64 0:: .int .i64 0:: .str []:: .sl 3 (l.map Val.enc):: .int .i64 n::more))
theorem A147 (f:List Stp) (e:VE) (l:List Val) (n m:Nat) (v:Val) (hm:m≤l.length) (hl:l.length<most) (hn:n<most) (r:List (List D)) (h:q147.go 0 (evEnv f e (l.take m++[v]) (n+1) [])=some r):
  q147.go 1 (evEnv f e l n (.int .i64 m::v.enc))=some r:=by
 have h1:=op_sub0 hm
 have h2:=op_app1 (l:=l.take m) (v:=v) (by rw[List.length_take];omega)
 have hw:=most_wrap (n:=n) (by omega) (by omega)
 unfold evEnv VE.enc at h ⊢
 refine q147.g 1 rfl rfl rfl ?_
 generalize hL:l.take m++[v]=L at*
 generalize l.take m=L' at*
 simp at h
 simp[t147_2,h1,h2,hw,h]
theorem rev_take (r t:List Val):(r.reverse++t).take r.length=r.reverse:=by
 have h:r.reverse.length=r.length:=List.length_reverse
 rw[← h]
 exact List.take_left
theorem G147 (e:VE) (p s t:Int) (he:e.Fits p s t) (f:List Stp) (hf:f.length≤9):∀(suf:List Stp) (n:Nat) (rs:List Val),n≤f.length→f.drop n=suf→(∀v∈rs,v.ok=true)→rs.length≤n→isOne (foldF p s t suf rs.length)=true→
  ∃v,goV e suf rs=[v]∧v.ok=true∧q147.go 0 (evEnv f e rs.reverse n [])=some [v.enc]:=by
 intro suf
 induction suf with
 |nil=>
  intro n rs hn hd hr hrn h1
  have:=drop_nil hd hn
  subst this
  unfold foldF isOne at h1
  have hlen:rs.length=1:=by have:=of_decide_eq_true h1;omega
  match rs,hlen,hr with
  | [v],_,hr=>
   refine ⟨v,rfl,hr v (by simp),?_⟩
   unfold evEnv VE.enc
   refine q147.g 0 rfl rfl rfl ?_
   simp[t147_1]
 |cons x q ih=>
  intro n rs hn hd hr hrn h1
  obtain ⟨hx,hlt,hd'⟩:=drop_cons hd
  have hg:f[n]=x:=by rw[zB hlt] at hx;injection hx
  unfold foldF at h1
  by_cases hc:x.ok p s t=true∧x.takes≤rs.length
  ·rw[if_pos hc] at h1
   obtain ⟨hxo,htk⟩:=hc
   obtain ⟨so,sl⟩:=step_ok he hxo hr htk
   have htk0:=x.takes_le
   rw[← sl] at h1
   obtain ⟨v,hv,hvo,hgo⟩:=ih (n+1) (stepR e x rs) hlt hd' so (by omega) h1
   refine ⟨v,hv,hvo,?_⟩
   have ht:=R124 x
   simp at ht
   have hbase:IntKind.wrap .i64 ((rs.length:Int)-x.takes)=(rs.length:Int)-x.takes:=wrap64 (by omega) (by omega)
   by_cases h5:x.kind=5
   ·have e5:x.takes=2:=by unfold Stp.takes;rw[if_pos h5]
    rw[e5] at ht htk hbase
    rw[h5] at ht
    match rs,htk,hr,hgo,hbase,hrn with
    |b::a::r,htk,hr,hgo,hbase,hrn=>
     have hrn':r.length+2≤n:=by simpa using hrn
     have hl:(b::a::r).reverse=r.reverse++[a,b]:=by simp
     have hstep:(stepR e x (b::a::r)).reverse=r.reverse++[doV x.a a b]:=by unfold stepR;rw[if_pos h5];simp
     rw[hstep] at hgo
     have ht1:(r.reverse++[a,b]).take r.length=r.reverse:=rev_take r [a,b]
     have g1:(r.reverse++[a,b])[r.length]? =some a:=by rw[zH (by simp)];simp
     have g2:(r.reverse++[a,b])[r.length+1]? =some b:=by rw[zH (by simp)];simp
     have hlen:(r.reverse++[a,b]).length=r.length+2:=by simp
     have hA:=A147 f e (r.reverse++[a,b]) n r.length (doV x.a a b) (by omega) (by unfold most;omega) (by unfold most;omega) _ (by rw[ht1];exact hgo)
     have hdo:=R157 x.a a b (hr a (by simp)) (hr b (by simp))
     rw[hl]
     have hbase':IntKind.wrap .i64 (((r.length+2:Nat):Int)-2)=(r.length:Int):=by rw[wrap64]<;>omega
     have hw1:IntKind.wrap .i64 ((r.length:Int)+1)=((r.length+1:Nat):Int):=by rw[wrap64]<;>omega
     have n1:r.length<r.length+2:=by omega
     have n2:r.length+1<r.length+2:=by omega
     generalize r.reverse++[a,b]=L at*
     generalize doV x.a a b=w at*
     generalize r.length+1=k1 at*
     generalize hk2:r.length+2=k2 at*
     generalize r.length=k0 at*
     have q1:L[k0]'(by omega)=a:=by rw[zB (by omega)] at g1;injection g1
     have q2:L[k1]'(by omega)=b:=by rw[zB (by omega)] at g2;injection g2
     unfold evEnv VE.enc at hA ⊢
     refine q147.g 0 rfl rfl rfl ?_
     simp at hA hdo
     simp[t147_1,hlt,hg,h5,ht,hlen,hbase',hw1,n1,n2,q1,q2,hdo,hA]
    | [_],htk,_,_,_,_=>simp at htk
    | [],htk,_,_,_,_=>simp at htk
   ·by_cases h6:x.kind=6
    ·have e6:x.takes=3:=by unfold Stp.takes;rw[if_neg h5,if_pos h6]
     rw[e6] at ht htk hbase
     rw[h6] at ht
     match rs,htk,hr,hgo,hbase,hrn with
     |b::a::z::r,htk,hr,hgo,hbase,hrn=>
      have hrn':r.length+3≤n:=by simpa using hrn
      have hl:(b::a::z::r).reverse=r.reverse++[z,a,b]:=by simp
      have hstep:(stepR e x (b::a::z::r)).reverse=r.reverse++[if trueV z=true then a else b]:=by unfold stepR;rw[if_neg h5,if_pos h6];simp
      rw[hstep] at hgo
      have ht1:(r.reverse++[z,a,b]).take r.length=r.reverse:=rev_take r [z,a,b]
      have g0:(r.reverse++[z,a,b])[r.length]? =some z:=by rw[zH (by simp)];simp
      have g1:(r.reverse++[z,a,b])[r.length+1]? =some a:=by rw[zH (by simp)];simp
      have g2:(r.reverse++[z,a,b])[r.length+2]? =some b:=by rw[zH (by simp)];simp
      have hlen:(r.reverse++[z,a,b]).length=r.length+3:=by simp
      have hA:=A147 f e (r.reverse++[z,a,b]) n r.length (if trueV z=true then a else b) (by omega) (by unfold most;omega) (by unfold most;omega) _ (by rw[ht1];exact hgo)
      have hT:=R149 z
      rw[hl]
      have hbase':IntKind.wrap .i64 (((r.length+3:Nat):Int)-3)=(r.length:Int):=by rw[wrap64]<;>omega
      have hw1:IntKind.wrap .i64 ((r.length:Int)+1)=((r.length+1:Nat):Int):=by rw[wrap64]<;>omega
      have hw2:IntKind.wrap .i64 ((r.length:Int)+2)=((r.length+2:Nat):Int):=by rw[wrap64]<;>omega
      have n0:r.length<r.length+3:=by omega
      have n1:r.length+1<r.length+3:=by omega
      have n2:r.length+2<r.length+3:=by omega
      generalize r.reverse++[z,a,b]=L at*
      generalize r.length+1=k1 at*
      generalize r.length+2=k2 at*
      generalize hk3:r.length+3=k3 at*
      generalize r.length=k0 at*
      have q0:L[k0]'(by omega)=z:=by rw[zB (by omega)] at g0;injection g0
      have q1:L[k1]'(by omega)=a:=by rw[zB (by omega)] at g1;injection g1
      have q2:L[k2]'(by omega)=b:=by rw[zB (by omega)] at g2;injection g2
      unfold evEnv VE.enc at hA ⊢
      refine q147.g 0 rfl rfl rfl ?_
      cases hz:trueV z
      ·rw[hz] at hA hT
       simp at hA hT
       simp[t147_1,hlt,hg,h6,ht,hlen,hbase',hw1,hw2,n0,n1,n2,q0,q1,q2,hT,hA]
      ·rw[hz] at hA hT
       simp at hA hT
       simp[t147_1,hlt,hg,h6,ht,hlen,hbase',hw1,hw2,n0,n1,n2,q0,q1,q2,hT,hA]
     | [_,_],htk,_,_,_,_=>simp at htk
     | [_],htk,_,_,_,_=>simp at htk
     | [],htk,_,_,_,_=>simp at htk
    ·have e0:x.takes=0:=by unfold Stp.takes;rw[if_neg h5,if_neg h6]
     rw[e0] at ht
     have hstep:(stepR e x rs).reverse=rs.reverse++[leafV e x]:=by unfold stepR;rw[if_neg h5,if_neg h6];simp
     rw[hstep] at hgo
     have hlen:rs.reverse.length=rs.length:=List.length_reverse
     have ht1:rs.reverse.take rs.length=rs.reverse:=by rw[← hlen];exact List.take_length
     have hA:=A147 f e rs.reverse n rs.length (leafV e x) (by omega) (by unfold most;omega) (by unfold most;omega) _ (by rw[ht1];exact hgo)
     have hT:=R158 e p s t he x hxo h5 h6
     have hbase':IntKind.wrap .i64 (rs.length:Int)=(rs.length:Int):=by rw[wrap64]<;>omega
     generalize leafV e x=w at*
     generalize rs.reverse=L at*
     generalize rs.length=k0 at*
     unfold evEnv VE.enc at hA ⊢
     unfold VE.enc at hT
     refine q147.g 0 rfl rfl rfl ?_
     simp at hA hT
     simp[t147_1,hlt,hg,h5,h6,ht,hlen,hbase',hT,hA]
  ·rw[if_neg hc] at h1
   cases h1
def valF (e:VE) (f:List Stp):Val:=(goV e f []).headD .zero
theorem R147 (e:VE) (p s t:Int) (he:e.Fits p s t) (f:List Stp) (hf:formOk f p s t=true):R 147 [[.sl 5 (f.map Stp.enc)],e.enc]=some [(valF e f).enc]∧(valF e f).ok=true:=by
 unfold formOk at hf
 have hl:=of_decide_eq_true (andT.1 hf).1
 obtain ⟨v,hv,ho,hgo⟩:=G147 e p s t he f hl f 0 [] (by omega) rfl (fun _ h=>by cases h) (by simp) (by simpa using (andT.1 hf).2)
 have hv':valF e f=v:=by unfold valF;rw[hv];rfl
 rw[hv']
 refine ⟨q147.f rfl ?_,ho⟩
 unfold evEnv VE.enc at hgo
 unfold VE.enc
 simp at hgo
 simp[t147_0,hgo]
set_option maxRecDepth 100000
abbrev frEnv (f:List Stp) (e:VE) (l:List Val) (n:Nat):List D:=
 e.enc++[.int .i64 0, .int .i64 0, .str [], .sl 3 (l.map Val.enc), .sl 5 (f.map Stp.enc), .int .i64 f.length, .int .i64 n]
theorem L137 (e:VE) (p s t:Int) (he:e.Fits p s t) (f:List Stp) (l:List Val) (hl:l.length<most) (n:Nat) (hlt:n<f.length) (hfl:f.length≤most) (x:Stp) (hg:f[n]=x) (hx:x.ok p s t=true) (h5:x.kind≠5) (h6:x.kind≠6) (r:List (List D))
  (h:q137.go 0 (frEnv f e (l++[leafV e x]) (n+1))=some r):q137.go 0 (frEnv f e l n)=some r:=by
 have hw:=most_wrap (n:=n) (by omega) (by omega)
 have ha:=fun v=>op_app1 (l:=l) (v:=v) hl
 unfold frEnv VE.enc at h ⊢
 refine q137.g 0 rfl rfl rfl ?_
 unfold leafV at h
 unfold Stp.ok at hx
 by_cases h0:x.kind=0
 ·have ha:=ha x.val
  rw[if_neg (by omega),if_neg (by omega),if_neg (by omega),if_neg (by omega)] at h
  generalize l++[x.val]=L at*
  simp at h
  simp[t137_1,hlt,hg,h0,ha,hw,h]
 rw[if_neg h0] at hx
 have hx:=(andT.1 hx).2
 by_cases h1:x.kind=1
 ·rw[if_pos h1] at hx h
  obtain ⟨g1,g2⟩:=inR_iff.1 hx
  have hg':=at_get (l:=e.props) g1 (by have:=he.p;omega)
  have ha:=ha (e.props.getD x.a.toNat .zero)
  generalize e.props.getD x.a.toNat .zero=w at*
  generalize l++[w]=L at*
  simp at h
  simp[t137_1,hlt,hg,h1,g1,hg',ha,hw,h]
 rw[if_neg h1] at hx h
 by_cases h2:x.kind=2
 ·rw[if_pos h2] at hx h
  obtain ⟨g1,g2⟩:=inR_iff.1 hx
  have hg':=at_get (l:=e.states) g1 (by have:=he.s;omega)
  have ha:=ha (e.states.getD x.a.toNat .zero)
  generalize e.states.getD x.a.toNat .zero=w at*
  generalize l++[w]=L at*
  simp at h
  simp[t137_1,hlt,hg,h2,g1,hg',ha,hw,h]
 rw[if_neg h2] at hx h
 by_cases h3:x.kind=3
 ·rw[if_pos h3] at hx h
  obtain ⟨g1,g2⟩:=inR_iff.1 hx
  have hlt':=he.lt
  have ht:=he.t
  have w1:IntKind.wrap .i64 ((e.items.length:Int)-1)=e.items.length-1:=wrap64 (by omega) (by omega)
  have w2:IntKind.wrap .i64 ((e.items.length:Int)-1-x.a)=((e.items.length-1-x.a.toNat:Nat):Int):=by rw[wrap64]<;>omega
  have hk:e.items.length-1-x.a.toNat<e.items.length:=by omega
  have hg':e.items[e.items.length-1-x.a.toNat]? =some (e.items.getD (e.items.length-1-x.a.toNat) 0):=by
   rw[zM,zB hk];rfl
  have hin:=he.vt _ (zF hg')
  have hnv:numV (e.items.getD (e.items.length-1-x.a.toNat) 0)=⟨1,e.items.getD (e.items.length-1-x.a.toNat) 0,[]⟩:=by unfold numV;rw[if_pos (inR_iff.2 hin)]
  rw[hnv] at h
  have ha:=ha ⟨1,e.items.getD (e.items.length-1-x.a.toNat) 0,[]⟩
  generalize e.items.getD (e.items.length-1-x.a.toNat) 0=w at*
  generalize e.items.length-1-x.a.toNat=m at*
  simp only at ha
  generalize l++[(⟨1,w,[]⟩:Val)]=L at*
  simp at h
  simp[t137_1,hlt,hg,h3,w1,w2,hg',R153,ha,hw,h]
 rw[if_neg h3] at hx h
 by_cases h4:x.kind=4
 ·rw[if_pos h4] at hx h
  obtain ⟨g1,g2⟩:=inR_iff.1 hx
  have hg':=at_get (l:=e.pay) g1 (by have:=he.y;omega)
  have ha:=ha (e.pay.getD x.a.toNat .zero)
  generalize e.pay.getD x.a.toNat .zero=w at*
  generalize l++[w]=L at*
  simp at h
  simp[t137_1,hlt,hg,h4,g1,hg',ha,hw,h]
 rw[if_neg h4,if_neg h5,if_neg h6] at hx
 cases hx
theorem dec_of {x:Stp} {p s t:Int} (hx:x.ok p s t=true) (h5:x.kind=5):0≤x.a∧x.a≤6:=by
 unfold Stp.ok at hx
 rw[if_neg (by omega)] at hx
 have hx:=(andT.1 hx).2
 rw[if_neg (by omega),if_neg (by omega),if_neg (by omega),if_neg (by omega),if_pos h5] at hx
 exact inR_iff.1 hx
theorem G137 (e:VE) (p s t:Int) (he:e.Fits p s t) (f:List Stp) (hf:f.length≤9):∀(suf:List Stp) (n:Nat) (rs:List Val),n≤f.length→f.drop n=suf→(∀v∈rs,v.ok=true)→rs.length≤n→isOne (foldF p s t suf rs.length)=true→
  ∃v,goV e suf rs=[v]∧q137.go 0 (frEnv f e rs.reverse n)=some [v.enc]:=by
 intro suf
 induction suf with
 |nil=>
  intro n rs hn hd hr hrn h1
  have:=drop_nil hd hn
  subst this
  unfold foldF isOne at h1
  have hlen:rs.length=1:=by have:=of_decide_eq_true h1;omega
  match rs,hlen,hr with
  | [v],_,hr=>
   refine ⟨v,rfl,?_⟩
   unfold frEnv VE.enc
   refine q137.g 0 rfl rfl rfl ?_
   simp[t137_1]
 |cons x q ih=>
  intro n rs hn hd hr hrn h1
  obtain ⟨hx,hlt,hd'⟩:=drop_cons hd
  have hg:f[n]=x:=by rw[zB hlt] at hx;injection hx
  have hw:=most_wrap (n:=n) (by omega) (by unfold most;omega)
  unfold foldF at h1
  by_cases hc:x.ok p s t=true∧x.takes≤rs.length
  ·rw[if_pos hc] at h1
   obtain ⟨hxo,htk⟩:=hc
   obtain ⟨so,sl⟩:=step_ok he hxo hr htk
   have htk0:=x.takes_le
   rw[← sl] at h1
   obtain ⟨v,hv,hgo⟩:=ih (n+1) (stepR e x rs) hlt hd' so (by omega) h1
   refine ⟨v,hv,?_⟩
   by_cases h5:x.kind=5
   ·have e5:x.takes=2:=by unfold Stp.takes;rw[if_pos h5]
    rw[e5] at htk
    match rs,htk,hr,hgo,hrn with
    |b::a::r,htk,hr,hgo,hrn=>
     have hrn':r.length+2≤n:=by simpa using hrn
     have hl:(b::a::r).reverse=r.reverse++[a,b]:=by simp
     have hstep:(stepR e x (b::a::r)).reverse=r.reverse++[doV x.a a b]:=by unfold stepR;rw[if_pos h5];simp
     rw[hstep] at hgo
     have ht1:(r.reverse++[a,b]).take r.length=r.reverse:=rev_take r [a,b]
     have g1:(r.reverse++[a,b])[r.length]? =some a:=by rw[zH (by simp)];simp
     have g2:(r.reverse++[a,b])[r.length+1]? =some b:=by rw[zH (by simp)];simp
     have hlen:(r.reverse++[a,b]).length=r.length+2:=by simp
     have hrl:r.reverse.length=r.length:=List.length_reverse
     have hsub:=op_sub0 (l:=r.reverse++[a,b]) (m:=r.length) (by omega)
     rw[ht1] at hsub
     have happ:=op_app1 (l:=r.reverse) (v:=doV x.a a b) (by unfold most;omega)
     have hdo:=R154 x.a (dec_of hxo h5) a b (hr a (by simp)) (hr b (by simp))
     rw[hl]
     have hw1:IntKind.wrap .i64 (((r.length+2:Nat):Int)-2)=(r.length:Int):=by rw[wrap64]<;>omega
     have hw2:IntKind.wrap .i64 (((r.length+2:Nat):Int)-1)=((r.length+1:Nat):Int):=by rw[wrap64]<;>omega
     have n1:r.length<r.length+2:=by omega
     have n2:r.length+1<r.length+2:=by omega
     generalize r.reverse++[a,b]=L at*
     generalize doV x.a a b=w at*
     generalize r.reverse++[w]=L2 at*
     generalize r.reverse=L1 at*
     generalize r.length+1=k1 at*
     generalize hk2:r.length+2=k2 at*
     generalize r.length=k0 at*
     have q1:L[k0]'(by omega)=a:=by rw[zB (by omega)] at g1;injection g1
     have q2:L[k1]'(by omega)=b:=by rw[zB (by omega)] at g2;injection g2
     unfold frEnv VE.enc at hgo ⊢
     refine q137.g 0 rfl rfl rfl ?_
     simp at hgo hdo
     simp[t137_1,hlt,hg,h5,hlen,hw1,hw2,n1,n2,q1,q2,hsub,hdo,happ,hw,hgo]
    | [_],htk,_,_,_=>simp at htk
    | [],htk,_,_,_=>simp at htk
   ·by_cases h6:x.kind=6
    ·have e6:x.takes=3:=by unfold Stp.takes;rw[if_neg h5,if_pos h6]
     rw[e6] at htk
     match rs,htk,hr,hgo,hrn with
     |b::a::z::r,htk,hr,hgo,hrn=>
      have hrn':r.length+3≤n:=by simpa using hrn
      have hl:(b::a::z::r).reverse=r.reverse++[z,a,b]:=by simp
      have hstep:(stepR e x (b::a::z::r)).reverse=r.reverse++[if trueV z=true then a else b]:=by unfold stepR;rw[if_neg h5,if_pos h6];simp
      rw[hstep] at hgo
      have ht1:(r.reverse++[z,a,b]).take r.length=r.reverse:=rev_take r [z,a,b]
      have g0:(r.reverse++[z,a,b])[r.length]? =some z:=by rw[zH (by simp)];simp
      have g1:(r.reverse++[z,a,b])[r.length+1]? =some a:=by rw[zH (by simp)];simp
      have g2:(r.reverse++[z,a,b])[r.length+2]? =some b:=by rw[zH (by simp)];simp
      have hlen:(r.reverse++[z,a,b]).length=r.length+3:=by simp
      have hrl:r.reverse.length=r.length:=List.length_reverse
      have hsub:=op_sub0 (l:=r.reverse++[z,a,b]) (m:=r.length) (by omega)
      rw[ht1] at hsub
      have happ:=fun v=>op_app1 (l:=r.reverse) (v:=v) (by unfold most;omega)
      have hT:=R140 z (hr z (by simp))
      rw[hl]
      have hw0:IntKind.wrap .i64 (((r.length+3:Nat):Int)-3)=(r.length:Int):=by rw[wrap64]<;>omega
      have hw1:IntKind.wrap .i64 (((r.length+3:Nat):Int)-2)=((r.length+1:Nat):Int):=by rw[wrap64]<;>omega
      have hw2:IntKind.wrap .i64 (((r.length+3:Nat):Int)-1)=((r.length+2:Nat):Int):=by rw[wrap64]<;>omega
      have n0:r.length<r.length+3:=by omega
      have n1:r.length+1<r.length+3:=by omega
      have n2:r.length+2<r.length+3:=by omega
      generalize r.reverse++[z,a,b]=L at*
      have hga:=fun (c:Bool) (hc:trueV z=c)=>hgo
      generalize r.length+1=k1 at*
      generalize r.length+2=k2 at*
      generalize hk3:r.length+3=k3 at*
      generalize r.length=k0 at*
      have q0:L[k0]'(by omega)=z:=by rw[zB (by omega)] at g0;injection g0
      have q1:L[k1]'(by omega)=a:=by rw[zB (by omega)] at g1;injection g1
      have q2:L[k2]'(by omega)=b:=by rw[zB (by omega)] at g2;injection g2
      clear hga hstep
      unfold frEnv VE.enc at hgo ⊢
      refine q137.g 0 rfl rfl rfl ?_
      cases hz:trueV z
      ·rw[hz] at hgo hT
       have happ:=happ b
       rw[if_neg (by simp)] at hgo
       generalize r.reverse++[b]=L2 at*
       generalize r.reverse=L1 at*
       simp at hgo hT
       simp[t137_1,hlt,hg,h6,hlen,hw0,hw1,hw2,n0,n1,n2,q0,q1,q2,hT,hsub,happ,hw,hgo]
      ·rw[hz] at hgo hT
       have happ:=happ a
       rw[if_pos rfl] at hgo
       generalize r.reverse++[a]=L2 at*
       generalize r.reverse=L1 at*
       simp at hgo hT
       simp[t137_1,hlt,hg,h6,hlen,hw0,hw1,hw2,n0,n1,n2,q0,q1,q2,hT,hsub,happ,hw,hgo]
     | [_,_],htk,_,_,_=>simp at htk
     | [_],htk,_,_,_=>simp at htk
     | [],htk,_,_,_=>simp at htk
    ·have hstep:(stepR e x rs).reverse=rs.reverse++[leafV e x]:=by unfold stepR;rw[if_neg h5,if_neg h6];simp
     rw[hstep] at hgo
     exact L137 e p s t he f rs.reverse (by rw[List.length_reverse];unfold most;omega) n hlt (by unfold most;omega) x hg hxo h5 h6 _ hgo
  ·rw[if_neg hc] at h1
   cases h1
theorem R137 (e:VE) (p s t:Int) (he:e.Fits p s t) (f:List Stp) (hf:formOk f p s t=true):R 137 [[.sl 5 (f.map Stp.enc)],e.enc]=some [(valF e f).enc]:=by
 unfold formOk at hf
 have hl:=of_decide_eq_true (andT.1 hf).1
 obtain ⟨v,hv,hgo⟩:=G137 e p s t he f hl f 0 [] (by omega) rfl (fun _ h=>by cases h) (by simp) (by simpa using (andT.1 hf).2)
 have hv':valF e f=v:=by unfold valF;rw[hv];rfl
 rw[hv']
 refine q137.f rfl ?_
 unfold frEnv VE.enc at hgo
 unfold VE.enc
 simp at hgo
 simp[t137_0,hgo]
set_option maxRecDepth 100000
structure Cal where
 place:List Slt
 comp:Int
 props:List Val
 pay:List Val
def Cal.enc (c:Cal):List D:=[.sl 2 (c.place.map Slt.enc), .int .i64 c.comp, .sl 3 (c.props.map Val.enc), .sl 3 (c.pay.map Val.enc)]
structure Hrd where
 n:Int
 ons:List On
def Hrd.enc (h:Hrd):List D:=[.int .i64 h.n, .sl 2 (h.ons.map On.enc)]
structure DS where
 calls:List Cal
 heard:List Hrd
 n:Int
def DS.enc (s:DS):List D:=[.sl 4 (s.calls.map Cal.enc), .sl 2 (s.heard.map Hrd.enc), .int .i64 s.n]
abbrev DFn:=VE→List Slt→DS→List Tre×DS
def drawAll (e:VE) (pl:List Slt):List DFn→Nat→DS→List Tre×DS
 | [],_,st=>([],st)
 |f::t,i,st=>((f e (pl++[⟨i,0⟩]) st).1++(drawAll e pl t (i+1) (f e (pl++[⟨i,0⟩]) st).2).1,(drawAll e pl t (i+1) (f e (pl++[⟨i,0⟩]) st).2).2)
def keyV (v:Val):Int:=if v.kind=1∧inR v.num 0 99=true then v.num else -1
def setKey (k:Int):List Tre→List Tre
 | []=>[]
 | .mk tg ky tx ps ks::t=>if tg≠ -1∧k≠ -1 then .mk tg k tx ps ks::t else .mk tg ky tx ps ks::t
def itemE (e:VE) (i:Int):VE:=⟨e.props,e.states,e.items++[i],e.pay⟩
def eachKey (ky:List Stp) (e:VE):Int:=if 0<ky.length then keyV (valF e ky) else -1
def eachD (f:DFn) (ky:List Stp) (e:VE) (pl:List Slt):Nat→Int→List Int→DS→List Tre×DS
 |0,_,_,st=>([],st)
 |n+1,i,seen,st=>
  if eachKey ky (itemE e i)≠ -1∧eachKey ky (itemE e i)∈seen then eachD f ky e pl n (i+1) seen st
  else
   let k:=eachKey ky (itemE e i)
   let r:=f (itemE e i) (pl++[⟨0,if k≠ -1 then 4+k else i⟩]) st
   let q:=eachD f ky e pl n (i+1) (if k≠ -1 then seen++[k] else seen) r.2
   (setKey k r.1++q.1,q.2)
def countV (v:Val):Nat:=(min v.num 4).toNat
def prpsV (e:VE) (ns:List Int) (ar:List (List Stp)):List Prp:=(ns.zip ar).map fun p=>⟨p.1,valF e p.2⟩
def drawN (k tg:Int) (ns:List Int) (ar:List (List Stp)) (ky:List Stp) (os:List On) (fs:List DFn):DFn:=fun e pl st=>
 if k=0 then ([.mk (-1) (-1) (showV (valF e (ar.getD 0 []))) [] []],st)
 else if k=1 then
  let st1:DS:=⟨st.calls,if 0<os.length then st.heard++[⟨st.n,os⟩] else st.heard,st.n+1⟩
  let r:=drawAll e pl fs 0 st1
  ([.mk tg (-1) [] (prpsV e ns ar) r.1],r.2)
 else if k=2 then
  if trueV (valF e (ar.getD 0 []))=true then (match fs with
   |f::_=>f e (pl++[⟨0,0⟩]) st
   | []=>([],st))
  else (match fs with
   |_::g::_=>g e (pl++[⟨1,0⟩]) st
   |_=>([],st))
 else if k=3 then (match fs with
  |f::_=>eachD f ky e pl (countV (valF e (ar.getD 0 []))) 0 [] st
  | []=>([],st))
 else if k=4 then ([.mk (-2) (-1) [] [] []],⟨st.calls++[⟨pl,tg,ar.map (valF e),e.pay⟩],st.heard,st.n⟩)
 else drawAll ⟨e.props,e.states,e.items,e.pay.set tg.toNat (valF e (ar.getD 0 []))⟩ pl fs 0 st
def Tmpl.draw:Tmpl→DFn
 | .mk k tg ns ar ky os ks=>drawN k tg ns ar ky os (ks.map Tmpl.draw)
theorem Tmpl.draw_eq (t:Tmpl):t.draw=drawN t.kind t.tag t.names t.args t.key t.ons (t.kids.map Tmpl.draw):=by
 cases t
 rw[Tmpl.draw]
 rfl
set_option maxRecDepth 100000
theorem flat_slots (l:List Slt):(l.map Slt.enc).all (fun r=>r.all D.flat)=true:=by
 rw[zL]
 intro r hr
 obtain ⟨v,_,rfl⟩:=List.mem_map.1 hr
 rfl
theorem flat_ons (l:List On):(l.map On.enc).all (fun r=>r.all D.flat)=true:=by
 rw[zL]
 intro r hr
 obtain ⟨v,_,rfl⟩:=List.mem_map.1 hr
 rfl
theorem flat_ints (l:List Int):(l.map encI).all (fun r=>r.all D.flat)=true:=by
 rw[zL]
 intro r hr
 obtain ⟨v,_,rfl⟩:=List.mem_map.1 hr
 rfl
theorem flat_prps (l:List Prp):(l.map Prp.enc).all (fun r=>r.all D.flat)=true:=by
 rw[zL]
 intro r hr
 obtain ⟨v,_,rfl⟩:=List.mem_map.1 hr
 rfl
theorem op_app_t {sz:Nat} {xs ys:List (List D)} (h:xs.length+ys.length≤most) (h1:xs.all (fun r=>r.all D.flat)=true) (h2:ys.all (fun r=>r.all D.flat)=true):Op1.ev (.app sz true) [.sl sz xs, .sl sz ys]=some [.sl sz (xs++ys)]:=by
 simp only[Op1.ev,h1,h2]
 rw[if_pos ⟨trivial,trivial,h,rfl⟩]
theorem op_app_f {sz:Nat} {xs ys:List (List D)} (h:xs.length+ys.length≤most):Op1.ev (.app sz false) [.sl sz xs, .sl sz ys]=some [.sl sz (xs++ys)]:=by
 simp only[Op1.ev]
 rw[if_pos ⟨trivial,trivial,h,rfl⟩]
@[simp] theorem op_lit22 {a b:D}:Op1.ev (.lit 2 [2]) [a,b]=some [.sl 2 [[a,b]]]:=Eq.trans rfl rfl
@[simp] theorem op_lit4 {a b c d:D}:Op1.ev (.lit 4 [4]) [a,b,c,d]=some [.sl 4 [[a,b,c,d]]]:=Eq.trans rfl rfl
@[simp] theorem op_lit5 {a b c d e:D}:Op1.ev (.lit 5 [5]) [a,b,c,d,e]=some [.sl 5 [[a,b,c,d,e]]]:=Eq.trans rfl rfl
@[simp] theorem op_max {a b:Int}:Op1.ev (.mm true) [.int .i64 a, .int .i64 b]=some [.int .i64 (if a<b then b else a)]:=Eq.trans rfl rfl
theorem R128 (pl:List Slt) (hl:pl.length<most) (i s:Int):R 128 [[.sl 2 (pl.map Slt.enc)],[.int .i64 i],[.int .i64 s]]=some [[.sl 2 ((pl++[(⟨i,s⟩:Slt)]).map Slt.enc)]]:=by
 have h1:=op_app_t (sz:=2) (xs:=[]) (ys:=pl.map Slt.enc) (by simp;omega) rfl (flat_slots pl)
 have h2:=op_app_t (sz:=2) (xs:=pl.map Slt.enc) (ys:=[[.int .i64 i, .int .i64 s]]) (by simp;omega) (flat_slots pl) rfl
 refine q128.f rfl ?_
 simp only[List.nil_append] at h1
 simp[t128_0,h1,h2]
theorem R111 (pl:List Slt) (hl:pl.length<most) (i s:Int):R 111 [[.sl 2 (pl.map Slt.enc)],[.int .i64 i],[.int .i64 s]]=some [[.sl 2 ((pl++[(⟨i,s⟩:Slt)]).map Slt.enc)]]:=by
 have h1:=op_app_t (sz:=2) (xs:=[]) (ys:=pl.map Slt.enc) (by simp;omega) rfl (flat_slots pl)
 have h2:=op_app_t (sz:=2) (xs:=pl.map Slt.enc) (ys:=[[.int .i64 i, .int .i64 s]]) (by simp;omega) (flat_slots pl) rfl
 refine q111.f rfl ?_
 simp only[List.nil_append] at h1
 simp[t111_0,h1,h2]
theorem R141 (pl:List Slt) (hl:pl.length≤most):R 141 [[.sl 2 (pl.map Slt.enc)]]=some [[.sl 2 (pl.map Slt.enc)]]:=by
 have h1:=op_app_t (sz:=2) (xs:=[]) (ys:=pl.map Slt.enc) (by simp;omega) rfl (flat_slots pl)
 refine q141.f rfl ?_
 simp only[List.nil_append] at h1
 simp[t141_0,h1]
theorem R160 (v:Val):R 160 [v.enc]=some [[.int .i64 (keyV v)]]:=by
 refine q160.f rfl ?_
 unfold keyV
 by_cases h:v.kind=1
 ·cases h2:inR v.num 0 99<;>simp[t160_0,h,R49,h2]
 ·simp[t160_0,h]
theorem count_int (n:Int):(if (0:Int)<(if 4<n then 4 else n) then (if (4:Int)<n then 4 else n) else 0)=(((min n 4).toNat:Nat):Int):=by
 split<;>split<;>omega
theorem R159 (v:Val):R 159 [v.enc]=some [[.int .i64 (countV v:Nat)]]:=by
 refine q159.f rfl ?_
 have e:=count_int v.num
 unfold countV
 rw[← e]
 simp[t159_0]
theorem R161 (l:List Int) (hl:l.length≤most) (k:Int):R 161 [[.sl 1 (l.map encI)],[.int .i64 k]]=some [[.bool (decide (k∈l))]]:=by
 have loop:∀(suf:List Int) (n:Nat),n≤l.length→l.drop n=suf→q161.go 0 [.sl 1 (l.map encI), .int .i64 k, .int .i64 n]=some [[.bool (decide (k∈suf))]]:=by
  intro suf
  induction suf with
  |nil=>
   intro n hn hd
   have:=drop_nil hd hn
   subst this
   refine q161.g 0 rfl rfl rfl ?_
   simp[t161_1]
  |cons x t ih=>
   intro n hn hd
   obtain ⟨hx,hlt,hd'⟩:=drop_cons hd
   have hg:l[n]=x:=by rw[zB hlt] at hx;injection hx
   have hw:=most_wrap (n:=n) (by omega) (by omega)
   have ih:=ih (n+1) hlt hd'
   simp at ih
   refine q161.g 0 rfl rfl rfl ?_
   by_cases h:x=k
   ·simp[t161_1,hg,hlt,h]
   ·have h':¬ k=x:=fun e=>h e.symm
    simp[t161_1,hg,hlt,h,h',hw,ih]
 refine q161.f rfl ?_
 have:=loop l 0 (by omega) rfl
 simp at this
 simp[t161_0,this]
set_option maxRecDepth 100000
def Tmpl.wt (t:Tmpl):Nat:=t.size fun _=>0
theorem Tmpl.wt_eq (t:Tmpl):t.wt=1+mulK t.kind*(t.kids.map Tmpl.wt).sum:=by
 unfold Tmpl.wt
 rw[Tmpl.size_eq]
 have:(if t.kind=4 then 0 else 0)=0:=by split<;>rfl
 rw[this]
 rfl
theorem wt_small {P:List Comp} {i:Nat} {c:Comp} {t:Tmpl} {d it:Int} (hd:1≤d) (h:t.ok P i c d it=true):t.wt≤85:=by
 have hd4:=(Tmpl.right h).dep
 have h1:=size_bound (σ:=fun _=>0) (m:=0) (fun j _ hj=>Nat.le_refl _) t (5-d).toNat d it (by omega) h
 have h2:gB 0 (5-d).toNat≤gB 0 4:=gB_mono (by omega)
 have h3:gB 0 4=85:=by decide
 unfold Tmpl.wt
 omega
structure Grew (w:Nat) (st:DS) (r:List Tre×DS):Prop where
 nodes:r.1.length≤w
 calls:r.2.calls.length≤st.calls.length+w
 heard:r.2.heard.length≤st.heard.length+w
 lo:st.n≤r.2.n
 hi:r.2.n≤st.n+w
theorem Grew.mono {w v:Nat} {st:DS} {r:List Tre×DS} (h:Grew w st r) (hw:w≤v):Grew v st r:=
 ⟨by have:=h.nodes;omega,by have:=h.calls;omega,by have:=h.heard;omega,h.lo,by have:=h.hi;omega⟩
theorem Grew.nil {w:Nat} {st:DS}:Grew w st ([],st):=⟨by simp,by simp,by simp,Int.le_refl _,by simp;omega⟩
theorem Grew.app {w v:Nat} {st:DS} {r q:List Tre×DS} (h:Grew w st r) (g:Grew v r.2 q) {l:List Tre} (hl:l.length=r.1.length):Grew (w+v) st (l++q.1,q.2):=by
 obtain ⟨a1,a2,a3,a4,a5⟩:=h
 obtain ⟨b1,b2,b3,b4,b5⟩:=g
 exact ⟨by simp;omega,by simp;omega,by simp;omega,by simp;omega,by simp;omega⟩
theorem setKey_len (k:Int) (l:List Tre):(setKey k l).length=l.length:=by
 cases l with
 |nil=>rfl
 |cons x t=>
  cases x
  rw[setKey]
  split<;>rfl
theorem drawAll_grew (e:VE) (pl:List Slt):∀(ks:List Tmpl),(∀x∈ks,∀e pl st,Grew x.wt st (x.draw e pl st))→∀i st,Grew (ks.map Tmpl.wt).sum st (drawAll e pl (ks.map Tmpl.draw) i st)
 | [],_,_,_=>Grew.nil
 |x::t,h,i,st=>by
  rw[List.map_cons,List.map_cons,List.sum_cons,drawAll]
  exact (h x (by simp) e (pl++[⟨i,0⟩]) st).app (drawAll_grew e pl t (fun y hy=>h y (by simp[hy])) (i+1) _) rfl
theorem eachD_grew (f:DFn) (ky:List Stp) (e:VE) (pl:List Slt) (w:Nat) (hf:∀e pl st,Grew w st (f e pl st)):∀n i seen st,Grew (n*w) st (eachD f ky e pl n i seen st):=by
 intro n
 induction n with
 |zero=>intro i seen st;exact Grew.nil
 |succ n ih=>
  intro i seen st
  rw[eachD]
  rw[show (n+1)*w=w+n*w by rw[Nat.add_mul];omega]
  split
  ·exact (ih _ _ _).mono (by omega)
  ·exact (hf _ _ _).app (ih _ _ _) (setKey_len _ _)
theorem draw_grew:∀(t:Tmpl) (e:VE) (pl:List Slt) (st:DS),Grew t.wt st (t.draw e pl st):=by
 refine Tmpl.ind fun k tg ns ar ky os ks ih e pl st=> ?_
 rw[Tmpl.wt_eq,Tmpl.draw_eq]
 simp only[Tmpl.kind_mk,Tmpl.tag_mk,Tmpl.names_mk,Tmpl.args_mk,Tmpl.key_mk,Tmpl.ons_mk,Tmpl.kids_mk]
 have hall:=fun e=>drawAll_grew e pl ks ih 0
 unfold drawN
 have hm:∀k,(ks.map Tmpl.wt).sum≤mulK k*(ks.map Tmpl.wt).sum:=fun k=>Nat.le_mul_of_pos_left _ (by unfold mulK;split<;>omega)
 have hm:=hm k
 split
 ·exact ⟨by simp,by simp,by simp,Int.le_refl _,by simp;omega⟩
 split
 ·have h:=hall e ⟨st.calls,if 0<os.length then st.heard++[⟨st.n,os⟩] else st.heard,st.n+1⟩
  obtain ⟨a1,a2,a3,a4,a5⟩:=h
  have hh:(if 0<os.length then st.heard++[(⟨st.n,os⟩:Hrd)] else st.heard).length≤st.heard.length+1:=by split<;>simp
  simp only at a2 a3 a4 a5
  exact ⟨by simp,by simp only;omega,by simp only;omega,by simp only;omega,by simp only;omega⟩
 split
 ·split
  ·cases ks with
   |nil=>exact Grew.nil
   |cons x t=>
    refine (ih x (by simp) e _ st).mono ?_
    simp only[List.map_cons,List.sum_cons] at hm ⊢
    omega
  ·cases ks with
   |nil=>exact Grew.nil
   |cons x t=>cases t with
    |nil=>exact Grew.nil
    |cons y t=>
     refine (ih y (by simp) e _ st).mono ?_
     simp only[List.map_cons,List.sum_cons] at hm ⊢
     omega
 split
 ·rename_i k3
  cases ks with
  |nil=>exact Grew.nil
  |cons x t=>
   refine (eachD_grew x.draw ky e pl x.wt (ih x (by simp)) _ 0 [] st).mono ?_
   have hc:countV (valF e (ar.getD 0 []))≤4:=by unfold countV;omega
   have:=zR x.wt hc
   unfold mulK
   rw[if_pos k3]
   simp only[List.map_cons,List.sum_cons]
   omega
 split
 ·exact ⟨by simp,by simp,by simp,Int.le_refl _,by simp only;omega⟩
 ·exact (hall _ st).mono (by omega)
set_option maxRecDepth 100000
structure Room (w:Nat) (st:DS):Prop where
 calls:st.calls.length+w≤1000000
 heard:st.heard.length+w≤1000000
 lo:0≤st.n
 hi:st.n+w≤1000000
theorem Room.less {w v:Nat} {st:DS} (h:Room w st) (hv:v≤w):Room v st:=
 ⟨by have:=h.calls;omega,by have:=h.heard;omega,h.lo,by have:=h.hi;omega⟩
theorem Room.next {w v:Nat} {st:DS} {r:List Tre×DS} (h:Room (w+v) st) (g:Grew w st r):Room v r.2:=
 ⟨by have:=h.calls;have:=g.calls;omega,by have:=h.heard;have:=g.heard;omega,by have:=h.lo;have:=g.lo;omega,by have:=h.hi;have:=g.hi;omega⟩
def Told (x:Tmpl) (e:VE) (pl:List Slt) (st:DS):Prop:=R 127 [st.enc,x.enc,e.enc,[.sl 2 (pl.map Slt.enc)]]=some [[.sl 5 ((x.draw e pl st).1.map Tre.enc)],(x.draw e pl st).2.enc]
theorem G152 (e:VE) (pl:List Slt) (hpl:pl.length<most) (ks:List Tmpl) (hks:ks.length≤most) (hk:∀x∈ks,∀(i:Nat) st,Room x.wt st→Told x e (pl++[⟨i,0⟩]) st):∀(suf:List Tmpl) (n:Nat) (st:DS) (acc:List Tre),n≤ks.length→ks.drop n=suf→Room (suf.map Tmpl.wt).sum st→acc.length+(suf.map Tmpl.wt).sum≤most→
  q152.go 0 (st.enc++(.sl 7 (ks.map Tmpl.enc):: .sl 2 (pl.map Slt.enc)::(e.enc++[.sl 5 (acc.map Tre.enc), .int .i64 n])))=some [[.sl 5 ((acc++(drawAll e pl (suf.map Tmpl.draw) n st).1).map Tre.enc)],(drawAll e pl (suf.map Tmpl.draw) n st).2.enc]:=by
 intro suf
 induction suf with
 |nil=>
  intro n st acc hn hd hr ha
  have:=drop_nil hd hn
  subst this
  unfold VE.enc DS.enc
  refine q152.g 0 rfl rfl rfl ?_
  simp[t152_1,drawAll]
 |cons x t ih=>
  intro n st acc hn hd hr ha
  obtain ⟨hx,hlt,hd'⟩:=drop_cons hd
  have hg:ks[n]=x:=by rw[zB hlt] at hx;injection hx
  have hw:=most_wrap (n:=n) (by omega) (by omega)
  rw[List.map_cons,List.sum_cons] at hr ha
  have hd1:=hk x (zF hx) n st (hr.less (by omega))
  have hgr:=draw_grew x e (pl++[⟨n,0⟩]) st
  have hbel:=R128 pl hpl n 0
  unfold Told at hd1
  rw[List.map_cons,drawAll]
  have hih:=ih (n+1) (x.draw e (pl++[⟨n,0⟩]) st).2 (acc++(x.draw e (pl++[⟨n,0⟩]) st).1) hlt hd' (hr.next hgr) (by have:=hgr.nodes;simp;omega)
  generalize hq:x.draw e (pl++[⟨n,0⟩]) st=q at*
  have happ:=op_app_f (sz:=5) (xs:=acc.map Tre.enc) (ys:=q.1.map Tre.enc) (by have:=hgr.nodes;simp;omega)
  rw[← List.map_append] at happ
  rw[← List.append_assoc]
  generalize drawAll e pl (t.map Tmpl.draw) (n+1) q.2=z at*
  generalize acc++q.1=acc2 at*
  generalize pl++[(⟨n,0⟩:Slt)]=pl2 at*
  generalize q.2=st2 at*
  generalize acc2++z.1=out at*
  have hxe:=Tmpl.enc_eq x
  rw[hxe] at hd1
  unfold VE.enc DS.enc at hd1 hih ⊢
  refine q152.g 0 rfl rfl rfl ?_
  simp at hih hd1
  simp[t152_1,hlt,hg,hxe,hbel,hd1,happ,hw,hih]
theorem R152 (e:VE) (pl:List Slt) (hpl:pl.length<most) (ks:List Tmpl) (hks:ks.length≤most) (hk:∀x∈ks,∀(i:Nat) st,Room x.wt st→Told x e (pl++[⟨i,0⟩]) st) (st:DS) (hr:Room (ks.map Tmpl.wt).sum st):
  R 152 [st.enc,[.sl 7 (ks.map Tmpl.enc)],e.enc,[.sl 2 (pl.map Slt.enc)]]=some [[.sl 5 ((drawAll e pl (ks.map Tmpl.draw) 0 st).1.map Tre.enc)],(drawAll e pl (ks.map Tmpl.draw) 0 st).2.enc]:=by
 have hG:=G152 e pl hpl ks hks hk ks 0 st [] (by omega) rfl hr (by have:=hr.calls;unfold most;simp;omega)
 rw[List.nil_append] at hG
 unfold VE.enc DS.enc at hG ⊢
 refine q152.f rfl ?_
 simp at hG
 simp[t152_0,hG]
set_option maxRecDepth 100000
theorem G148 (e:VE) (p s it:Int) (he:e.Fits p s it) (pl:List Slt) (t:Tmpl) (hlen:t.names.length=t.args.length) (hnl:t.names.length≤most) (hf:(t.args.all fun f=>formOk f p s it)=true) (st:DS) (key:Int) (r:List Tre×DS)
  (hT:R 152 [st.enc,[.sl 7 (t.kids.map Tmpl.enc)],e.enc,[.sl 2 (pl.map Slt.enc)]]=some [[.sl 5 (r.1.map Tre.enc)],r.2.enc]):∀(sn:List Int) (sa:List (List Stp)) (n:Nat) (acc:List Prp),n≤t.names.length→t.names.drop n=sn→t.args.drop n=sa→acc.length≤n→
  q148.go 0 (st.enc++(.sl 2 (pl.map Slt.enc)::(t.enc++(e.enc++(.int .i64 0:: .int .i64 0:: .str []:: .sl 4 []:: .sl 5 []:: .int .i64 key:: .int .i64 (-1):: .str []:: .sl 4 (acc.map Prp.enc):: .sl 5 []::[.int .i64 n])))))=
   some [[.int .i64 key, .int .i64 (-1), .str [], .sl 4 ((acc++prpsV e sn sa).map Prp.enc), .sl 5 (r.1.map Tre.enc)],r.2.enc]:=by
 intro sn
 induction sn with
 |nil=>
  intro sa n acc hn hd hda ha
  have:=drop_nil hd hn
  subst this
  have hte:=Tmpl.enc_eq t
  rw[hte]
  unfold VE.enc DS.enc at hT ⊢
  refine q148.g 0 rfl rfl rfl ?_
  have hnn:¬ t.names.length<t.args.length:=by omega
  simp[t148_1,hnn,hT,prpsV]
 |cons x q ih=>
  intro sa n acc hn hd hda ha
  obtain ⟨hx,hlt,hd'⟩:=drop_cons hd
  have hg:t.names[n]=x:=by rw[zB hlt] at hx;injection hx
  cases sa with
  |nil=>have:=drop_nil' hda;omega
  |cons f qa=>
   obtain ⟨hfx,hlta,hda'⟩:=drop_cons hda
   have hgf:t.args[n]=f:=by rw[zB hlta] at hfx;injection hfx
   have hw:=most_wrap (n:=n) (by omega) (by omega)
   have hfo:=zL.1 hf f (zF hfx)
   have hev:=(R147 e p s it he f hfo).1
   have hih:=ih qa (n+1) (acc++[⟨x,valF e f⟩]) hlt hd' hda' (by simp;omega)
   have hap:=op_app_t (sz:=4) (xs:=acc.map Prp.enc) (ys:=[(⟨x,valF e f⟩:Prp).enc]) (by simp;omega) (flat_prps acc) rfl
   have hpv:acc++prpsV e (x::q) (f::qa)=(acc++[⟨x,valF e f⟩])++prpsV e q qa:=by simp[prpsV]
   rw[hpv]
   generalize valF e f=w at*
   generalize (acc++[(⟨x,w⟩:Prp)])++prpsV e q qa=out at*
   have hte:=Tmpl.enc_eq t
   rw[hte] at hih ⊢
   unfold VE.enc DS.enc at hih ⊢
   unfold VE.enc at hev
   refine q148.g 0 rfl rfl rfl ?_
   simp at hih hev hap
   simp[t148_1,hlt,hlta,hg,hgf,hev,hap,hw,hih]
def hear (st:DS) (os:List On):DS:=⟨st.calls,if 0<os.length then st.heard++[⟨st.n,os⟩] else st.heard,st.n+1⟩
theorem R148 (e:VE) (p s it:Int) (he:e.Fits p s it) (pl:List Slt) (hpl:pl.length<most) (t:Tmpl) (hsm:t.sm) (hlen:t.names.length=t.args.length) (hnl:t.names.length≤most) (hf:(t.args.all fun f=>formOk f p s it)=true) (st:DS) (hr:Room (1+(t.kids.map Tmpl.wt).sum) st)
  (hk:∀x∈t.kids,∀(i:Nat) st,Room x.wt st→Told x e (pl++[⟨i,0⟩]) st):
  R 148 [st.enc,t.enc,e.enc,[.sl 2 (pl.map Slt.enc)]]=
   some [[.int .i64 t.tag, .int .i64 (-1), .str [], .sl 4 ((prpsV e t.names t.args).map Prp.enc), .sl 5 ((drawAll e pl (t.kids.map Tmpl.draw) 0 (hear st t.ons)).1.map Tre.enc)],(drawAll e pl (t.kids.map Tmpl.draw) 0 (hear st t.ons)).2.enc]:=by
 have hh:(hear st t.ons).heard.length≤st.heard.length+1:=by unfold hear;simp only;split<;>simp
 have hr1:Room (t.kids.map Tmpl.wt).sum (hear st t.ons):=by
  obtain ⟨a,b,c,d⟩:=hr
  exact ⟨by unfold hear;simp only;omega,by omega,by unfold hear;simp only;omega,by unfold hear;simp only;omega⟩
 have hT:=R152 e pl hpl t.kids hsm.2.2.2.2 hk (hear st t.ons) hr1
 have hG:=G148 e p s it he pl t hlen hnl hf (hear st t.ons) t.tag _ hT t.names t.args 0 [] (by omega) rfl rfl (by simp)
 rw[List.nil_append] at hG
 generalize drawAll e pl (t.kids.map Tmpl.draw) 0 (hear st t.ons)=z at*
 generalize prpsV e t.names t.args=ps at*
 have hwn:IntKind.wrap .i64 (st.n+1)=st.n+1:=wrap64 (by have:=hr.lo;omega) (by have:=hr.hi;omega)
 have hte:=Tmpl.enc_eq t
 rw[hte] at hG ⊢
 unfold hear at hG
 unfold VE.enc DS.enc at hG ⊢
 refine q148.f rfl ?_
 have a1:=op_app_t (sz:=2) (xs:=[]) (ys:=t.ons.map On.enc) (by have:=hsm.2.2.2.1;simp;omega) rfl (flat_ons t.ons)
 have a2:=op_app_f (sz:=2) (xs:=st.heard.map Hrd.enc) (ys:=[(⟨st.n,t.ons⟩:Hrd).enc]) (by have:=hr.heard;simp;unfold most;omega)
 rw[List.nil_append] at a1
 by_cases ho:0<t.ons.length
 ·rw[if_pos ho] at hG
  simp[Hrd.enc] at hG a2
  simp[t148_0,ho,a1,a2,hwn,hG]
 ·rw[if_neg ho] at hG
  simp at hG
  simp[t148_0,ho,hwn,hG]
set_option maxRecDepth 100000
theorem R151 (e:VE) (p s it:Int) (he:e.Fits p s it) (l:List (List Stp)) (hl:l.length≤most) (hf:(l.all fun f=>formOk f p s it)=true):R 151 [[.sl 1 (l.map encF)],e.enc]=some [[.sl 3 ((l.map (valF e)).map Val.enc)]]:=by
 have loop:∀(suf:List (List Stp)) (n:Nat) (acc:List Val),n≤l.length→l.drop n=suf→acc.length≤n→q151.go 0 (.sl 1 (l.map encF)::(e.enc++[.sl 3 (acc.map Val.enc), .int .i64 n]))=some [[.sl 3 ((acc++suf.map (valF e)).map Val.enc)]]:=by
  intro suf
  induction suf with
  |nil=>
   intro n acc hn hd ha
   have:=drop_nil hd hn
   subst this
   unfold VE.enc
   refine q151.g 0 rfl rfl rfl ?_
   simp[t151_1]
  |cons f q ih=>
   intro n acc hn hd ha
   obtain ⟨hx,hlt,hd'⟩:=drop_cons hd
   have hg:l[n]=f:=by rw[zB hlt] at hx;injection hx
   have hw:=most_wrap (n:=n) (by omega) (by omega)
   have hev:=(R147 e p s it he f (zL.1 hf f (zF hx))).1
   have hih:=ih (n+1) (acc++[valF e f]) hlt hd' (by simp;omega)
   have hap:=op_app1 (l:=acc) (v:=valF e f) (by omega)
   have hpv:acc++(f::q).map (valF e)=(acc++[valF e f])++q.map (valF e):=by simp
   rw[hpv]
   generalize (acc++[valF e f])++q.map (valF e)=out at*
   generalize acc++[valF e f]=acc2 at*
   generalize valF e f=w at*
   unfold VE.enc at hih hev ⊢
   refine q151.g 0 rfl rfl rfl ?_
   simp at hih hev
   simp[t151_1,hlt,hg,hev,hap,hw,hih]
 have h:=loop l 0 [] (by omega) rfl (by simp)
 rw[List.nil_append] at h
 generalize l.map (valF e)=out at*
 unfold VE.enc at h ⊢
 refine q151.f rfl ?_
 simp at h
 simp[t151_0,h]
set_option maxRecDepth 100000
theorem fits_item {e:VE} {p s it:Int} (he:e.Fits p s it) (hl:e.items.length≤100) {i:Int} (hi:0≤i∧i≤4):(itemE e i).Fits p s (it+1):=by
 refine ⟨he.p,he.s,?_,he.y,he.vp,he.vs,fun n hn=> ?_,he.vy,?_⟩
 ·have:=he.t;unfold itemE;simp;omega
 ·unfold itemE at hn
  rcases zT.1 hn with h|h
  ·exact he.vt n h
  ·rw[List.mem_singleton.1 h];omega
 ·unfold itemE;simp;omega
theorem put_key {l:List Tre} {k:Int} {x:Tre} {q:List Tre} (h:l=x::q):putpD 1 5 true 0 [.int .i64 k] (.sl 5 (l.map Tre.enc))=some (.sl 5 ((Tre.mk x.tag k x.text x.props x.kids::q).map Tre.enc)):=by
 subst h
 have hx:=Tre.enc_eq x
 have hy:=Tre.enc_eq (Tre.mk x.tag k x.text x.props x.kids)
 simp only[Tre.tag_mk,Tre.key_mk,Tre.text_mk,Tre.props_mk,Tre.kids_mk] at hy
 rw[List.map_cons,List.map_cons,hx,hy]
 exact (put_m (off:=1) (sz:=5) (fl:=true) (pre:=[]) (cs:=[.int .i64 k])).trans (by simp[setCells])
abbrev eaIn (st:DS) (pl:List Slt) (t:Tmpl) (e:VE) (out:List Tre) (seen:List Int) (i:Int) (more:List D):List D:=
 st.enc++(.sl 2 (pl.map Slt.enc)::(t.enc++(e.enc++(.sl 5 (out.map Tre.enc):: .sl 1 (seen.map encI):: .int .i64 i::more))))
theorem J150 (st:DS) (pl:List Slt) (hpl:pl.length<most) (t:Tmpl) (x:Tmpl) (hx:t.kids[0]? =some x) (e e':VE) (out:List Tre) (seen:List Int) (i key sub:Int) (hi:0≤i∧i≤1000) (w:Nat) (hw:w=x.wt) (hout:out.length+w≤most)
  (hT:Told x e' (pl++[⟨0,sub⟩]) st) (r:List (List D))
  (h:q150.go 0 (eaIn (x.draw e' (pl++[⟨0,sub⟩]) st).2 pl t e (out++setKey key (x.draw e' (pl++[⟨0,sub⟩]) st).1) seen (i+1) [])=some r):
  q150.go 1 (eaIn st pl t e out seen i (e'.enc++[.int .i64 key, .int .i64 sub]))=some r:=by
 have hgr:=(draw_grew x e' (pl++[⟨0,sub⟩]) st).nodes
 have hbel:=R128 pl hpl 0 sub
 have hwi:IntKind.wrap .i64 (i+1)=i+1:=wrap64 (by omega) (by omega)
 unfold Told at hT
 generalize hz:x.draw e' (pl++[⟨0,sub⟩]) st=z at*
 generalize pl++[(⟨0,sub⟩:Slt)]=pl2 at*
 obtain ⟨zl,zs⟩:=z
 simp only at hT h hgr
 have hte:=Tmpl.enc_eq t
 have hxe:=Tmpl.enc_eq x
 have h0:0<t.kids.length:=by
  rcases zJ 0 t.kids.length with h|h
  ·exact h
  ·rw[zG h] at hx;cases hx
 have hg:t.kids[0]=x:=by rw[zB h0] at hx;injection hx
 have hap:=fun (ys:List Tre) (hy:ys.length=zl.length)=>op_app_f (sz:=5) (xs:=out.map Tre.enc) (ys:=ys.map Tre.enc) (by simp[hy];omega)
 unfold eaIn at h ⊢
 rw[hte] at h ⊢
 rw[hxe] at hT
 unfold VE.enc DS.enc at hT h ⊢
 refine q150.g 1 rfl rfl rfl ?_
 cases zl with
 |nil=>
  have hap:=hap [] rfl
  simp[setKey] at h hT hap
  simp[t150_2,h0,hg,hxe,hbel,hT,hap,hwi,h]
 |cons y q=>
  obtain ⟨tg,ky,tx,ps,ks⟩:=y
  have hye:(Tre.mk tg ky tx ps ks).enc=_:=Tre.enc_eq _
  simp only[Tre.tag_mk,Tre.key_mk,Tre.text_mk,Tre.props_mk,Tre.kids_mk] at hye
  have hp:=put_key (l:=Tre.mk tg ky tx ps ks::q) (k:=key) rfl
  by_cases c1:tg= -1
  ·subst c1
   have hap:=hap (Tre.mk (-1) ky tx ps ks::q) rfl
   simp[setKey,hye] at h hT hap
   simp[t150_2,h0,hg,hxe,hbel,hT,hap,hwi,h]
  ·by_cases c2:key= -1
   ·subst c2
    have hap:=hap (Tre.mk tg ky tx ps ks::q) rfl
    simp[setKey,c1,hye] at h hT hap
    simp[t150_2,h0,hg,hxe,hbel,hT,hap,hwi,c1,h]
   ·have hap:=hap (Tre.mk tg key tx ps ks::q) rfl
    have hye2:(Tre.mk tg key tx ps ks).enc=_:=Tre.enc_eq _
    simp only[Tre.tag_mk,Tre.key_mk,Tre.text_mk,Tre.props_mk,Tre.kids_mk] at hye2
    simp[setKey,c1,c2,hye,hye2] at h hT hap hp
    simp[t150_2,h0,hg,hxe,hbel,hT,hap,hp,hwi,c1,c2,h]
set_option maxRecDepth 100000
theorem G150 (pl:List Slt) (hpl:pl.length<most) (t x:Tmpl) (hx:t.kids[0]? =some x) (f0:List Stp) (ha0:t.args[0]? =some f0) (e:VE) (p s it:Int) (he:e.Fits p s it) (hil:e.items.length≤100) (hf0:formOk f0 p s it=true) (hky:t.key.length=0∨formOk t.key p s (it+1)=true)
  (hT:∀(i sub:Int) st,0≤i→i≤4→Room x.wt st→Told x (itemE e i) (pl++[⟨0,sub⟩]) st):∀(n:Nat) (i:Int) (st:DS) (out:List Tre) (seen:List Int),0≤i→i+n=countV (valF e f0)→Room (n*x.wt) st→out.length+n*x.wt≤most→seen.length≤i→
  q150.go 0 (eaIn st pl t e out seen i [])=some [[.sl 5 ((out++(eachD x.draw t.key e pl n i seen st).1).map Tre.enc)],(eachD x.draw t.key e pl n i seen st).2.enc]:=by
 have hev:=(R147 e p s it he f0 hf0).1
 have hcnt:=R159 (valF e f0)
 have h0:0<t.args.length:=by
  rcases zJ 0 t.args.length with h|h
  ·exact h
  ·rw[zG h] at ha0;cases ha0
 have hg0:t.args[0]=f0:=by rw[zB h0] at ha0;injection ha0
 have hc4:countV (valF e f0)≤4:=by unfold countV;omega
 intro n
 induction n with
 |zero=>
  intro i st out seen hi hn hr ho hs
  have hlt:¬ i<(countV (valF e f0):Int):=by omega
  generalize countV (valF e f0)=cnt at*
  generalize valF e f0=w0 at*
  rw[eachD,List.append_nil]
  have hte:=Tmpl.enc_eq t
  unfold eaIn
  rw[hte]
  unfold VE.enc DS.enc
  unfold VE.enc at hev
  refine q150.g 0 rfl rfl rfl ?_
  simp at hev hcnt
  simp[t150_1,h0,hg0,hev,hcnt,hlt]
 |succ n ih=>
  intro i st out seen hi hn hr ho hs
  have hi3:i≤3:=by omega
  have hlt:i<(countV (valF e f0):Int):=by omega
  have hmul:(n+1)*x.wt=x.wt+n*x.wt:=by rw[Nat.add_mul];omega
  rw[hmul] at hr ho
  have hwi:IntKind.wrap .i64 (i+1)=i+1:=wrap64 (by omega) (by omega)
  have hit:=fits_item he hil (i:=i) ⟨hi,by omega⟩
  have a1:=op_app_t (sz:=1) (xs:=[]) (ys:=e.items.map encI) (by simp;unfold most;omega) rfl (flat_ints _)
  have a2:=op_app_t (sz:=1) (xs:=e.items.map encI) (ys:=[[.int .i64 i]]) (by simp;unfold most;omega) (flat_ints _) rfl
  rw[List.nil_append] at a1
  have hJ:=fun key sub seen' r h=>J150 st pl hpl t x hx e (itemE e i) out seen' i key sub ⟨hi,by omega⟩ x.wt rfl (by omega) (hT i sub st hi (by omega) (hr.less (by omega))) r h
  have hgr:=fun sub=>draw_grew x (itemE e i) (pl++[⟨0,sub⟩]) st
  have hnext:=fun (key sub:Int) (seen':List Int) (hs':seen'.length≤i+1)=>ih (i+1) (x.draw (itemE e i) (pl++[⟨0,sub⟩]) st).2 (out++setKey key (x.draw (itemE e i) (pl++[⟨0,sub⟩]) st).1) seen' (by omega) (by omega) (hr.next (hgr sub)) (by have:=(hgr sub).nodes;rw[List.length_append,setKey_len];omega) hs'
  have hmem:=R161 seen (by unfold most;omega)
  have a3:=fun k:Int=>op_app_t (sz:=1) (xs:=seen.map encI) (ys:=[[.int .i64 k]]) (by simp;unfold most;omega) (flat_ints _) rfl
  have hte:=Tmpl.enc_eq t
  rw[eachD]
  by_cases hk0:t.key.length=0
  ·have hkk:eachKey t.key (itemE e i)= -1:=by unfold eachKey;rw[if_neg (by omega)]
   have hkp:¬ 0<t.key.length:=by omega
   have hn:=hnext (-1) i seen (by omega)
   have hj:=hJ (-1) i seen _ hn
   rw[hkk]
   simp only[ne_eq,not_true_eq_false,false_and,if_false]
   rw[← List.append_assoc]
   generalize hq:x.draw (itemE e i) (pl++[⟨0,i⟩]) st=q at*
   generalize (out++setKey (-1) q.1)++_=out2 at*
   generalize countV (valF e f0)=cnt at*
   generalize valF e f0=w0 at*
   generalize (eachD x.draw t.key e pl n (i+1) seen q.2).2=st2 at*
   unfold eaIn at hj ⊢
   rw[hte] at hj ⊢
   unfold itemE VE.enc DS.enc at hj
   unfold VE.enc at hev
   unfold VE.enc DS.enc
   refine q150.g 0 rfl rfl rfl ?_
   simp at hev hcnt hj a2
   simp[t150_1,h0,hg0,hev,hcnt,hlt,a1,a2,hkp,hj]
  ·have hkp:0<t.key.length:=by omega
   have hkf:formOk t.key p s (it+1)=true:=hky.resolve_left hk0
   have hke:=(R147 (itemE e i) p s (it+1) hit t.key hkf).1
   have hko:=R160 (valF (itemE e i) t.key)
   have hkk:eachKey t.key (itemE e i)=keyV (valF (itemE e i) t.key):=by unfold eachKey;rw[if_pos hkp]
   rw[hkk]
   generalize hwk:valF (itemE e i) t.key=wk at*
   have hwk4:IntKind.wrap .i64 (4+keyV wk)=4+keyV wk:=by
    have: -1≤keyV wk∧keyV wk≤99:=by
     unfold keyV inR
     split
     ·rename_i h;simp at h;omega
     ·omega
    exact wrap64 (by omega) (by omega)
   generalize keyV wk=k at*
   by_cases hk1:k= -1
   ·subst hk1
    have hn:=hnext (-1) i seen (by omega)
    have hj:=hJ (-1) i seen _ hn
    simp only[ne_eq,not_true_eq_false,false_and,if_false]
    rw[← List.append_assoc]
    generalize hq:x.draw (itemE e i) (pl++[⟨0,i⟩]) st=q at*
    generalize (out++setKey (-1) q.1)++_=out2 at*
    generalize countV (valF e f0)=cnt at*
    generalize valF e f0=w0 at*
    generalize (eachD x.draw t.key e pl n (i+1) seen q.2).2=st2 at*
    unfold eaIn at hj ⊢
    rw[hte] at hj ⊢
    unfold itemE VE.enc DS.enc at hj
    unfold VE.enc at hev
    unfold itemE VE.enc at hke
    unfold VE.enc DS.enc
    refine q150.g 0 rfl rfl rfl ?_
    simp at hev hcnt hj a2 hke hko
    simp[t150_1,h0,hg0,hev,hcnt,hlt,a1,a2,hkp,hke,hko,hj]
   ·by_cases hm:k∈seen
    ·have hih:=ih (i+1) st out seen (by omega) (by omega) (hr.less (by omega)) (by omega) (by omega)
     rw[if_pos ⟨hk1,hm⟩]
     generalize out++_=out2 at*
     generalize countV (valF e f0)=cnt at*
     generalize valF e f0=w0 at*
     generalize (eachD x.draw t.key e pl n (i+1) seen st).2=st2 at*
     unfold eaIn at hih ⊢
     rw[hte] at hih ⊢
     unfold VE.enc at hev
     unfold itemE VE.enc at hke
     unfold VE.enc DS.enc at hih ⊢
     refine q150.g 0 rfl rfl rfl ?_
     simp at hev hcnt hih a2 hke hko
     simp[t150_1,h0,hg0,hev,hcnt,hlt,a1,a2,hkp,hke,hko,hk1,hmem,hm,hwi,hih]
    ·have hn:=hnext k (4+k) (seen++[k]) (by simp;omega)
     have hj:=hJ k (4+k) (seen++[k]) _ hn
     rw[if_neg (fun h=>hm h.2)]
     simp only[ne_eq,hk1,not_false_eq_true,if_true]
     rw[← List.append_assoc]
     generalize hq:x.draw (itemE e i) (pl++[⟨0,4+k⟩]) st=q at*
     generalize (out++setKey k q.1)++_=out2 at*
     generalize countV (valF e f0)=cnt at*
     generalize valF e f0=w0 at*
     generalize (eachD x.draw t.key e pl n (i+1) (seen++[k]) q.2).2=st2 at*
     unfold eaIn at hj ⊢
     rw[hte] at hj ⊢
     unfold itemE VE.enc DS.enc at hj
     unfold VE.enc at hev
     unfold itemE VE.enc at hke
     unfold VE.enc DS.enc
     refine q150.g 0 rfl rfl rfl ?_
     simp at hev hcnt hj a2 a3 hke hko
     simp[t150_1,h0,hg0,hev,hcnt,hlt,a1,a2,a3,hkp,hke,hko,hk1,hmem,hm,hwk4,hj]
set_option maxRecDepth 100000
theorem get_of {α:Type} {l:List α} {n:Nat} {x:α} (h:l[n]? =some x):∃hlt:n<l.length,l[n]=x:=by
 rcases zJ n l.length with h'|h'
 ·exact ⟨h',by rw[zB h'] at h;injection h⟩
 ·rw[zG h'] at h;cases h
theorem R150 (pl:List Slt) (hpl:pl.length<most) (t x:Tmpl) (hx:t.kids[0]? =some x) (f0:List Stp) (ha0:t.args[0]? =some f0) (e:VE) (p s it:Int) (he:e.Fits p s it) (hil:e.items.length≤100) (hf0:formOk f0 p s it=true) (hky:t.key.length=0∨formOk t.key p s (it+1)=true)
  (hT:∀(i sub:Int) st,0≤i→i≤4→Room x.wt st→Told x (itemE e i) (pl++[⟨0,sub⟩]) st) (st:DS) (hr:Room (4*x.wt) st):
  R 150 [st.enc,t.enc,e.enc,[.sl 2 (pl.map Slt.enc)]]=some [[.sl 5 ((eachD x.draw t.key e pl (countV (valF e f0)) 0 [] st).1.map Tre.enc)],(eachD x.draw t.key e pl (countV (valF e f0)) 0 [] st).2.enc]:=by
 have hc:countV (valF e f0)≤4:=by unfold countV;omega
 have hm:=zR x.wt hc
 have h:=G150 pl hpl t x hx f0 ha0 e p s it he hil hf0 hky hT (countV (valF e f0)) 0 st [] [] (by omega) (by omega) (hr.less hm) (by have:=hr.calls;unfold most;simp;omega) (by simp)
 rw[List.nil_append] at h
 generalize eachD x.draw t.key e pl (countV (valF e f0)) 0 [] st=z at*
 have hte:=Tmpl.enc_eq t
 unfold eaIn at h
 rw[hte] at h ⊢
 unfold VE.enc DS.enc at h ⊢
 refine q150.f rfl ?_
 simp at h
 simp[t150_0,h]
structure Stand (P:List Comp) (i:Nat) (c:Comp) (d it:Int) (e:VE) (pl:List Slt):Prop where
 pos:1≤d
 fits:e.Fits c.props c.states.length it
 items:(e.items.length:Int)≤50+d
 pay:e.pay.length≤1000
 pl:(pl.length:Int)≤10000+d
theorem Stand.kid {P:List Comp} {i:Nat} {c:Comp} {d it:Int} {e:VE} {pl:List Slt} (h:Stand P i c d it e pl) (x:Slt):Stand P i c (d+1) it e (pl++[x]):=
 ⟨by have:=h.pos;omega,h.fits,by have:=h.items;omega,h.pay,by have:=h.pl;simp;omega⟩
theorem Stand.item {P:List Comp} {i:Nat} {c:Comp} {d it:Int} {e:VE} {pl:List Slt} (h:Stand P i c d it e pl) (hd:d≤4) {n:Int} (hn:0≤n∧n≤4) (x:Slt):Stand P i c (d+1) (it+1) (itemE e n) (pl++[x]):=
 ⟨by have:=h.pos;omega,fits_item h.fits (by have:=h.items;omega) hn,by have:=h.items;unfold itemE;simp;omega,h.pay,by have:=h.pl;simp;omega⟩
theorem args_one {P:List Comp} {i:Nat} {c:Comp} {t:Tmpl} (h:goodHead P i c t=true) (k1:t.kind≠1) (k4:t.kind≠4):∃f,t.args=[f]:=by
 have:t.args.length=1:=by
  unfold goodHead at h
  by_cases k:t.kind=0∨t.kind=2∨t.kind=3
  ·rw[if_pos k] at h;simp at h;exact h.2
  ·rw[if_neg k,if_neg k1,if_neg k4] at h
   split at h
   ·simp at h;exact h.2
   ·cases h
 match hA:t.args,this with
 | [f],_=>exact ⟨f,rfl⟩
theorem head_kind {P:List Comp} {i:Nat} {c:Comp} {t:Tmpl} (h:goodHead P i c t=true) (k0:t.kind≠0) (k1:t.kind≠1) (k2:t.kind≠2) (k3:t.kind≠3) (k4:t.kind≠4):t.kind=5∧0≤t.tag∧t.tag≤1:=by
 unfold goodHead at h
 rw[if_neg (by omega),if_neg k1,if_neg k4] at h
 split at h
 ·rename_i k5
  simp at h
  obtain ⟨a,b⟩:=inR_iff.1 h.1
  exact ⟨k5,a,b⟩
 ·cases h
theorem set_ok {l:List Val} {n:Nat} {v:Val} (h:∀v∈l,v.ok=true) (hv:v.ok=true):∀w∈l.set n v,w.ok=true:=by
 intro w hw
 rcases List.mem_or_eq_of_mem_set hw with h1|rfl
 ·exact h w h1
 ·exact hv
theorem Stand.give {P:List Comp} {i:Nat} {c:Comp} {d it:Int} {e:VE} {pl:List Slt} (h:Stand P i c d it e pl) {n:Nat} {v:Val} (hv:v.ok=true):Stand P i c d it ⟨e.props,e.states,e.items,e.pay.set n v⟩ pl:=
 ⟨h.pos,⟨h.fits.p,h.fits.s,h.fits.t,by have:=h.fits.y;simpa using this,h.fits.vp,h.fits.vs,h.fits.vt,set_ok h.fits.vy hv,h.fits.lt⟩,h.items,by have:=h.pay;simpa using this,h.pl⟩
theorem put_val {l:List Val} {n:Nat} {v:Val} (h:n<l.length):putpD 0 3 true n [.int .i64 v.kind, .int .i64 v.num, .str v.text] (.sl 3 (l.map Val.enc))=some (.sl 3 ((l.set n v).map Val.enc)):=by
 show ((l.map Val.enc)[n]?.bind fun row=>_)=_
 rw[zK,zB h]
 simp[setCells,List.map_set]
theorem told (P:List Comp) (i:Nat) (c:Comp):∀(t:Tmpl) (d it:Int) (e:VE) (pl:List Slt) (st:DS),t.ok P i c d it=true→t.bulk≤BULK→Stand P i c d it e pl→Room t.wt st→Told t e pl st:=by
 refine Tmpl.ind fun k tg ns ar ky os ks ih d it e pl st ho hb hs hr=> ?_
 have ihk:∀x∈(Tmpl.mk k tg ns ar ky os ks).kids,∀(d it:Int) (e:VE) (pl:List Slt) (st:DS),x.ok P i c d it=true→x.bulk≤BULK→Stand P i c d it e pl→Room x.wt st→Told x e pl st:=ih
 clear ih
 generalize Tmpl.mk k tg ns ar ky os ks=t at*
 clear k tg ns ar ky os ks
 have r:=Tmpl.right ho
 have hsm:=sm_of_bulk hb
 have hd4:=r.dep
 have hpl:pl.length<most:=by have:=hs.pl;unfold most;omega
 have hil:e.items.length≤100:=by have:=hs.items;omega
 have hbel:=fun i s=>R128 pl hpl i s
 have hkid:∀x∈t.kids,∀(e':VE) (y:Slt) (st:DS),t.kind≠3→Stand P i c d it e' pl→Room x.wt st→Told x e' (pl++[y]) st:=fun x hx e' y st k3 hs' hr'=>by
  have h:=r.kids x hx
  unfold itIn at h
  rw[if_neg k3] at h
  exact ihk x hx _ _ _ _ _ h (kid_bulk hb hx) (hs'.kid y) hr'
 have hwt:=Tmpl.wt_eq t
 have hmk:1≤mulK t.kind:=by unfold mulK;split<;>omega
 have hmul:=zR (t.kids.map Tmpl.wt).sum hmk
 have hte:=Tmpl.enc_eq t
 unfold Told
 rw[Tmpl.draw_eq,hte]
 unfold drawN
 by_cases k0:t.kind=0
 ·obtain ⟨f,hf⟩:=args_one r.head (by omega) (by omega)
  obtain ⟨hev,hok⟩:=R147 e _ _ it hs.fits f (by have:=r.forms;rw[hf] at this;simpa using this)
  have hsh:=R146 _ hok
  rw[if_pos k0,hf]
  simp only[List.getD_cons_zero]
  generalize valF e f=w at*
  have htr:=Tre.enc_eq (.mk (-1) (-1) (showV w) [] [])
  simp only[Tre.tag_mk,Tre.key_mk,Tre.text_mk,Tre.props_mk,Tre.kids_mk] at htr
  unfold VE.enc at hev
  unfold VE.enc DS.enc
  refine q127.f rfl ?_
  simp at hev hsh htr
  simp[t127_0,k0,hev,hsh,htr]
 rw[if_neg k0]
 by_cases k1:t.kind=1
 ·have hh:=r.head
  unfold goodHead at hh
  rw[if_neg (by omega),if_pos k1] at hh
  simp at hh
  have hel:=R148 e _ _ it hs.fits pl hpl t hsm hh.2.1 hsm.1 r.forms st (hr.less (by omega)) (fun x hx n st hr'=>hkid x hx e _ st (by omega) hs hr')
  rw[if_pos k1]
  unfold hear at hel
  generalize hz:drawAll e pl (t.kids.map Tmpl.draw) 0 _=z at*
  generalize prpsV e t.names t.args=ps at*
  have htr:=Tre.enc_eq (.mk t.tag (-1) [] ps z.1)
  simp only[Tre.tag_mk,Tre.key_mk,Tre.text_mk,Tre.props_mk,Tre.kids_mk] at htr
  rw[hte,k1] at hel
  unfold VE.enc DS.enc at hel ⊢
  refine q127.f rfl ?_
  simp[t127_0,k1,hel,htr,hz]
 rw[if_neg k1]
 by_cases k2:t.kind=2
 ·obtain ⟨f,hf⟩:=args_one r.head (by omega) (by omega)
  obtain ⟨hev,hok⟩:=R147 e _ _ it hs.fits f (by have:=r.forms;rw[hf] at this;simpa using this)
  have htr:=R149 (valF e f)
  rw[if_pos k2,hf]
  simp only[List.getD_cons_zero]
  generalize valF e f=w at*
  have hn:=r.n
  cases hks:t.kids with
  |nil=>rw[hks,k2] at hn;exact absurd hn (by decide)
  |cons x q=>
   simp only[List.map_cons]
   have hxe:=Tmpl.enc_eq x
   rw[hks] at hmul hwt
   simp only[List.map_cons,List.sum_cons] at hmul hwt
   have h1:=hkid x (by rw[hks];simp) e ⟨0,0⟩ st (by omega) hs (hr.less (by omega))
   have hb1:=hbel 0 0
   unfold Told at h1
   by_cases hw:trueV w=true
   ·rw[if_pos hw]
    generalize x.draw e (pl++[⟨0,0⟩]) st=z at*
    generalize pl++[(⟨0,0⟩:Slt)]=pl1 at*
    rw[hxe] at h1
    unfold VE.enc at hev h1
    unfold DS.enc at h1
    unfold VE.enc DS.enc
    refine q127.f rfl ?_
    simp at hev htr
    simp[t127_0,k2,hev,htr,hw,hxe,hb1,h1]
   ·rw[if_neg hw]
    cases q with
    |nil=>
     simp only[List.map_nil]
     unfold VE.enc at hev
     unfold VE.enc DS.enc
     refine q127.f rfl ?_
     simp at hev htr
     simp[t127_0,k2,hev,htr,hw]
    |cons y q=>
     simp only[List.map_cons,List.sum_cons] at hmul hwt ⊢
     have hye:=Tmpl.enc_eq y
     have h2:=hkid y (by rw[hks];simp) e ⟨1,0⟩ st (by omega) hs (hr.less (by omega))
     have hb2:=hbel 1 0
     have h11:(1:Int)<q.length+1+1:=by omega
     unfold Told at h2
     generalize y.draw e (pl++[⟨1,0⟩]) st=z at*
     generalize pl++[(⟨1,0⟩:Slt)]=pl1 at*
     rw[hye] at h2
     unfold VE.enc at hev h2
     unfold DS.enc at h2
     unfold VE.enc DS.enc
     refine q127.f rfl ?_
     simp at hev htr
     simp[t127_0,k2,hev,htr,hw,hxe,hye,hb2,h2,h11]
 rw[if_neg k2]
 by_cases k3:t.kind=3
 ·obtain ⟨f,hf⟩:=args_one r.head (by omega) (by omega)
  have hff:formOk f c.props c.states.length it=true:=by have:=r.forms;rw[hf] at this;simpa using this
  rw[if_pos k3,hf]
  simp only[List.getD_cons_zero]
  have hn:=r.n
  cases hks:t.kids with
  |nil=>rw[hks,k3] at hn;exact absurd hn (by decide)
  |cons x q=>
   simp only[List.map_cons]
   rw[hks] at hwt
   simp only[List.map_cons,List.sum_cons] at hwt
   have hmk3:mulK t.kind=4:=by rw[k3];rfl
   rw[hmk3] at hwt
   have hxm:x∈t.kids:=by rw[hks];simp
   have hea:=R150 pl hpl t x (by rw[hks];rfl) f (by rw[hf];rfl) e _ _ it hs.fits hil hff (r.key k3) (fun n sub st h0 h4 hr'=>by
    have h:=r.kids x hxm
    unfold itIn at h
    rw[if_pos k3] at h
    exact ihk x hxm _ _ _ _ _ h (kid_bulk hb hxm) (hs.item hd4 ⟨h0,h4⟩ _) hr') st (hr.less (by omega))
   generalize eachD x.draw t.key e pl _ 0 [] st=z at*
   rw[hte,hks,hf,k3] at hea
   unfold VE.enc DS.enc at hea ⊢
   refine q127.f rfl ?_
   simp at hea
   simp[t127_0,k3,hea]
 rw[if_neg k3]
 by_cases k4:t.kind=4
 ·have hva:=R151 e _ _ it hs.fits t.args hsm.2.1 r.forms
  have a1:=op_app_t (sz:=3) (xs:=[]) (ys:=e.pay.map Val.enc) (by have:=hs.pay;simp;unfold most;omega) rfl (flat_all e.pay)
  have a2:=op_app_f (sz:=4) (xs:=st.calls.map Cal.enc) (ys:=[(⟨pl,t.tag,t.args.map (valF e),e.pay⟩:Cal).enc]) (by have:=hr.calls;simp;unfold most;omega)
  rw[if_pos k4]
  rw[List.nil_append] at a1
  generalize hvs:t.args.map (valF e)=vs at*
  have htr:=Tre.enc_eq (.mk (-2) (-1) [] [] [])
  simp only[Tre.tag_mk,Tre.key_mk,Tre.text_mk,Tre.props_mk,Tre.kids_mk] at htr
  unfold VE.enc at hva
  unfold VE.enc DS.enc
  have hce:(⟨pl,t.tag,vs,e.pay⟩:Cal).enc=[.sl 2 (pl.map Slt.enc), .int .i64 t.tag, .sl 3 (vs.map Val.enc), .sl 3 (e.pay.map Val.enc)]:=rfl
  refine q127.f rfl ?_
  simp[hce] at a2 htr
  simp[t127_0,k4,hva,a1,a2,htr,hce]
 rw[if_neg k4]
 obtain ⟨k5,g0,g1⟩:=head_kind r.head k0 k1 k2 k3 k4
 obtain ⟨f,hf⟩:=args_one r.head (by omega) (by omega)
 obtain ⟨hev,hok⟩:=R147 e _ _ it hs.fits f (by have:=r.forms;rw[hf] at this;simpa using this)
 rw[hf]
 simp only[List.getD_cons_zero]
 have hs':=hs.give (n:=t.tag.toNat) hok
 have hT:=R152 _ pl hpl t.kids hsm.2.2.2.2 (fun x hx n st hr'=>hkid x hx _ ⟨n,0⟩ st (by omega) hs' hr') st (hr.less (by omega))
 have hy:=hs.fits.y
 have a1:=op_app_t (sz:=3) (xs:=[]) (ys:=e.pay.map Val.enc) (by have:=hs.pay;simp;unfold most;omega) rfl (flat_all e.pay)
 have hp:=put_val (l:=e.pay) (n:=t.tag.toNat) (v:=valF e f) (by omega)
 rw[List.nil_append] at a1
 generalize valF e f=w at*
 generalize drawAll _ pl (t.kids.map Tmpl.draw) 0 st=z at*
 generalize hpy:e.pay.set t.tag.toNat w=pay at*
 unfold VE.enc at hT hev
 unfold VE.enc DS.enc
 unfold DS.enc at hT
 have hi:t.tag<e.pay.length:=by omega
 refine q127.f rfl ?_
 simp at hev hT
 simp[t127_0,k5,hev,hT,a1,hp,g0,hi]
set_option maxRecDepth 100000
def AS (P:List Comp) (S:List Cell) (st:DS):List D:=
 [.sl 10 (P.map Comp.enc), .sl 2 (S.map Cell.enc), .sl 4 (st.calls.map Cal.enc), .sl 2 (st.heard.map Hrd.enc), .int .i64 st.n, .int .i64 0, .sl 3 [], .sl 1 [], .int .i64 0, .int .i64 0, .sl 1 [], .sl 1 [], .sl 5 [], .sl 2 [], .sl 7 [], .sl 2 []]
def Asked (P:List Comp) (S:List Cell) (x:Tmpl) (e:VE) (pl:List Slt) (st:DS):Prop:=
 R 110 [AS P S st,x.enc,[.sl 2 (pl.map Slt.enc)],e.enc]=some [[.sl 5 ((x.draw e pl st).1.map Tre.enc)],AS P S (x.draw e pl st).2]
theorem R139 (P:List Comp) (S:List Cell) (t:Tmpl) (e:VE) (pl:List Slt) (hpl:pl.length<most) (hks:t.kids.length≤most) (hk:∀x∈t.kids,∀(i:Nat) st,Room x.wt st→Asked P S x e (pl++[⟨i,0⟩]) st) (st:DS) (hr:Room (t.kids.map Tmpl.wt).sum st):
  R 139 [AS P S st,t.enc,[.sl 2 (pl.map Slt.enc)],e.enc]=some [[.sl 5 ((drawAll e pl (t.kids.map Tmpl.draw) 0 st).1.map Tre.enc)],AS P S (drawAll e pl (t.kids.map Tmpl.draw) 0 st).2]:=by
 have loop:∀(suf:List Tmpl) (n:Nat) (st:DS) (acc:List Tre),n≤t.kids.length→t.kids.drop n=suf→Room (suf.map Tmpl.wt).sum st→acc.length+(suf.map Tmpl.wt).sum≤most→
   q139.go 0 (AS P S st++(.sl 2 (pl.map Slt.enc)::(e.enc++[.sl 5 (acc.map Tre.enc), .sl 7 (t.kids.map Tmpl.enc), .int .i64 t.kids.length, .int .i64 n])))=
    some [[.sl 5 ((acc++(drawAll e pl (suf.map Tmpl.draw) n st).1).map Tre.enc)],AS P S (drawAll e pl (suf.map Tmpl.draw) n st).2]:=by
  intro suf
  induction suf with
  |nil=>
   intro n st acc hn hd hr ha
   have:=drop_nil hd hn
   subst this
   unfold VE.enc AS
   refine q139.g 0 rfl rfl rfl ?_
   simp[t139_1,drawAll]
  |cons x q ih=>
   intro n st acc hn hd hr ha
   obtain ⟨hx,hlt,hd'⟩:=drop_cons hd
   obtain ⟨_,hg⟩:=get_of hx
   have hw:=most_wrap (n:=n) (by omega) (by omega)
   rw[List.map_cons,List.sum_cons] at hr ha
   have hd1:=hk x (zF hx) n st (hr.less (by omega))
   have hgr:=draw_grew x e (pl++[⟨n,0⟩]) st
   have hbel:=R111 pl hpl n 0
   unfold Asked at hd1
   rw[List.map_cons,drawAll]
   have hih:=ih (n+1) (x.draw e (pl++[⟨n,0⟩]) st).2 (acc++(x.draw e (pl++[⟨n,0⟩]) st).1) hlt hd' (hr.next hgr) (by have:=hgr.nodes;simp;omega)
   generalize hq:x.draw e (pl++[⟨n,0⟩]) st=z at*
   have happ:=op_app_f (sz:=5) (xs:=acc.map Tre.enc) (ys:=z.1.map Tre.enc) (by have:=hgr.nodes;simp;omega)
   rw[← List.map_append] at happ
   rw[← List.append_assoc]
   generalize drawAll e pl (q.map Tmpl.draw) (n+1) z.2=y at*
   generalize acc++z.1=acc2 at*
   generalize pl++[(⟨n,0⟩:Slt)]=pl2 at*
   generalize z.2=st2 at*
   generalize acc2++y.1=out at*
   have hxe:=Tmpl.enc_eq x
   rw[hxe] at hd1
   unfold VE.enc AS at hd1 hih ⊢
   refine q139.g 0 rfl rfl rfl ?_
   simp at hih hd1
   simp[t139_1,hlt,hg,hxe,hbel,hd1,happ,hw,hih]
 have hG:=loop t.kids 0 st [] (by omega) rfl hr (by have:=hr.calls;unfold most;simp;omega)
 rw[List.nil_append] at hG
 rw[Tmpl.enc_eq]
 unfold VE.enc AS at hG ⊢
 refine q139.f rfl ?_
 simp at hG
 simp[t139_0,hG]
abbrev aIn (P:List Comp) (S:List Cell) (st:DS) (pl:List Slt) (t:Tmpl) (e:VE) (more:List D):List D:=
 AS P S st++(.sl 2 (pl.map Slt.enc)::(t.enc++(e.enc++more)))
theorem G1110 (P:List Comp) (S:List Cell) (e:VE) (p s it:Int) (he:e.Fits p s it) (pl:List Slt) (t:Tmpl) (hsm:t.sm) (hlen:t.names.length=t.args.length) (hf:(t.args.all fun f=>formOk f p s it)=true) (st:DS) (hr:Room 1 st) (key:Int) (z:List Tre×DS)
  (hT:R 139 [AS P S (hear st t.ons),t.enc,[.sl 2 (pl.map Slt.enc)],e.enc]=some [[.sl 5 (z.1.map Tre.enc)],AS P S z.2]):∀(sn:List Int) (sa:List (List Stp)) (n:Nat) (acc:List Prp),n≤t.names.length→t.names.drop n=sn→t.args.drop n=sa→acc.length≤n→
  q110.go 1 (aIn P S st pl t e [.int .i64 key, .int .i64 (-1), .str [], .sl 4 (acc.map Prp.enc), .sl 5 [], .sl 1 (t.names.map encI), .int .i64 t.names.length, .int .i64 n])=
   some [[.sl 5 [(Tre.mk key (-1) [] (acc++prpsV e sn sa) z.1).enc]],AS P S z.2]:=by
 obtain ⟨s1,s2,s3,s4,s5⟩:=hsm
 intro sn
 induction sn with
 |nil=>
  intro sa n acc hn hd hda ha
  have:=drop_nil hd hn
  subst this
  have hte:=Tmpl.enc_eq t
  have hpe:prpsV e [] sa=[]:=rfl
  rw[hpe,List.append_nil]
  have htr:=Tre.enc_eq (.mk key (-1) [] acc z.1)
  simp only[Tre.tag_mk,Tre.key_mk,Tre.text_mk,Tre.props_mk,Tre.kids_mk] at htr
  have hwn:IntKind.wrap .i64 (st.n+1)=st.n+1:=wrap64 (by have:=hr.lo;omega) (by have:=hr.hi;omega)
  have a1:=op_app_t (sz:=2) (xs:=[]) (ys:=t.ons.map On.enc) (by simp;omega) rfl (flat_ons t.ons)
  have a2:=op_app_f (sz:=2) (xs:=st.heard.map Hrd.enc) (ys:=[(⟨st.n,t.ons⟩:Hrd).enc]) (by have:=hr.heard;simp;unfold most;omega)
  have hhe:(⟨st.n,t.ons⟩:Hrd).enc=[.int .i64 st.n, .sl 2 (t.ons.map On.enc)]:=rfl
  rw[List.nil_append] at a1
  rw[htr]
  unfold aIn
  unfold hear at hT
  rw[hte] at hT ⊢
  unfold VE.enc AS at hT ⊢
  refine q110.g 1 rfl rfl rfl ?_
  by_cases ho:0<t.ons.length
  ·rw[if_pos ho] at hT
   simp[hhe] at hT a2
   simp[t110_2,ho,a1,a2,hwn,hT]
  ·rw[if_neg ho] at hT
   simp at hT
   simp[t110_2,ho,hwn,hT]
 |cons x q ih=>
  intro sa n acc hn hd hda ha
  obtain ⟨hx,hlt,hd'⟩:=drop_cons hd
  obtain ⟨_,hg⟩:=get_of hx
  cases sa with
  |nil=>have:=drop_nil' hda;omega
  |cons f qa=>
   obtain ⟨hfx,hlta,hda'⟩:=drop_cons hda
   obtain ⟨_,hgf⟩:=get_of hfx
   have hw:=most_wrap (n:=n) (by omega) (by omega)
   have hfo:=zL.1 hf f (zF hfx)
   have hev:=R137 e p s it he f hfo
   have hih:=ih qa (n+1) (acc++[⟨x,valF e f⟩]) hlt hd' hda' (by simp;omega)
   have hap:=op_app_t (sz:=4) (xs:=acc.map Prp.enc) (ys:=[(⟨x,valF e f⟩:Prp).enc]) (by simp;omega) (flat_prps acc) rfl
   have hpv:acc++prpsV e (x::q) (f::qa)=(acc++[⟨x,valF e f⟩])++prpsV e q qa:=by simp[prpsV]
   rw[hpv]
   generalize valF e f=w at*
   generalize (acc++[(⟨x,w⟩:Prp)])++prpsV e q qa=out at*
   have hte:=Tmpl.enc_eq t
   unfold aIn at hih ⊢
   rw[hte] at hih ⊢
   unfold VE.enc AS at hih ⊢
   unfold VE.enc at hev
   refine q110.g 1 rfl rfl rfl ?_
   simp at hih hev hap
   simp[t110_2,hlt,hlta,hg,hgf,hev,hap,hw,hih]
end Go.Own
