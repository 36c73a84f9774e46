/- YthdbijpefkapnaaGreatDoorOfTy: a part of the proof. -/
import Derived.Test.YthdbijpefkapnaaGreatDoorProg
import Derived.Test.YthdbijpefkapnaaGreatDoorOfCore3
set_option linter.all false
set_option linter.unusedVariables false
set_option linter.unusedSimpArgs false
open Nat renaming reduceAdd → cW, reduceMul → Ct, reduceSub → eW
namespace Go.Proofs.YthdbijpefkapnaaGreatDoor
open Go.Fen
attribute [go_sem] Int.reduceBEq Int.reduceBNe Nat.reduceBEq Nat.reduceEqDiff Nat.reduceLT cW eW Ct Nat.reduceLeDiff reduceCtorEq Int.reduceToNat Int.reduceAdd Int.reduceSub Int.reduceMul Int.reduceLT Int.reduceLE Int.reduceNeg Int.reduceEq
attribute [go_sem ↓] reduceIte
@[go_sem] theorem JA:Tryz.prog.underlying 3=some (.int .i64):=by kernel_rfl
@[go_sem] theorem Nr:Tryz.prog.underlying 4=some (.bool):=by kernel_rfl
@[go_sem] theorem Nq:Tryz.prog.underlying 5=some (.int .u8):=by kernel_rfl
@[go_sem] theorem IY:Tryz.prog.underlying 95=some (.interface #[("Error",98)]):=by kernel_rfl
@[go_sem] theorem yQ:ff Tryz.prog 102=some 2:=by kernel_rfl
@[go_sem] theorem CV:Tryz.prog.underlying 102=some (.struct #[{ name := "from",type:=3,offset:=0,embedded:=false,tag := "",pkgPath := "fenestra/width",byteOffset:=0 },{ name := "to",type:=3,offset:=1,embedded:=false,tag := "",pkgPath := "fenestra/width",byteOffset:=8 }]):=by kernel_rfl
@[go_sem] theorem yO:Tryz.prog.underlying 103=some (.array 11 102):=by kernel_rfl
@[go_sem] theorem CU:Tryz.prog.underlying 105=some (.array 13 102):=by kernel_rfl
@[go_sem] theorem JC:Tryz.prog.underlying 255=some (.int .u64):=by kernel_rfl
@[go_sem] theorem JB:Tryz.prog.underlying 285=some (.array 16 3):=by kernel_rfl
@[go_sem] theorem Jz:Tryz.prog.underlying 314=some (.array 20 255):=by kernel_rfl
@[go_sem] theorem Jy:Tryz.prog.underlying 340=some (.array 64 5):=by kernel_rfl
@[go_sem] theorem RB:Tryz.prog.cellsOf 5=1:=by kernel_rfl
@[go_sem] theorem RA:Tryz.prog.cellsOf 6=1:=by kernel_rfl
@[go_sem] theorem P_:qi Tryz.prog 89 2=true:=by kernel_rfl
@[go_sem] theorem P9:qi Tryz.prog 90 2=true:=by kernel_rfl
@[go_sem] theorem N1:Tryz.prog.cellsOf 346=1:=by kernel_rfl
@[go_sem] theorem N0:Tryz.prog.cellsOf 347=1:=by kernel_rfl
abbrev FO(t i o:Nat):Prop:=px Tryz.prog t i=some o
abbrev TA(t s:Nat)(u:TypeDesc)(z:List AV)(b:Nat)(l:Bool):Prop:=mu Tryz.prog t=some true∧ff Tryz.prog t=some s∧Tryz.prog.underlying t=some u∧zeroA Tryz.prog t=some z∧q_ Tryz.prog t=some (s,b,s)∧lg Tryz.prog t=some (.agg z)∧pm Tryz.prog t=l
abbrev TB(t:Nat)(u:TypeDesc)(z:AV)(b:Nat):Prop:=mu Tryz.prog t=some false∧ff Tryz.prog t=some 1∧Tryz.prog.underlying t=some u∧zeroA Tryz.prog t=some [z]∧q_ Tryz.prog t=some (1,b,1)∧lg Tryz.prog t=some z∧pm Tryz.prog t=false
abbrev TE(t:Nat):Prop:=Tryz.prog.eqGuardType Tryz.prog.depth t=false∧Tryz.prog.stoodInHeld t=false
theorem kr{t i o:Nat}(h:px Tryz.prog t i=some o:=by kernel_rfl):FO t i o:=h
theorem tE{t:Nat}(h:Tryz.prog.eqGuardType Tryz.prog.depth t=false:=by kernel_rfl)(g:Tryz.prog.stoodInHeld t=false:=by kernel_rfl):TE t:=⟨h,g⟩
theorem tA{t s:Nat}{u:TypeDesc}{z:List AV}{b:Nat}{l:Bool}(h1:mu Tryz.prog t=some true:=by kernel_rfl)(h2:ff Tryz.prog t=some s:=by kernel_rfl)(h3:Tryz.prog.underlying t=some u:=by kernel_rfl)(h4:zeroA Tryz.prog t=some z:=by kernel_rfl)(h5:q_ Tryz.prog t=some (s,b,s):=by kernel_rfl)(h6:lg Tryz.prog t=some (.agg z):=by kernel_rfl)(h7:pm Tryz.prog t=l:=by kernel_rfl):TA t s u z b l:=⟨h1,h2,h3,h4,h5,h6,h7⟩
theorem tB{t:Nat}{u:TypeDesc}{z:AV}{b:Nat}(h1:mu Tryz.prog t=some false:=by kernel_rfl)(h2:ff Tryz.prog t=some 1:=by kernel_rfl)(h3:Tryz.prog.underlying t=some u:=by kernel_rfl)(h4:zeroA Tryz.prog t=some [z]:=by kernel_rfl)(h5:q_ Tryz.prog t=some (1,b,1):=by kernel_rfl)(h6:lg Tryz.prog t=some z:=by kernel_rfl)(h7:pm Tryz.prog t=false:=by kernel_rfl):TB t u z b:=⟨h1,h2,h3,h4,h5,h6,h7⟩
@[go_sem] theorem RO:TB 1 (.func #[] #[] false) (.fnil) 8:=tB
@[go_sem] theorem RN:TB 2 (.int .i64) (.int .i64 0) 8:=tB
@[go_sem] theorem RM:TB 3 (.int .i64) (.int .i64 0) 8:=tB
@[go_sem] theorem RL:TB 4 (.bool) (.bool false) 1:=tB
@[go_sem] theorem RK:TB 5 (.int .u8) (.int .u8 0) 1:=tB
@[go_sem] theorem RJ:TB 6 (.int .u8) (.int .u8 0) 1:=tB
@[go_sem] theorem RI:TA 7 4 (.struct #[⟨ "x",2,0,false,"","runtime",0⟩,⟨ "y",3,1,false,"","runtime",8⟩,⟨ "signed",4,2,false,"","runtime",16⟩,⟨ "code",6,3,false,"","runtime",17⟩]) [.int .i64 0,.int .i64 0,.bool false,.int .u8 0] 24 false:=tA
@[go_sem] theorem RQ:FO 7 0 0∧FO 7 1 1∧FO 7 2 2∧FO 7 3 3:=⟨kr,kr,kr,kr⟩
@[go_sem] theorem RH:TA 8 4 (.struct #[⟨ "x",2,0,false,"","runtime",0⟩,⟨ "y",3,1,false,"","runtime",8⟩,⟨ "signed",4,2,false,"","runtime",16⟩,⟨ "code",6,3,false,"","runtime",17⟩]) [.int .i64 0,.int .i64 0,.bool false,.int .u8 0] 24 false:=tA
@[go_sem] theorem RP:FO 8 0 0∧FO 8 1 1∧FO 8 2 2∧FO 8 3 3:=⟨kr,kr,kr,kr⟩
@[go_sem] theorem RG:TB 9 (.string) (.str []) 16:=tB
@[go_sem] theorem QP:TB 11 (.string) (.str []) 16:=tB
@[go_sem] theorem QO:TB 12 (.int .u64) (.int .u64 0) 8:=tB
@[go_sem] theorem QN:TB 15 (.pointer 342) (.nilp) 8:=tB
@[go_sem] theorem QM:TB 17 (.pointer 352) (.nilp) 8:=tB
@[go_sem] theorem QL:TB 20 (.interface #[]) (.inil) 16:=tB
@[go_sem] theorem QK:TB 21 (.int .i32) (.int .i32 0) 4:=tB
@[go_sem] theorem QJ:TA 22 2 (.struct #[⟨ "Kind",3,0,false,"","",0⟩,⟨ "N",3,1,false,"","",8⟩]) [.int .i64 0,.int .i64 0] 16 false:=tA
@[go_sem] theorem Q6:TE 22∧FO 22 0 0∧FO 22 1 1:=⟨tE,kr,kr⟩
@[go_sem] theorem QI:TA 23 2 (.struct #[⟨ "Kind",3,0,false,"","",0⟩,⟨ "N",3,1,false,"","",8⟩]) [.int .i64 0,.int .i64 0] 16 false:=tA
@[go_sem] theorem Q5:TE 23∧FO 23 0 0∧FO 23 1 1:=⟨tE,kr,kr⟩
@[go_sem] theorem QH:TA 24 6 (.struct #[⟨ "Kind",3,0,false,"","",0⟩,⟨ "N",3,1,false,"","",8⟩,⟨ "M",3,2,false,"","",16⟩,⟨ "Color",23,3,false,"","",24⟩,⟨ "Text",9,5,false,"","",40⟩]) [.int .i64 0,.int .i64 0,.int .i64 0,.int .i64 0,.int .i64 0,.str []] 56 false:=tA
@[go_sem] theorem Q4:TE 24∧FO 24 0 0∧FO 24 1 1∧FO 24 2 2∧FO 24 3 3∧FO 24 4 5:=⟨tE,kr,kr,kr,kr,kr⟩
@[go_sem] theorem QG:TA 25 6 (.struct #[⟨ "Kind",3,0,false,"","",0⟩,⟨ "N",3,1,false,"","",8⟩,⟨ "M",3,2,false,"","",16⟩,⟨ "Color",23,3,false,"","",24⟩,⟨ "Text",9,5,false,"","",40⟩]) [.int .i64 0,.int .i64 0,.int .i64 0,.int .i64 0,.int .i64 0,.str []] 56 false:=tA
@[go_sem] theorem Q3:TE 25∧FO 25 0 0∧FO 25 1 1∧FO 25 2 2∧FO 25 3 3∧FO 25 4 5:=⟨tE,kr,kr,kr,kr,kr⟩
@[go_sem] theorem QF:TB 27 (.int .u32) (.int .u32 0) 4:=tB
@[go_sem] theorem QE:TB 30 (.func #[] #[25] false) (.fnil) 8:=tB
@[go_sem] theorem QD:TB 32 (.int .i64) (.int .i64 0) 8:=tB
@[go_sem] theorem QC:TB 34 (.int .u64) (.int .u64 0) 8:=tB
@[go_sem] theorem QB:TB 38 (.slice 63) (.snil) 24:=tB
@[go_sem] theorem QA:TA 39 7 (.struct #[⟨ "Kind",3,0,false,"","",0⟩,⟨ "Code",3,1,false,"","",8⟩,⟨ "Private",5,2,false,"","",16⟩,⟨ "Final",5,3,false,"","",17⟩,⟨ "Params",38,4,false,"","",24⟩,⟨ "Inter",9,5,false,"","",48⟩,⟨ "Text",9,6,false,"","",64⟩]) [.int .i64 0,.int .i64 0,.int .u8 0,.int .u8 0,.snil,.str [],.str []] 80 false:=tA
@[go_sem] theorem Q2:FO 39 0 0∧FO 39 1 1∧FO 39 2 2∧FO 39 3 3∧FO 39 4 4∧FO 39 5 5∧FO 39 6 6:=⟨kr,kr,kr,kr,kr,kr,kr⟩
@[go_sem] theorem Qz:TA 40 7 (.struct #[⟨ "Kind",3,0,false,"","",0⟩,⟨ "Code",3,1,false,"","",8⟩,⟨ "Private",5,2,false,"","",16⟩,⟨ "Final",5,3,false,"","",17⟩,⟨ "Params",38,4,false,"","",24⟩,⟨ "Inter",9,5,false,"","",48⟩,⟨ "Text",9,6,false,"","",64⟩]) [.int .i64 0,.int .i64 0,.int .u8 0,.int .u8 0,.snil,.str [],.str []] 80 false:=tA
@[go_sem] theorem Q1:FO 40 0 0∧FO 40 1 1∧FO 40 2 2∧FO 40 3 3∧FO 40 4 4∧FO 40 5 5∧FO 40 6 6:=⟨kr,kr,kr,kr,kr,kr,kr⟩
@[go_sem] theorem Qy:TB 41 (.slice 5) (.snil) 24:=tB
@[go_sem] theorem Qx:TA 43 8 (.struct #[⟨ "State",3,0,false,"","",0⟩,⟨ "Utf",41,1,false,"","",8⟩,⟨ "Private",5,2,false,"","",32⟩,⟨ "Final",5,3,false,"","",33⟩,⟨ "Params",38,4,false,"","",40⟩,⟨ "Inter",9,5,false,"","",64⟩,⟨ "Text",9,6,false,"","",80⟩,⟨ "Bad",4,7,false,"","",96⟩]) [.int .i64 0,.snil,.int .u8 0,.int .u8 0,.snil,.str [],.str [],.bool false] 104 false:=tA
@[go_sem] theorem Q0:FO 43 0 0∧FO 43 1 1∧FO 43 2 2∧FO 43 3 3∧FO 43 4 4∧FO 43 5 5∧FO 43 6 6∧FO 43 7 7:=⟨kr,kr,kr,kr,kr,kr,kr,kr⟩
@[go_sem] theorem Qw:TA 44 8 (.struct #[⟨ "State",3,0,false,"","",0⟩,⟨ "Utf",41,1,false,"","",8⟩,⟨ "Private",5,2,false,"","",32⟩,⟨ "Final",5,3,false,"","",33⟩,⟨ "Params",38,4,false,"","",40⟩,⟨ "Inter",9,5,false,"","",64⟩,⟨ "Text",9,6,false,"","",80⟩,⟨ "Bad",4,7,false,"","",96⟩]) [.int .i64 0,.snil,.int .u8 0,.int .u8 0,.snil,.str [],.str [],.bool false] 104 false:=tA
@[go_sem] theorem QZ:FO 44 0 0∧FO 44 1 1∧FO 44 2 2∧FO 44 3 3∧FO 44 4 4∧FO 44 5 5∧FO 44 6 6∧FO 44 7 7:=⟨kr,kr,kr,kr,kr,kr,kr,kr⟩
@[go_sem] theorem Qv:TB 45 (.slice 40) (.snil) 24:=tB
@[go_sem] theorem Qu:TA 52 2 (.array 2 3) [.int .i64 0,.int .i64 0] 16 false:=tA
@[go_sem] theorem Qt:TB 54 (.slice 25) (.snil) 24:=tB
@[go_sem] theorem Qs:TB 61 (.slice 3) (.snil) 24:=tB
@[go_sem] theorem Qr:TA 62 1 (.struct #[⟨ "Subs",61,0,false,"","",0⟩]) [.snil] 24 false:=tA
@[go_sem] theorem QY:FO 62 0 0:=kr
@[go_sem] theorem Qq:TA 63 1 (.struct #[⟨ "Subs",61,0,false,"","",0⟩]) [.snil] 24 false:=tA
@[go_sem] theorem QX:FO 63 0 0:=kr
@[go_sem] theorem Qp:TB 69 (.func #[25] #[4] false) (.fnil) 8:=tB
@[go_sem] theorem Qo:TA 71 5 (.array 5 3) [.int .i64 0,.int .i64 0,.int .i64 0,.int .i64 0,.int .i64 0] 40 false:=tA
@[go_sem] theorem Qn:TB 74 (.func #[3] #[4] false) (.fnil) 8:=tB
@[go_sem] theorem Qm:TA 75 2 (.struct #[⟨ "n",74,0,false,"","fenestra/action",0⟩,⟨ "m",74,1,false,"","fenestra/action",8⟩]) [.fnil,.fnil] 16 false:=tA
@[go_sem] theorem QW:FO 75 0 0∧FO 75 1 1:=⟨kr,kr⟩
@[go_sem] theorem Ql:TA 76 2 (.struct #[⟨ "n",74,0,false,"","fenestra/action",0⟩,⟨ "m",74,1,false,"","fenestra/action",8⟩]) [.fnil,.fnil] 16 false:=tA
@[go_sem] theorem QV:FO 76 0 0∧FO 76 1 1:=⟨kr,kr⟩
@[go_sem] theorem Qk:TB 78 (.map 3 76) (.mnil) 8:=tB
@[go_sem] theorem Qj:TA 84 2 (.struct #[⟨ "from",3,0,false,"","fenestra/action",0⟩,⟨ "to",3,1,false,"","fenestra/action",8⟩]) [.int .i64 0,.int .i64 0] 16 false:=tA
@[go_sem] theorem QU:FO 84 0 0∧FO 84 1 1:=⟨kr,kr⟩
@[go_sem] theorem Qi:TA 85 2 (.struct #[⟨ "from",3,0,false,"","fenestra/action",0⟩,⟨ "to",3,1,false,"","fenestra/action",8⟩]) [.int .i64 0,.int .i64 0] 16 false:=tA
@[go_sem] theorem QT:FO 85 0 0∧FO 85 1 1:=⟨kr,kr⟩
@[go_sem] theorem Qh:TB 88 (.pointer 90) (.nilp) 8:=tB
@[go_sem] theorem Qg:TA 89 2 (.struct #[⟨ "addr",88,0,false,"","strings",0⟩,⟨ "buf",41,1,false,"","strings",8⟩]) [.nilp,.snil] 32 true:=tA
@[go_sem] theorem QS:FO 89 0 0∧FO 89 1 1:=⟨kr,kr⟩
@[go_sem] theorem Qf:TA 90 2 (.struct #[⟨ "addr",88,0,false,"","strings",0⟩,⟨ "buf",41,1,false,"","strings",8⟩]) [.nilp,.snil] 32 true:=tA
@[go_sem] theorem QR:FO 90 0 0∧FO 90 1 1:=⟨kr,kr⟩
@[go_sem] theorem Qe:TB 94 (.interface #[("Error",98)]) (.inil) 16:=tB
@[go_sem] theorem Qd:TB 95 (.interface #[("Error",98)]) (.inil) 16:=tB
@[go_sem] theorem Qc:TB 98 (.func #[] #[9] false) (.fnil) 8:=tB
@[go_sem] theorem Qb:TA 99 6 (.array 6 3) [.int .i64 0,.int .i64 0,.int .i64 0,.int .i64 0,.int .i64 0,.int .i64 0] 48 false:=tA
@[go_sem] theorem PG:TA 101 2 (.struct #[⟨ "from",3,0,false,"","fenestra/width",0⟩,⟨ "to",3,1,false,"","fenestra/width",8⟩]) [.int .i64 0,.int .i64 0] 16 false:=tA
@[go_sem] theorem P4:FO 101 0 0∧FO 101 1 1:=⟨kr,kr⟩
@[go_sem] theorem PF:TA 102 2 (.struct #[⟨ "from",3,0,false,"","fenestra/width",0⟩,⟨ "to",3,1,false,"","fenestra/width",8⟩]) [.int .i64 0,.int .i64 0] 16 false:=tA
@[go_sem] theorem P3:FO 102 0 0∧FO 102 1 1:=⟨kr,kr⟩
@[go_sem] theorem PE:TA 103 22 (.array 11 102) [.int .i64 0,.int .i64 0,.int .i64 0,.int .i64 0,.int .i64 0,.int .i64 0,.int .i64 0,.int .i64 0,.int .i64 0,.int .i64 0,.int .i64 0,.int .i64 0,.int .i64 0,.int .i64 0,.int .i64 0,.int .i64 0,.int .i64 0,.int .i64 0,.int .i64 0,.int .i64 0,.int .i64 0,.int .i64 0] 176 false:=tA
@[go_sem] theorem PD:TB 104 (.slice 102) (.snil) 24:=tB
@[go_sem] theorem PC:TA 105 26 (.array 13 102) [.int .i64 0,.int .i64 0,.int .i64 0,.int .i64 0,.int .i64 0,.int .i64 0,.int .i64 0,.int .i64 0,.int .i64 0,.int .i64 0,.int .i64 0,.int .i64 0,.int .i64 0,.int .i64 0,.int .i64 0,.int .i64 0,.int .i64 0,.int .i64 0,.int .i64 0,.int .i64 0,.int .i64 0,.int .i64 0,.int .i64 0,.int .i64 0,.int .i64 0,.int .i64 0] 208 false:=tA
@[go_sem] theorem PB:TB 106 (.func #[163,25] #[] false) (.fnil) 8:=tB
@[go_sem] theorem PA:TA 107 3 (.struct #[⟨ "may",74,0,false,"","fenestra/style",0⟩,⟨ "colour",4,1,false,"","fenestra/style",8⟩,⟨ "make",106,2,false,"","fenestra/style",16⟩]) [.fnil,.bool false,.fnil] 24 false:=tA
@[go_sem] theorem P2:FO 107 0 0∧FO 107 1 1∧FO 107 2 2:=⟨kr,kr,kr⟩
@[go_sem] theorem Pz:TA 108 3 (.struct #[⟨ "may",74,0,false,"","fenestra/style",0⟩,⟨ "colour",4,1,false,"","fenestra/style",8⟩,⟨ "make",106,2,false,"","fenestra/style",16⟩]) [.fnil,.bool false,.fnil] 24 false:=tA
@[go_sem] theorem P1:FO 108 0 0∧FO 108 1 1∧FO 108 2 2:=⟨kr,kr,kr⟩
@[go_sem] theorem Py:TB 110 (.map 3 108) (.mnil) 8:=tB
@[go_sem] theorem Px:TB 115 (.func #[25] #[9] false) (.fnil) 8:=tB
@[go_sem] theorem Pw:TB 117 (.map 3 115) (.mnil) 8:=tB
@[go_sem] theorem Pv:TA 122 13 (.array 13 3) [.int .i64 0,.int .i64 0,.int .i64 0,.int .i64 0,.int .i64 0,.int .i64 0,.int .i64 0,.int .i64 0,.int .i64 0,.int .i64 0,.int .i64 0,.int .i64 0,.int .i64 0] 104 false:=tA
@[go_sem] theorem Pu:TA 123 3 (.array 3 3) [.int .i64 0,.int .i64 0,.int .i64 0] 24 false:=tA
@[go_sem] theorem Pt:TA 124 10 (.array 10 3) [.int .i64 0,.int .i64 0,.int .i64 0,.int .i64 0,.int .i64 0,.int .i64 0,.int .i64 0,.int .i64 0,.int .i64 0,.int .i64 0] 80 false:=tA
@[go_sem] theorem Pr:TB 135 (.map 3 25) (.mnil) 8:=tB
@[go_sem] theorem Pq:TB 137 (.map 140 25) (.mnil) 8:=tB
@[go_sem] theorem Pp:TA 139 3 (.struct #[⟨ "private",5,0,false,"","fenestra/action",0⟩,⟨ "inter",9,1,false,"","fenestra/action",8⟩,⟨ "final",5,2,false,"","fenestra/action",24⟩]) [.int .u8 0,.str [],.int .u8 0] 32 false:=tA
@[go_sem] theorem P0:FO 139 0 0∧FO 139 1 1∧FO 139 2 2:=⟨kr,kr,kr⟩
@[go_sem] theorem Po:TA 140 3 (.struct #[⟨ "private",5,0,false,"","fenestra/action",0⟩,⟨ "inter",9,1,false,"","fenestra/action",8⟩,⟨ "final",5,2,false,"","fenestra/action",24⟩]) [.int .u8 0,.str [],.int .u8 0] 32 false:=tA
@[go_sem] theorem PZ:FO 140 0 0∧FO 140 1 1∧FO 140 2 2:=⟨kr,kr,kr⟩
@[go_sem] theorem Pn:TB 141 (.func #[38] #[54] false) (.fnil) 8:=tB
@[go_sem] theorem Pm:TB 142 (.func #[38] #[54] false) (.fnil) 8:=tB
@[go_sem] theorem Pk:TB 144 (.map 140 142) (.mnil) 8:=tB
@[go_sem] theorem Pj:TB 147 (.func #[63] #[4] false) (.fnil) 8:=tB
@[go_sem] theorem Pi:TB 151 (.pointer 153) (.nilp) 8:=tB
@[go_sem] theorem Ph:TA 152 9 (.struct #[⟨ "Parse",44,0,true,"","",0⟩,⟨ "events",45,8,false,"","fenestra/state",104⟩]) [.int .i64 0,.snil,.int .u8 0,.int .u8 0,.snil,.str [],.str [],.bool false,.snil] 128 false:=tA
@[go_sem] theorem PY:FO 152 0 0∧FO 152 1 8:=⟨kr,kr⟩
@[go_sem] theorem Pg:TA 153 9 (.struct #[⟨ "Parse",44,0,true,"","",0⟩,⟨ "events",45,8,false,"","fenestra/state",104⟩]) [.int .i64 0,.snil,.int .u8 0,.int .u8 0,.snil,.str [],.str [],.bool false,.snil] 128 false:=tA
@[go_sem] theorem PX:FO 153 0 0∧FO 153 1 8:=⟨kr,kr⟩
@[go_sem] theorem Pf:TB 159 (.pointer 5) (.nilp) 8:=tB
@[go_sem] theorem Pe:TB 162 (.func #[163] #[164] false) (.fnil) 8:=tB
@[go_sem] theorem Pd:TB 163 (.pointer 167) (.nilp) 8:=tB
@[go_sem] theorem Pc:TB 164 (.pointer 23) (.nilp) 8:=tB
@[go_sem] theorem Pb:TB 165 (.func #[162] #[108] false) (.fnil) 8:=tB
@[go_sem] theorem Pa:TA 166 8 (.struct #[⟨ "Attr",3,0,false,"","",0⟩,⟨ "Under",3,1,false,"","",8⟩,⟨ "Fore",23,2,false,"","",16⟩,⟨ "Back",23,4,false,"","",32⟩,⟨ "Line",23,6,false,"","",48⟩]) [.int .i64 0,.int .i64 0,.int .i64 0,.int .i64 0,.int .i64 0,.int .i64 0,.int .i64 0,.int .i64 0] 64 false:=tA
@[go_sem] theorem PW:TE 166∧FO 166 0 0∧FO 166 1 1∧FO 166 2 2∧FO 166 3 4∧FO 166 4 6:=⟨tE,kr,kr,kr,kr,kr⟩
@[go_sem] theorem O_:TA 167 8 (.struct #[⟨ "Attr",3,0,false,"","",0⟩,⟨ "Under",3,1,false,"","",8⟩,⟨ "Fore",23,2,false,"","",16⟩,⟨ "Back",23,4,false,"","",32⟩,⟨ "Line",23,6,false,"","",48⟩]) [.int .i64 0,.int .i64 0,.int .i64 0,.int .i64 0,.int .i64 0,.int .i64 0,.int .i64 0,.int .i64 0] 64 false:=tA
@[go_sem] theorem PV:TE 167∧FO 167 0 0∧FO 167 1 1∧FO 167 2 2∧FO 167 3 4∧FO 167 4 6:=⟨tE,kr,kr,kr,kr,kr⟩
@[go_sem] theorem O9:TA 169 0 (.struct #[]) [] 0 false:=tA
@[go_sem] theorem PU:TE 169:=tE
@[go_sem] theorem O8:TA 170 0 (.struct #[]) [] 0 false:=tA
@[go_sem] theorem PT:TE 170:=tE
@[go_sem] theorem O7:TB 191 (.map 5 25) (.mnil) 8:=tB
@[go_sem] theorem O6:TA 192 4 (.array 4 9) [.str [],.str [],.str [],.str []] 64 false:=tA
@[go_sem] theorem O5:TB 196 (.func #[9] #[25] false) (.fnil) 8:=tB
@[go_sem] theorem O4:TB 198 (.map 9 196) (.mnil) 8:=tB
@[go_sem] theorem O3:TB 200 (.func #[5,9,5,142] #[] false) (.fnil) 8:=tB
@[go_sem] theorem O1:TB 201 (.func #[38] #[25] false) (.fnil) 8:=tB
@[go_sem] theorem O0:TB 202 (.func #[201] #[142] false) (.fnil) 8:=tB
@[go_sem] theorem OZ:TB 203 (.func #[3,3] #[142] false) (.fnil) 8:=tB
@[go_sem] theorem OY:TB 204 (.map 5 3) (.mnil) 8:=tB
@[go_sem] theorem OX:TA 206 2 (.array 2 5) [.int .u8 0,.int .u8 0] 2 false:=tA
@[go_sem] theorem OW:TA 210 15 (.array 15 3) [.int .i64 0,.int .i64 0,.int .i64 0,.int .i64 0,.int .i64 0,.int .i64 0,.int .i64 0,.int .i64 0,.int .i64 0,.int .i64 0,.int .i64 0,.int .i64 0,.int .i64 0,.int .i64 0,.int .i64 0] 120 false:=tA
@[go_sem] theorem OV:TB 213 (.func #[3] #[] false) (.fnil) 8:=tB
@[go_sem] theorem OU:TB 215 (.func #[151,5] #[] false) (.fnil) 8:=tB
@[go_sem] theorem OT:TA 216 15 (.array 15 215) [.fnil,.fnil,.fnil,.fnil,.fnil,.fnil,.fnil,.fnil,.fnil,.fnil,.fnil,.fnil,.fnil,.fnil,.fnil] 120 false:=tA
@[go_sem] theorem OQ:TB 220 (.func #[63,63] #[4] false) (.fnil) 8:=tB
@[go_sem] theorem OO:TB 221 (.unsafePointer) (.nilp) 8:=tB
@[go_sem] theorem ON:TA 223 8 (.array 8 3) [.int .i64 0,.int .i64 0,.int .i64 0,.int .i64 0,.int .i64 0,.int .i64 0,.int .i64 0,.int .i64 0] 64 false:=tA
@[go_sem] theorem OM:TB 230 (.slice 52) (.snil) 24:=tB
@[go_sem] theorem OL:TB 234 (.func #[3] #[3,3] false) (.fnil) 8:=tB
@[go_sem] theorem OK:TB 243 (.pointer 63) (.nilp) 8:=tB
@[go_sem] theorem OJ:TB 248 (.func #[69] #[] false) (.fnil) 8:=tB
@[go_sem] theorem OI:TB 249 (.func #[69] #[] false) (.fnil) 8:=tB
@[go_sem] theorem OH:TB 255 (.int .u64) (.int .u64 0) 8:=tB
@[go_sem] theorem OG:TB 256 (.func #[74] #[] false) (.fnil) 8:=tB
@[go_sem] theorem OE:TB 257 (.func #[74] #[] false) (.fnil) 8:=tB
@[go_sem] theorem PS:mu Tryz.prog 265=some true∧ff Tryz.prog 265=some 256∧Tryz.prog.underlying 265=some (.array 256 4)∧pm Tryz.prog 265=false:=⟨by kernel_rfl,by kernel_rfl,by kernel_rfl,by kernel_rfl⟩
@[go_sem] theorem PQ:mu Tryz.prog 266=some true∧ff Tryz.prog 266=some 256∧Tryz.prog.underlying 266=some (.array 256 4)∧pm Tryz.prog 266=false:=⟨by kernel_rfl,by kernel_rfl,by kernel_rfl,by kernel_rfl⟩
@[go_sem] theorem OD:TB 270 (.pointer 266) (.nilp) 8:=tB
@[go_sem] theorem OC:TB 273 (.slice 9) (.snil) 24:=tB
@[go_sem] theorem OB:TA 281 24 (.array 24 5) [.int .u8 0,.int .u8 0,.int .u8 0,.int .u8 0,.int .u8 0,.int .u8 0,.int .u8 0,.int .u8 0,.int .u8 0,.int .u8 0,.int .u8 0,.int .u8 0,.int .u8 0,.int .u8 0,.int .u8 0,.int .u8 0,.int .u8 0,.int .u8 0,.int .u8 0,.int .u8 0,.int .u8 0,.int .u8 0,.int .u8 0,.int .u8 0] 24 false:=tA
@[go_sem] theorem OA:TA 285 16 (.array 16 3) [.int .i64 0,.int .i64 0,.int .i64 0,.int .i64 0,.int .i64 0,.int .i64 0,.int .i64 0,.int .i64 0,.int .i64 0,.int .i64 0,.int .i64 0,.int .i64 0,.int .i64 0,.int .i64 0,.int .i64 0,.int .i64 0] 128 false:=tA
@[go_sem] theorem Oz:TB 286 (.func #[3] #[5] false) (.fnil) 8:=tB
@[go_sem] theorem Oy:TB 299 (.int .i64) (.int .i64 0) 8:=tB
@[go_sem] theorem Ox:TB 302 (.pointer 321) (.nilp) 8:=tB
@[go_sem] theorem Ow:TA 306 3 (.struct #[⟨ "bit",3,0,false,"","fenestra/sgr",0⟩,⟨ "set",3,1,false,"","fenestra/sgr",8⟩,⟨ "clear",3,2,false,"","fenestra/sgr",16⟩]) [.int .i64 0,.int .i64 0,.int .i64 0] 24 false:=tA
@[go_sem] theorem PP:FO 306 0 0∧FO 306 1 1∧FO 306 2 2:=⟨kr,kr,kr⟩
@[go_sem] theorem Ov:TA 307 3 (.struct #[⟨ "bit",3,0,false,"","fenestra/sgr",0⟩,⟨ "set",3,1,false,"","fenestra/sgr",8⟩,⟨ "clear",3,2,false,"","fenestra/sgr",16⟩]) [.int .i64 0,.int .i64 0,.int .i64 0] 24 false:=tA
@[go_sem] theorem PO:FO 307 0 0∧FO 307 1 1∧FO 307 2 2:=⟨kr,kr,kr⟩
@[go_sem] theorem Ou:TA 308 24 (.array 8 307) [.int .i64 0,.int .i64 0,.int .i64 0,.int .i64 0,.int .i64 0,.int .i64 0,.int .i64 0,.int .i64 0,.int .i64 0,.int .i64 0,.int .i64 0,.int .i64 0,.int .i64 0,.int .i64 0,.int .i64 0,.int .i64 0,.int .i64 0,.int .i64 0,.int .i64 0,.int .i64 0,.int .i64 0,.int .i64 0,.int .i64 0,.int .i64 0] 192 false:=tA
@[go_sem] theorem Ot:TA 314 20 (.array 20 255) [.int .u64 0,.int .u64 0,.int .u64 0,.int .u64 0,.int .u64 0,.int .u64 0,.int .u64 0,.int .u64 0,.int .u64 0,.int .u64 0,.int .u64 0,.int .u64 0,.int .u64 0,.int .u64 0,.int .u64 0,.int .u64 0,.int .u64 0,.int .u64 0,.int .u64 0,.int .u64 0] 160 false:=tA
@[go_sem] theorem PN:mu Tryz.prog 315=some true∧ff Tryz.prog 315=some 65∧Tryz.prog.underlying 315=some (.array 65 5)∧pm Tryz.prog 315=false:=⟨by kernel_rfl,by kernel_rfl,by kernel_rfl,by kernel_rfl⟩
@[go_sem] theorem Oq:TA 320 3 (.struct #[⟨ "Func",9,0,false,"","",0⟩,⟨ "Num",9,1,false,"","",16⟩,⟨ "Err",95,2,false,"","",32⟩]) [.str [],.str [],.inil] 48 false:=tA
@[go_sem] theorem PM:FO 320 0 0∧FO 320 1 1∧FO 320 2 2:=⟨kr,kr,kr⟩
@[go_sem] theorem Oo:TA 321 3 (.struct #[⟨ "Func",9,0,false,"","",0⟩,⟨ "Num",9,1,false,"","",16⟩,⟨ "Err",95,2,false,"","",32⟩]) [.str [],.str [],.inil] 48 false:=tA
@[go_sem] theorem PL:FO 321 0 0∧FO 321 1 1∧FO 321 2 2:=⟨kr,kr,kr⟩
@[go_sem] theorem On:TB 326 (.func #[61] #[38,32] false) (.fnil) 8:=tB
@[go_sem] theorem Om:TB 328 (.slice 123) (.snil) 24:=tB
@[go_sem] theorem Ol:TA 340 64 (.array 64 5) [.int .u8 0,.int .u8 0,.int .u8 0,.int .u8 0,.int .u8 0,.int .u8 0,.int .u8 0,.int .u8 0,.int .u8 0,.int .u8 0,.int .u8 0,.int .u8 0,.int .u8 0,.int .u8 0,.int .u8 0,.int .u8 0,.int .u8 0,.int .u8 0,.int .u8 0,.int .u8 0,.int .u8 0,.int .u8 0,.int .u8 0,.int .u8 0,.int .u8 0,.int .u8 0,.int .u8 0,.int .u8 0,.int .u8 0,.int .u8 0,.int .u8 0,.int .u8 0,.int .u8 0,.int .u8 0,.int .u8 0,.int .u8 0,.int .u8 0,.int .u8 0,.int .u8 0,.int .u8 0,.int .u8 0,.int .u8 0,.int .u8 0,.int .u8 0,.int .u8 0,.int .u8 0,.int .u8 0,.int .u8 0,.int .u8 0,.int .u8 0,.int .u8 0,.int .u8 0,.int .u8 0,.int .u8 0,.int .u8 0,.int .u8 0,.int .u8 0,.int .u8 0,.int .u8 0,.int .u8 0,.int .u8 0,.int .u8 0,.int .u8 0,.int .u8 0] 64 false:=tA
@[go_sem] theorem Ok:TA 341 4 (.struct #[⟨ "_interface",17,0,false,"","runtime",0⟩,⟨ "concrete",17,1,false,"","runtime",8⟩,⟨ "asserted",17,2,false,"","runtime",16⟩,⟨ "missingMethod",9,3,false,"","runtime",24⟩]) [.nilp,.nilp,.nilp,.str []] 40 false:=tA
@[go_sem] theorem PK:FO 341 0 0∧FO 341 1 1∧FO 341 2 2∧FO 341 3 3:=⟨kr,kr,kr,kr⟩
@[go_sem] theorem Oj:TA 342 4 (.struct #[⟨ "_interface",17,0,false,"","runtime",0⟩,⟨ "concrete",17,1,false,"","runtime",8⟩,⟨ "asserted",17,2,false,"","runtime",16⟩,⟨ "missingMethod",9,3,false,"","runtime",24⟩]) [.nilp,.nilp,.nilp,.str []] 40 false:=tA
@[go_sem] theorem PJ:FO 342 0 0∧FO 342 1 1∧FO 342 2 2∧FO 342 3 3:=⟨kr,kr,kr,kr⟩
@[go_sem] theorem Oi:TB 346 (.int .u8) (.int .u8 0) 1:=tB
@[go_sem] theorem Oh:TB 347 (.int .u8) (.int .u8 0) 1:=tB
@[go_sem] theorem Og:TB 348 (.func #[221,221] #[4] false) (.fnil) 8:=tB
@[go_sem] theorem Oe:TB 349 (.int .i32) (.int .i32 0) 4:=tB
@[go_sem] theorem Od:TB 350 (.int .i32) (.int .i32 0) 4:=tB
@[go_sem] theorem Oc:TA 351 11 (.struct #[⟨ "Size_",12,0,false,"","",0⟩,⟨ "PtrBytes",12,1,false,"","",8⟩,⟨ "Hash",27,2,false,"","",16⟩,⟨ "TFlag",346,3,false,"","",20⟩,⟨ "Align_",5,4,false,"","",21⟩,⟨ "FieldAlign_",5,5,false,"","",22⟩,⟨ "Kind_",347,6,false,"","",23⟩,⟨ "Equal",348,7,false,"","",24⟩,⟨ "GCData",159,8,false,"","",32⟩,⟨ "Str",349,9,false,"","",40⟩,⟨ "PtrToThis",350,10,false,"","",44⟩]) [.int .u64 0,.int .u64 0,.int .u32 0,.int .u8 0,.int .u8 0,.int .u8 0,.int .u8 0,.fnil,.nilp,.int .i32 0,.int .i32 0] 48 false:=tA
@[go_sem] theorem PI:FO 351 0 0∧FO 351 1 1∧FO 351 2 2∧FO 351 3 3∧FO 351 4 4∧FO 351 5 5∧FO 351 6 6∧FO 351 7 7∧FO 351 8 8∧FO 351 9 9∧FO 351 10 10:=⟨kr,kr,kr,kr,kr,kr,kr,kr,kr,kr,kr⟩
@[go_sem] theorem Ob:TA 352 11 (.struct #[⟨ "Size_",12,0,false,"","",0⟩,⟨ "PtrBytes",12,1,false,"","",8⟩,⟨ "Hash",27,2,false,"","",16⟩,⟨ "TFlag",346,3,false,"","",20⟩,⟨ "Align_",5,4,false,"","",21⟩,⟨ "FieldAlign_",5,5,false,"","",22⟩,⟨ "Kind_",347,6,false,"","",23⟩,⟨ "Equal",348,7,false,"","",24⟩,⟨ "GCData",159,8,false,"","",32⟩,⟨ "Str",349,9,false,"","",40⟩,⟨ "PtrToThis",350,10,false,"","",44⟩]) [.int .u64 0,.int .u64 0,.int .u32 0,.int .u8 0,.int .u8 0,.int .u8 0,.int .u8 0,.fnil,.nilp,.int .i32 0,.int .i32 0] 48 false:=tA
@[go_sem] theorem PH:FO 352 0 0∧FO 352 1 1∧FO 352 2 2∧FO 352 3 3∧FO 352 4 4∧FO 352 5 5∧FO 352 6 6∧FO 352 7 7∧FO 352 8 8∧FO 352 9 9∧FO 352 10 10:=⟨kr,kr,kr,kr,kr,kr,kr,kr,kr,kr,kr⟩
theorem mixed:Tryz.prog.follows .mixedOrders=true:=by kernel_rfl
end Go.Proofs.YthdbijpefkapnaaGreatDoor
