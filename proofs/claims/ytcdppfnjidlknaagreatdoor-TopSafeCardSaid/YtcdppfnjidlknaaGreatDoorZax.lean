import Derived.Test.YtcdppfnjidlknaaGreatDoorZaw
set_option linter.unusedVariables false
set_option linter.unusedSimpArgs false
namespace Go.Proofs.YtcdppfnjidlknaaGreatDoor
open Go Go.Eng Go.Proofs
set_option maxRecDepth 8000
noncomputable section
def qzY (o:DOps)(x:Int)(from0:Int)(to:Int):Option (Bool) :=
 some (bif decide (x≥from0) then decide (x≤to) else false)
def quv:DFn:={ro:=true,args:=(.int .i64 (.int .i64 (.int .i64 .nil))),out:={slots:=(.dd 6 (.bool (.dd 8 .nil)))},T:=Bool,to:=fun(v:(Unit)×(Unit)×(Bool×Unit))=>v.2.2.1,of:=fun x=>((),(),(x,()))}
def qcj:=qzY DOps.ev
def q6t (o:DOps):quv.In→Option quv.T:=fun v=>qzY o v.2.2.1 v.2.2.2.1 v.2.2.2.2.1
def q6u:DSpec:=qaf quv Tryz.f51 (q6t DOps.ev)
theorem q6v:DH Tryz.prog 51 q6u:=qad (d:=quv) (Fo:=q6t) ([]:DT) [] [] [] (trivial:DTok Tryz.prog []) (by kernel_rfl) ⟨fun o v=>by kernel_rfl⟩ Tryz.func51 Tryz.call51
def quw (o:DOps)(i:Int):Option (Int) :=
 bif bif decide (i<0) then true else decide (i > 31) then some ((0:Int)) else req (decide (0≤i)) <| o.letv (wq ((1:Int)*2 ^ min i.toNat IntKind.u32.bits)) fun n1=>some n1
def qmH:DFn:={ro:=true,args:=(.int .i64 .nil),out:={slots:=(.dd 2 (.int .u32 (.dd 8 .nil)))},T:=Int,to:=fun(v:(Unit)×(Unit)×(Int×Unit))=>v.2.2.1,of:=fun x=>((),(),(x,()))}
def qoi:=quw DOps.ev
def q2t (o:DOps):qmH.In→Option qmH.T:=fun v=>quw o v.2.2.1
def q2u:DSpec:=qaf qmH Tryz.f171 (q2t DOps.ev)
theorem q4d:DH Tryz.prog 171 q2u:=qad (d:=qmH) (Fo:=q2t) ([]:DT) [] [] [] (trivial:DTok Tryz.prog []) (by kernel_rfl) ⟨fun o v=>by kernel_rfl⟩ Tryz.func171 Tryz.call171
def tab0:ByteArray:={data:=(([(0:UInt8),(1:UInt8),(1:UInt8),(2:UInt8),(1:UInt8),(2:UInt8),(2:UInt8),(3:UInt8),(1:UInt8),(2:UInt8),(2:UInt8),(3:UInt8),(2:UInt8),(3:UInt8),(3:UInt8),(4:UInt8),(1:UInt8),(2:UInt8),(2:UInt8),(3:UInt8),(2:UInt8),(3:UInt8),(3:UInt8),(4:UInt8),(2:UInt8),(3:UInt8),(3:UInt8),(4:UInt8),(3:UInt8),(4:UInt8),(4:UInt8),(5:UInt8),(1:UInt8),(2:UInt8),(2:UInt8),(3:UInt8),(2:UInt8),(3:UInt8),(3:UInt8),(4:UInt8),(2:UInt8),(3:UInt8),(3:UInt8),(4:UInt8),(3:UInt8),(4:UInt8),(4:UInt8),(5:UInt8),(2:UInt8),(3:UInt8),(3:UInt8),(4:UInt8),(3:UInt8),(4:UInt8),(4:UInt8),(5:UInt8),(3:UInt8),(4:UInt8),(4:UInt8),(5:UInt8),(4:UInt8),(5:UInt8),(5:UInt8),(6:UInt8)].append [(1:UInt8),(2:UInt8),(2:UInt8),(3:UInt8),(2:UInt8),(3:UInt8),(3:UInt8),(4:UInt8),(2:UInt8),(3:UInt8),(3:UInt8),(4:UInt8),(3:UInt8),(4:UInt8),(4:UInt8),(5:UInt8),(2:UInt8),(3:UInt8),(3:UInt8),(4:UInt8),(3:UInt8),(4:UInt8),(4:UInt8),(5:UInt8),(3:UInt8),(4:UInt8),(4:UInt8),(5:UInt8),(4:UInt8),(5:UInt8),(5:UInt8),(6:UInt8),(2:UInt8),(3:UInt8),(3:UInt8),(4:UInt8),(3:UInt8),(4:UInt8),(4:UInt8),(5:UInt8),(3:UInt8),(4:UInt8),(4:UInt8),(5:UInt8),(4:UInt8),(5:UInt8),(5:UInt8),(6:UInt8),(3:UInt8),(4:UInt8),(4:UInt8),(5:UInt8),(4:UInt8),(5:UInt8),(5:UInt8),(6:UInt8),(4:UInt8),(5:UInt8),(5:UInt8),(6:UInt8),(5:UInt8),(6:UInt8),(6:UInt8),(7:UInt8)]).append ([(1:UInt8),(2:UInt8),(2:UInt8),(3:UInt8),(2:UInt8),(3:UInt8),(3:UInt8),(4:UInt8),(2:UInt8),(3:UInt8),(3:UInt8),(4:UInt8),(3:UInt8),(4:UInt8),(4:UInt8),(5:UInt8),(2:UInt8),(3:UInt8),(3:UInt8),(4:UInt8),(3:UInt8),(4:UInt8),(4:UInt8),(5:UInt8),(3:UInt8),(4:UInt8),(4:UInt8),(5:UInt8),(4:UInt8),(5:UInt8),(5:UInt8),(6:UInt8),(2:UInt8),(3:UInt8),(3:UInt8),(4:UInt8),(3:UInt8),(4:UInt8),(4:UInt8),(5:UInt8),(3:UInt8),(4:UInt8),(4:UInt8),(5:UInt8),(4:UInt8),(5:UInt8),(5:UInt8),(6:UInt8),(3:UInt8),(4:UInt8),(4:UInt8),(5:UInt8),(4:UInt8),(5:UInt8),(5:UInt8),(6:UInt8),(4:UInt8),(5:UInt8),(5:UInt8),(6:UInt8),(5:UInt8),(6:UInt8),(6:UInt8),(7:UInt8)].append [(2:UInt8),(3:UInt8),(3:UInt8),(4:UInt8),(3:UInt8),(4:UInt8),(4:UInt8),(5:UInt8),(3:UInt8),(4:UInt8),(4:UInt8),(5:UInt8),(4:UInt8),(5:UInt8),(5:UInt8),(6:UInt8),(3:UInt8),(4:UInt8),(4:UInt8),(5:UInt8),(4:UInt8),(5:UInt8),(5:UInt8),(6:UInt8),(4:UInt8),(5:UInt8),(5:UInt8),(6:UInt8),(5:UInt8),(6:UInt8),(6:UInt8),(7:UInt8),(3:UInt8),(4:UInt8),(4:UInt8),(5:UInt8),(4:UInt8),(5:UInt8),(5:UInt8),(6:UInt8),(4:UInt8),(5:UInt8),(5:UInt8),(6:UInt8),(5:UInt8),(6:UInt8),(6:UInt8),(7:UInt8),(4:UInt8),(5:UInt8),(5:UInt8),(6:UInt8),(5:UInt8),(6:UInt8),(6:UInt8),(7:UInt8),(5:UInt8),(6:UInt8),(6:UInt8),(7:UInt8),(6:UInt8),(7:UInt8),(7:UInt8),(8:UInt8)])).toArray:ByteArray}
def qce (o:DOps)(x:Int):Option (Int) :=
 o.letv (x.fdiv ((2:Int) ^ min (Int.toNat (24:Int)) IntKind.u32.bits)) fun n1=>req (decide (0≤n1)) <| req (decide (n1<(↑tab0.size:Int))) <| o.letv (qwd tab0 n1) fun n2=>o.letv (x.fdiv ((2:Int) ^ min (Int.toNat (16:Int)) IntKind.u32.bits)) fun n3=>o.letv (bits BinOp.and IntKind.u32 n3 (255:Int)) fun n4=>req (decide (0≤n4)) <| req (decide (n4<(↑tab0.size:Int))) <| o.letv (qwd tab0 n4) fun n5=>o.letv (wb (n2+n5)) fun n6=>o.letv (x.fdiv ((2:Int) ^ min (Int.toNat (8:Int)) IntKind.u32.bits)) fun n7=>o.letv (bits BinOp.and IntKind.u32 n7 (255:Int)) fun n8=>req (decide (0≤n8)) <| req (decide (n8<(↑tab0.size:Int))) <| o.letv (qwd tab0 n8) fun n9=>o.letv (wb (n6+n9)) fun n10=>o.letv (bits BinOp.and IntKind.u32 x (255:Int)) fun n11=>req (decide (0≤n11)) <| req (decide (n11<(↑tab0.size:Int))) <| o.letv (qwd tab0 n11) fun n12=>o.letv (wb (n10+n12)) fun n13=>o.letv (wi n13) fun n14=>some n14
def qbg:DFn:={ro:=true,args:=(.int .u32 .nil),out:={slots:=(.dd 2 (.int .i64 (.dd 18 .nil)))},T:=Int,to:=fun(v:(Unit)×(Unit)×(Int×Unit))=>v.2.2.1,of:=fun x=>((),(),(x,()))}
def qcE:=qce DOps.ev
def qeO (o:DOps):qbg.In→Option qbg.T:=fun v=>qce o v.2.2.1
def qeP:DSpec:=qaf qbg Tryz.f173 (qeO DOps.ev)
theorem qiG:DH Tryz.prog 173 qeP:=qad (d:=qbg) (Fo:=qeO) ([]:DT) [] [] [] (trivial:DTok Tryz.prog []) (by kernel_rfl) ⟨fun o v=>by kernel_rfl⟩ Tryz.func173 Tryz.call173
def qh8 (o:DOps)(d:List UInt8):Option (Int) :=
 req ((!!bif decide ((d.length:Int)<64) then true else decide ((d.length:Int) > 4096))||decide ((64:Int)≠(0:Int))) <| o.letv ((d.length:Int).tmod (64:Int)) fun n1=>bif bif bif decide ((d.length:Int)<64) then true else decide ((d.length:Int) > 4096) then true else n1 != 0 then some ((180:Int)) else some ((0:Int))
def qdY:DFn:={ro:=true,args:=(.agg (.sl 0 .nil) .nil),out:={slots:=(.dd 2 (.int .i64 (.dd 15 .nil)))},T:=Int,to:=fun(v:(Unit)×(Unit)×(Int×Unit))=>v.2.2.1,of:=fun x=>((),(),(x,()))}
def qd6:=qh8 DOps.ev
def qoj (o:DOps):qdY.In→Option qdY.T:=fun v=>qh8 o v.2.2.1.1
def qok:DSpec:=qaf qdY Tryz.f59 (qoj DOps.ev)
theorem qux:DH Tryz.prog 59 qok:=qad (d:=qdY) (Fo:=qoj) ([]:DT) [] [] [] (trivial:DTok Tryz.prog []) (by kernel_rfl) ⟨fun o v=>by kernel_rfl⟩ Tryz.func59 Tryz.call59
def quy (o:DOps)(d:List UInt8)(n:Int):Option (List UInt8) :=
 o.letv (wi (n*64)) fun n1=>req (decide (0≤n1)) <| req (decide (n1≤d.length)) <| req (decide ((64:Int)≤(↑(List.drop n1.toNat d).length:Int))) <| some (List.take (Int.toNat (64:Int)) (List.drop n1.toNat d))
def qmI:DFn:={ro:=false,args:=(.agg (.sl 0 .nil) (.int .i64 .nil)),out:={slots:=(.dd 4 (.sl 0 (.dd 6 .nil))),fz:=true},T:=List UInt8,to:=fun(v:(Unit)×(Unit)×(List UInt8×Unit))=>v.2.2.1,of:=fun x=>((),(),(x,()))}
def qzZ:=quy DOps.ev
def q2v (o:DOps):qmI.In→Option qmI.T:=fun v=>quy o v.2.2.1.1 v.2.2.2.1
def q2w:DSpec:=qaf qmI Tryz.f74 (q2v DOps.ev)
theorem q4e:DH Tryz.prog 74 q2w:=qad (d:=qmI) (Fo:=q2v) ([]:DT) [] [] [] (trivial:DTok Tryz.prog []) (by kernel_rfl) ⟨fun o v=>by kernel_rfl⟩ Tryz.func74 Tryz.call74
def qbG (o:DOps)(b:List UInt8):Option (List UInt8) :=
 bif b.isEmpty then sm o [some qal,req (decide ((0+b.length)*1≤140737488355328)) <| o.letv ([]++b) fun z2=>rs (0+b.length) z2.length <| some z2] (.n (.l 0) (.l 1)) else req (decide ((0+b.length)*1≤140737488355328)) <| o.letv ([]++b) fun z1=>rs (0+b.length) z1.length <| some z1
def qdZ:DFn:={ro:=true,args:=(.sl 0 .nil),out:={slots:=(.dd 2 (.row 0 902 (.dd 5 .nil))),blks:=[(902,.row 0)],boxes:=[(2,902,0)]},T:=List (UInt8),to:=fun(v:(List (UInt8)×Unit)×(Unit)×(Unit))=>v.1.1,of:=fun x=>((x,()),(),())}
def qcu:=qbG DOps.ev
def qol (o:DOps):qdZ.In→Option qdZ.T:=fun v=>qbG o v.2.2.1
def qom:DSpec:=qaf qdZ Tryz.f73 (qol DOps.ev)
theorem quz (b:List UInt8):qbG DOps.std b=qbG DOps.ev b:=by cases b with|nil=>(unfold qbG;simp only[List.isEmpty_nil,cond_true,sm_l,sm_n,qdt,qdu];exact qaw (by kernel_rfl))|cons x l=>kernel_rfl
theorem qu0:DH Tryz.prog 73 qom:=qad (d:=qdZ) (Fo:=qol) ([]:DT) [] [] [] (trivial:DTok Tryz.prog []) (funext fun v=>quz _) ⟨fun o v=>by kernel_rfl⟩ Tryz.func73 Tryz.call73
def q0a (o:DOps)(b:List UInt8):Option (Int×Int) :=
 bif bif decide ((b.length:Int)<1) then true else decide ((b.length:Int) > 8) then some (((0:Int),(8:Int))) else o.fix (((),(),(0:Int),b,(b.length:Int),(0:Int),())) fun r1 (_,_,n2,z3,n4,n5,_)=>bif decide (n5<n4) then ix o z3 n5 (0:UInt8) fun x6=>o.letv (wu (↑x6.toNat:Int)) fun n7=>o.letv (wi ((8:Int)*n5)) fun n8=>req (decide (0≤n8)) <| o.letv (wu (n7*2 ^ min n8.toNat IntKind.u64.bits)) fun n9=>o.letv (bits BinOp.or IntKind.u64 n2 n9) fun n10=>inc o n5 fun n11=>r1 (((),(),n10,z3,n4,n11,())) else some ((n2,(0:Int)))
def qu1:DFn:={ro:=true,args:=(.sl 0 .nil),out:={slots:=(.dd 2 (.int .u64 (.int .i64 (.dd 26 .nil))))},T:=Int×Int,to:=fun(v:(Unit)×(Unit)×(Int×Int×Unit))=>(v.2.2.1,v.2.2.2.1),of:=fun x=>((),(),(x.1,(x.2,())))}
def qw7:=q0a DOps.ev
def q6w (o:DOps):qu1.In→Option qu1.T:=fun v=>q0a o v.2.2.1
def q6x:DSpec:=qaf qu1 Tryz.f211 (q6w DOps.ev)
theorem q6y:DH Tryz.prog 211 q6x:=qad (d:=qu1) (Fo:=q6w) ([]:DT) [(4,{slots:=(.dd 2 (.int .u64 (.dd 11 (.sl 0 (.int .i64 (.int .i64 (.dd 13 .nil)))))))})] [] [] (trivial:DTok Tryz.prog []) (by kernel_rfl) ⟨fun o v=>by kernel_rfl⟩ Tryz.func211 Tryz.call211
def qu2 (o:DOps)(b:List UInt8):Option (Int×Int×Int) :=
 o.fix (((),(),(0:Int),b,(b.length:Int),(0:Int),())) fun r1 (_,_,n2,z3,n4,n5,_)=>bif decide (n5<n4) then ix o z3 n5 (0:UInt8) fun x6=>bif bif n5==9 then decide ((↑x6.toNat:Int) > 1) else false then some (((0:Int),(0:Int),(8:Int))) else o.letv (bits BinOp.and IntKind.u8 (↑x6.toNat:Int) (127:Int)) fun n7=>o.letv (wu n7) fun n8=>o.letv (wi ((7:Int)*n5)) fun n9=>req (decide (0≤n9)) <| o.letv (wu (n8*2 ^ min n9.toNat IntKind.u64.bits)) fun n10=>o.letv (bits BinOp.or IntKind.u64 n2 n10) fun n11=>bif decide ((↑x6.toNat:Int)<128) then bif bif (↑x6.toNat:Int)==0 then decide (n5 > 0) else false then some (((0:Int),(0:Int),(8:Int))) else inc o n5 fun n13=>some ((n11,n13,(0:Int))) else inc o n5 fun n12=>r1 (((),(),n11,z3,n4,n12,())) else some (((0:Int),(0:Int),(8:Int)))
def qmJ:DFn:={ro:=true,args:=(.sl 0 .nil),out:={slots:=(.dd 2 (.int .u64 (.int .i64 (.int .i64 (.dd 36 .nil)))))},T:=Int×Int×Int,to:=fun(v:(Unit)×(Unit)×(Int×Int×Int×Unit))=>(v.2.2.1,v.2.2.2.1,v.2.2.2.2.1),of:=fun x=>((),(),(x.1,(x.2.1,(x.2.2,()))))}
def qkq:=qu2 DOps.ev
def q2y (o:DOps):qmJ.In→Option qmJ.T:=fun v=>qu2 o v.2.2.1
def q2z:DSpec:=qaf qmJ Tryz.f105 (q2y DOps.ev)
theorem q4f:DH Tryz.prog 105 q2z:=qad (d:=qmJ) (Fo:=q2y) ([]:DT) [(3,{slots:=(.dd 5 (.int .u64 (.dd 2 (.sl 0 (.int .i64 (.int .i64 (.dd 30 .nil)))))))})] [] [] (trivial:DTok Tryz.prog []) (by kernel_rfl) ⟨fun o v=>by kernel_rfl⟩ Tryz.func105 Tryz.call105
def qon (o:DOps)(n:Int):Option (List UInt8) :=
 o.fix (((qal,()),(),n,())) fun r1 ((z2,_),_,n3,_)=>bif decide (n3 > 127) then o.letv (wb n3) fun n6=>o.letv (bits BinOp.or IntKind.u8 n6 (128:Int)) fun n7=>rm (z2.length+1) 1 <| o.letv (List.take z2.length z2++[UInt8.ofNat n7.toNat]) fun z8=>o.letv (n3.fdiv ((2:Int) ^ min (Int.toNat (7:Int)) IntKind.u64.bits)) fun n9=>rs (z2.length+1) z8.length <| r1 (((z8,()),(),n9,())) else o.letv (wb n3) fun n4=>rm (z2.length+1) 1 <| o.letv (List.take z2.length z2++[UInt8.ofNat n4.toNat]) fun z5=>rs (z2.length+1) z5.length <| some z5
def qiH:DFn:={ro:=true,args:=(.int .u64 .nil),out:={slots:=(.dd 2 (.row 0 902 (.dd 16 .nil))),blks:=[(902,.row 0)],boxes:=[(2,902,0)]},T:=List (UInt8),to:=fun(v:(List (UInt8)×Unit)×(Unit)×(Unit))=>v.1.1,of:=fun x=>((x,()),(),())}
def qcT:=qon DOps.ev
def qw8 (o:DOps):qiH.In→Option qiH.T:=fun v=>qon o v.2.2.1
def qw9:DSpec:=qaf qiH Tryz.f170 (qw8 DOps.ev)
theorem q0b:DH Tryz.prog 170 qw9:=qad (d:=qiH) (Fo:=qw8) ([]:DT) [(2,{slots:=(.int .u64 (.dd 2 (.row 0 903 (.dd 15 .nil)))),blks:=[(903,.row 0)],boxes:=[(3,903,0)]})] [] [] (trivial:DTok Tryz.prog []) (by kernel_rfl) ⟨fun o v=>by kernel_rfl⟩ Tryz.func170 Tryz.call170
def qh9 (o:DOps)(a:List UInt8)(b:List UInt8):Option (Bool) :=
 some (a.toArray.toList==b.toArray.toList)
def qea:DFn:={ro:=true,args:=(.sl 0 (.sl 0 .nil)),out:={slots:=(.dd 4 (.bool (.dd 5 .nil)))},T:=Bool,to:=fun(v:(Unit)×(Unit)×(Bool×Unit))=>v.2.2.1,of:=fun x=>((),(),(x,()))}
def qd7:=qh9 DOps.ev
def qoo (o:DOps):qea.In→Option qea.T:=fun v=>qh9 o v.2.2.1 v.2.2.2.1
def qop:DSpec:=qaf qea Tryz.f50 (qoo DOps.ev)
theorem qu3:DH Tryz.prog 50 qop:=qad (d:=qea) (Fo:=qoo) ([]:DT) [] [] [] (trivial:DTok Tryz.prog []) (by kernel_rfl) ⟨fun o v=>by kernel_rfl⟩ Tryz.func50 Tryz.call50
def qkr (o:DOps)(n:Int):Option (Bool) :=
 some (bif decide (n≥0) then decide (n≤65535) else false)
def qfV:DFn:={ro:=true,args:=(.int .i64 .nil),out:={slots:=(.dd 2 (.bool (.dd 6 .nil)))},T:=Bool,to:=fun(v:(Unit)×(Unit)×(Bool×Unit))=>v.2.2.1,of:=fun x=>((),(),(x,()))}
def qiI:=qkr DOps.ev
def qr6 (o:DOps):qfV.In→Option qfV.T:=fun v=>qkr o v.2.2.1
def qr7:DSpec:=qaf qfV Tryz.f106 (qr6 DOps.ev)
theorem qwA:DH Tryz.prog 106 qr7:=qad (d:=qfV) (Fo:=qr6) ([]:DT) [] [] [] (trivial:DTok Tryz.prog []) (by kernel_rfl) ⟨fun o v=>by kernel_rfl⟩ Tryz.func106 Tryz.call106
def q0c (o:DOps)(n:Int)(width:Int):Option (List UInt8×Int) :=
 o.letv (wi ((8:Int)*width)) fun n1=>req (!decide (width<8)||((!!bif decide (width<1) then true else decide (width > 8))||decide (0≤n1))) <| o.letv (n.fdiv ((2:Int) ^ min n1.toNat IntKind.u64.bits)) fun n2=>bif bif bif decide (width<1) then true else decide (width > 8) then true else bif decide (width<8) then n2 != 0 else false then some ((qal,(2:Int))) else req (decide (0≤width∧width≤width∧width*(↑1:Int)≤140737488355328)) <| rs width.toNat (List.replicate width.toNat (UInt8.ofNat 0)).length <| o.fix (((List.replicate width.toNat (UInt8.ofNat 0),()),(),n,(↑width.toNat:Int),(0:Int),())) fun r3 ((z4,_),_,n5,n6,n7,_)=>bif decide (n7<n6) then o.letv (wi ((8:Int)*n7)) fun n8=>req (decide (0≤n8)) <| o.letv (n5.fdiv ((2:Int) ^ min n8.toNat IntKind.u64.bits)) fun n9=>o.letv (wb n9) fun n10=>rb n7 z4.length <| req (decide (0+n7.toNat<z4.length)) <| o.letv (z4.set (0+n7.toNat) (UInt8.ofNat n10.toNat)) fun z11=>inc o n7 fun n12=>rs z4.length z11.length <| r3 (((z11,()),(),n5,n6,n12,())) else rs z4.length z4.length <| some ((z4,(0:Int)))
def qu4:DFn:={ro:=true,args:=(.int .u64 (.int .i64 .nil)),out:={slots:=(.dd 4 (.row 0 904 (.int .i64 (.dd 36 .nil)))),blks:=[(904,.row 0)],boxes:=[(4,904,0)]},T:=List (UInt8)×Int,to:=fun(v:(List (UInt8)×Unit)×(Unit)×(Int×Unit))=>(v.1.1,v.2.2.1),of:=fun x=>((x.1,()),(),(x.2,()))}
def qwB:=q0c DOps.ev
def q6z (o:DOps):qu4.In→Option qu4.T:=fun v=>q0c o v.2.2.1 v.2.2.2.1
def q60:DSpec:=qaf qu4 Tryz.f167 (q6z DOps.ev)
theorem q61:DH Tryz.prog 167 q60:=qad (d:=qu4) (Fo:=q6z) ([]:DT) [(5,{slots:=(.int .u64 (.dd 5 (.row 0 4001 (.dd 21 (.int .i64 (.int .i64 (.dd 12 .nil))))))),blks:=[(4001,.row 0)]})] [] [] (trivial:DTok Tryz.prog []) (by kernel_rfl) ⟨fun o v=>by kernel_rfl⟩ Tryz.func167 Tryz.call167
def qks (o:DOps)(s:SiteT)(a:Int)(b:Int):Option (Bool) :=
 ix o s.apart a (0:UInt32) fun x1=>req (decide (0≤b)) <| o.letv ((↑x1.toNat:Int).fdiv ((2:Int) ^ min b.toNat IntKind.u32.bits)) fun n2=>o.letv (bits BinOp.and IntKind.u32 n2 (1:Int)) fun n3=>some (n3==1)
def qfW:DFn:={ro:=true,args:=(.agg (.seg 25 .nil) (.int .i64 (.int .i64 .nil))),out:={slots:=(.dd 6 (.bool (.dd 9 .nil)))},T:=Bool,to:=fun(v:(Unit)×(Unit)×(Bool×Unit))=>v.2.2.1,of:=fun x=>((),(),(x,()))}
def qft:=qks DOps.ev
def qr8 (o:DOps):qfW.In→Option qfW.T:=fun v=>qks o v.2.2.1.1 v.2.2.2.1 v.2.2.2.2.1
def qr9:DSpec:=qaf qfW Tryz.f199 (qr8 DOps.ev)
theorem qwC:DH Tryz.prog 199 qr9:=qad (d:=qfW) (Fo:=qr8) ([]:DT) [] [] [] (trivial:DTok Tryz.prog []) (by kernel_rfl) ⟨fun o v=>by kernel_rfl⟩ Tryz.func199 Tryz.call199
def qfu (o:DOps)(s:SiteT)(a:Int)(b:Int):Option (Int) :=
 ix o s.between a (dflt 7) fun z1=>ix o z1 b (0:Int) fun n2=>some n2
def qcU:DFn:={ro:=true,args:=(.agg (.seg 25 .nil) (.int .i64 (.int .i64 .nil))),out:={slots:=(.dd 6 (.int .i64 (.dd 8 .nil)))},T:=Int,to:=fun(v:(Unit)×(Unit)×(Int×Unit))=>v.2.2.1,of:=fun x=>((),(),(x,()))}
def qeb:=qfu DOps.ev
def qlG (o:DOps):qcU.In→Option qcU.T:=fun v=>qfu o v.2.2.1.1 v.2.2.2.1 v.2.2.2.2.1
def qlH:DSpec:=qaf qcU Tryz.f203 (qlG DOps.ev)
theorem qqK:DH Tryz.prog 203 qlH:=qad (d:=qcU) (Fo:=qlG) ([]:DT) [] [] [] (trivial:DTok Tryz.prog []) (by kernel_rfl) ⟨fun o v=>by kernel_rfl⟩ Tryz.func203 Tryz.call203
def qfv (o:DOps)(kept:Int):Option (Int×Int×Bool) :=
 bif bif kept==2 then true else kept==3 then some (((2:Int),(0:Int),false)) else some (((1:Int),(0:Int),false))
def qcV:DFn:={ro:=true,args:=(.int .u8 .nil),out:={slots:=(.dd 2 (.ptr 1000 0 (.dd 10 .nil))),blks:=[(1000,.cells (.int .u8 (.int .i64 (.bool .nil))))]},T:=Int×Int×Bool,to:=fun(v:(Unit)×((Int×Int×Bool×Unit)×Unit)×(Unit))=>(v.2.1.1.1,v.2.1.1.2.1,v.2.1.1.2.2.1),of:=fun x=>((),((x.1,(x.2.1,(x.2.2,()))),()),())}
def qec:=qfv DOps.ev
def qlI (o:DOps):qcV.In→Option qcV.T:=fun v=>qfv o v.2.2.1
def qlJ:DSpec:=qaf qcV Tryz.f63 (qlI DOps.ev)
theorem qqL:DH Tryz.prog 63 qlJ:=qad (d:=qcV) (Fo:=qlI) ([]:DT) [] [] [] (trivial:DTok Tryz.prog []) (by kernel_rfl) ⟨fun o v=>by kernel_rfl⟩ Tryz.func63 Tryz.call63
def qkt (o:DOps)(l:Bool)(l2:Int)(l3:Int):Option (Int) :=
 bif bif bif decide (l3<0) then true else decide (l3 > 1048576) then true else bif !l then l2 != 0 else false then some ((8:Int)) else some ((0:Int))
def qfX:DFn:={ro:=true,args:=(.agg (.bool (.int .u32 (.int .i64 .nil))) .nil),out:={slots:=(.dd 2 (.int .i64 (.dd 18 .nil)))},T:=Int,to:=fun(v:(Unit)×(Unit)×(Int×Unit))=>v.2.2.1,of:=fun x=>((),(),(x,()))}
def qoq:=qkt DOps.ev
def qrA (o:DOps):qfX.In→Option qfX.T:=fun v=>qkt o v.2.2.1.1 v.2.2.1.2.1 v.2.2.1.2.2.1
def qrB:DSpec:=qaf qfX Tryz.f123 (qrA DOps.ev)
theorem qwD:DH Tryz.prog 123 qrB:=qad (d:=qfX) (Fo:=qrA) ([]:DT) [] [] [] (trivial:DTok Tryz.prog []) (by kernel_rfl) ⟨fun o v=>by kernel_rfl⟩ Tryz.func123 Tryz.call123
def qor (o:DOps)(last:Int):Option (Int×Int) :=
 bif last==4294967295 then some (((0:Int),(2:Int))) else o.letv (wq (last+1)) fun n1=>some ((n1,(0:Int)))
def qiJ:DFn:={ro:=true,args:=(.int .u32 .nil),out:={slots:=(.dd 2 (.int .u32 (.int .i64 (.dd 4 .nil))))},T:=Int×Int,to:=fun(v:(Unit)×(Unit)×(Int×Int×Unit))=>(v.2.2.1,v.2.2.2.1),of:=fun x=>((),(),(x.1,(x.2,())))}
def qu5:=qor DOps.ev
def qwE (o:DOps):qiJ.In→Option qiJ.T:=fun v=>qor o v.2.2.1
def qwF:DSpec:=qaf qiJ Tryz.f99 (qwE DOps.ev)
theorem q0d:DH Tryz.prog 99 qwF:=qad (d:=qiJ) (Fo:=qwE) ([]:DT) [] [] [] (trivial:DTok Tryz.prog []) (by kernel_rfl) ⟨fun o v=>by kernel_rfl⟩ Tryz.func99 Tryz.call99
def q0e (o:DOps)(b:List UInt8):Option (Int) :=
 o.fix (((UInt32.ofNat (Int.toNat (0:Int))::UInt32.ofNat (Int.toNat (498536548:Int))::UInt32.ofNat (Int.toNat (997073096:Int))::UInt32.ofNat (Int.toNat (651767980:Int))::UInt32.ofNat (Int.toNat (1994146192:Int))::UInt32.ofNat (Int.toNat (1802195444:Int))::UInt32.ofNat (Int.toNat (1303535960:Int))::UInt32.ofNat (Int.toNat (1342533948:Int))::UInt32.ofNat (Int.toNat (3988292384:Int))::UInt32.ofNat (Int.toNat (4027552580:Int))::UInt32.ofNat (Int.toNat (3604390888:Int))::UInt32.ofNat (Int.toNat (3412177804:Int))::UInt32.ofNat (Int.toNat (2607071920:Int))::UInt32.ofNat (Int.toNat (2262029012:Int))::UInt32.ofNat (Int.toNat (2685067896:Int))::UInt32.ofNat (Int.toNat (3183342108:Int))::nilL2,()),(),(4294967295:Int),b,(b.length:Int),(0:Int),())) fun r1 ((z2,_),_,n3,z4,n5,n6,_)=>bif decide (n6<n5) then ix o z4 n6 (0:UInt8) fun x8=>o.letv (n3.fdiv ((2:Int) ^ min (Int.toNat (4:Int)) IntKind.u32.bits)) fun n9=>o.letv (wq (↑x8.toNat:Int)) fun n10=>o.letv (bits BinOp.xor IntKind.u32 n3 n10) fun n11=>o.letv (bits BinOp.and IntKind.u32 n11 (15:Int)) fun n12=>req (decide (0≤n12)) <| req (decide (n12<(↑16:Int))) <| req (decide (n12.toNat<z2.length)) <| o.letv ((↑(z2.getD n12.toNat (0:UInt32)).toNat:Int)) fun n13=>o.letv (bits BinOp.xor IntKind.u32 n9 n13) fun n14=>o.letv (n14.fdiv ((2:Int) ^ min (Int.toNat (4:Int)) IntKind.u32.bits)) fun n15=>o.letv ((↑x8.toNat:Int).fdiv ((2:Int) ^ min (Int.toNat (4:Int)) IntKind.u8.bits)) fun n16=>o.letv (wq n16) fun n17=>o.letv (bits BinOp.xor IntKind.u32 n14 n17) fun n18=>o.letv (bits BinOp.and IntKind.u32 n18 (15:Int)) fun n19=>req (decide (0≤n19)) <| req (decide (n19<(↑16:Int))) <| req (decide (n19.toNat<z2.length)) <| o.letv ((↑(z2.getD n19.toNat (0:UInt32)).toNat:Int)) fun n20=>o.letv (bits BinOp.xor IntKind.u32 n15 n20) fun n21=>inc o n6 fun n22=>r1 (((z2,()),(),n21,z4,n5,n22,())) else o.letv (bits BinOp.xor IntKind.u32 (4294967295:Int) n3) fun n7=>some n7
def qu6:DFn:={ro:=true,args:=(.sl 0 .nil),out:={slots:=(.dd 2 (.int .u32 (.dd 35 .nil)))},T:=Int,to:=fun(v:(Unit)×(Unit)×(Int×Unit))=>v.2.2.1,of:=fun x=>((),(),(x,()))}
def q20:=q0e DOps.ev
def q62 (o:DOps):qu6.In→Option qu6.T:=fun v=>q0e o v.2.2.1
def q63:DSpec:=qaf qu6 Tryz.f168 (q62 DOps.ev)
theorem q64:DH Tryz.prog 168 q63:=qad (d:=qu6) (Fo:=q62) ([]:DT) [(4,{slots:=(.dd 3 (.ptr 2001 0 (.int .u32 (.dd 3 (.sl 0 (.int .i64 (.int .i64 (.dd 27 .nil)))))))),blks:=[(2001,.row 2)]})] [] [] (trivial:DTok Tryz.prog []) (by kernel_rfl) ⟨fun o v=>by kernel_rfl⟩ Tryz.func168 Tryz.call168
def qhA (o:DOps)(b:List UInt8):Option (List UInt8) :=
 req (decide ((0:Int)≤0∧(0:Int)≤b.length∧(b.length:Int)*(↑1:Int)≤140737488355328)) <| o.fix (((qal,()),(),b,(b.length:Int),(0:Int),())) fun r1 ((z2,_),_,z3,n4,n5,_)=>bif decide (n5<n4) then ix o z3 n5 (0:UInt8) fun x6=>bif bif (↑x6.toNat:Int)==125 then true else (↑x6.toNat:Int)==126 then rm (z2.length+1) 1 <| o.letv (List.take z2.length z2++[UInt8.ofNat 125]) fun z9=>o.letv (wb ((↑x6.toNat:Int)-32)) fun n10=>req (decide ((z2.length+1+1)*1≤140737488355328)) <| o.letv (List.take (z2.length+1) z9++[UInt8.ofNat n10.toNat]) fun z11=>inc o n5 fun n12=>rs (z2.length+1+1) z11.length <| r1 (((z11,()),(),z3,n4,n12,())) else rm (z2.length+1) 1 <| o.letv (List.take z2.length z2++[UInt8.ofNat (↑x6.toNat:Int).toNat]) fun z7=>inc o n5 fun n8=>rs (z2.length+1) z7.length <| r1 (((z7,()),(),z3,n4,n8,())) else rs z2.length z2.length <| some z2
def qed:DFn:={ro:=true,args:=(.sl 0 .nil),out:={slots:=(.dd 2 (.row 0 902 (.dd 29 .nil))),blks:=[(902,.row 0)],boxes:=[(2,902,0)]},T:=List (UInt8),to:=fun(v:(List (UInt8)×Unit)×(Unit)×(Unit))=>v.1.1,of:=fun x=>((x,()),(),())}
def qku:=qhA DOps.ev
def qos (o:DOps):qed.In→Option qed.T:=fun v=>qhA o v.2.2.1
def qot:DSpec:=qaf qed Tryz.f104 (qos DOps.ev)
theorem qu7:DH Tryz.prog 104 qot:=qad (d:=qed) (Fo:=qos) ([]:DT) [(3,{slots:=(.dd 3 (.row 0 903 (.dd 5 (.sl 0 (.int .i64 (.int .i64 (.dd 20 .nil))))))),blks:=[(903,.row 0)],boxes:=[(3,903,0)]})] [] [] (trivial:DTok Tryz.prog []) (by kernel_rfl) ⟨fun o v=>by kernel_rfl⟩ Tryz.func104 Tryz.call104
def qkv (o:DOps)(b:List UInt8):Option (List UInt8×Int) :=
 req (decide ((0:Int)≤0∧(0:Int)≤b.length∧(b.length:Int)*(↑1:Int)≤140737488355328)) <| o.fix (((qal,()),(),false,b,(b.length:Int),(0:Int),())) fun r1 ((z2,_),_,b3,z4,n5,n6,_)=>bif decide (n6<n5) then ix o z4 n6 (0:UInt8) fun x7=>bif bif bif b3 then (↑x7.toNat:Int) != 93 else false then (↑x7.toNat:Int) != 94 else false then bif bif bif b3 then (↑x7.toNat:Int) != 93 else false then (↑x7.toNat:Int) != 94 else false then some ((qal,(8:Int))) else bif b3 then o.letv (wb ((↑x7.toNat:Int)+32)) fun n17=>rm (z2.length+1) 1 <| o.letv (List.take z2.length z2++[UInt8.ofNat n17.toNat]) fun z18=>inc o n6 fun n19=>rs (z2.length+1) z18.length <| r1 (((z18,()),(),false,z4,n5,n19,())) else bif (↑x7.toNat:Int)==125 then inc o n6 fun n16=>rs z2.length z2.length <| r1 (((z2,()),(),true,z4,n5,n16,())) else rm (z2.length+1) 1 <| o.letv (List.take z2.length z2++[UInt8.ofNat (↑x7.toNat:Int).toNat]) fun z14=>inc o n6 fun n15=>rs (z2.length+1) z14.length <| r1 (((z14,()),(),b3,z4,n5,n15,())) else bif (↑x7.toNat:Int)==126 then some ((qal,(8:Int))) else bif b3 then o.letv (wb ((↑x7.toNat:Int)+32)) fun n11=>rm (z2.length+1) 1 <| o.letv (List.take z2.length z2++[UInt8.ofNat n11.toNat]) fun z12=>inc o n6 fun n13=>rs (z2.length+1) z12.length <| r1 (((z12,()),(),false,z4,n5,n13,())) else bif (↑x7.toNat:Int)==125 then inc o n6 fun n10=>rs z2.length z2.length <| r1 (((z2,()),(),true,z4,n5,n10,())) else rm (z2.length+1) 1 <| o.letv (List.take z2.length z2++[UInt8.ofNat (↑x7.toNat:Int).toNat]) fun z8=>inc o n6 fun n9=>rs (z2.length+1) z8.length <| r1 (((z8,()),(),b3,z4,n5,n9,())) else bif b3 then some ((qal,(8:Int))) else rs z2.length z2.length <| some ((z2,(0:Int)))
def qfY:DFn:={ro:=true,args:=(.sl 0 .nil),out:={slots:=(.dd 2 (.row 0 902 (.int .i64 (.dd 42 .nil)))),blks:=[(902,.row 0)],boxes:=[(2,902,0)]},T:=List (UInt8)×Int,to:=fun(v:(List (UInt8)×Unit)×(Unit)×(Int×Unit))=>(v.1.1,v.2.2.1),of:=fun x=>((x.1,()),(),(x.2,()))}
def qou:=qkv DOps.ev
def qrC (o:DOps):qfY.In→Option qfY.T:=fun v=>qkv o v.2.2.1
def qrD:DSpec:=qaf qfY Tryz.f206 (qrC DOps.ev)
theorem qwG:DH Tryz.prog 206 qrD:=qad (d:=qfY) (Fo:=qrC) ([]:DT) [(4,{slots:=(.dd 4 (.row 0 904 (.bool (.dd 5 (.sl 0 (.int .i64 (.int .i64 (.dd 32 .nil)))))))),blks:=[(904,.row 0)],boxes:=[(4,904,0)]})] [] [] (trivial:DTok Tryz.prog []) (by kernel_rfl) ⟨fun o v=>by kernel_rfl⟩ Tryz.func206 Tryz.call206
def qaV (o:DOps)(s:List UInt8)(c:Int):Option (Int) :=
 o.letv (wi ((s.length:Int)-1)) fun n1=>o.fix (((),(),s,c,n1,())) fun r2 (_,_,z3,n4,n5,_)=>bif decide (n5≥0) then ix o z3 n5 (0:UInt8) fun x6=>bif (↑x6.toNat:Int)==n4 then some n5 else o.letv (wi (n5-1)) fun n7=>r2 (((),(),z3,n4,n7,())) else some ((-1:Int))
def qa7:DFn:={ro:=true,args:=(.sl 0 (.int .u8 .nil)),out:={slots:=(.dd 4 (.int .i64 (.dd 15 .nil)))},T:=Int,to:=fun(v:(Unit)×(Unit)×(Int×Unit))=>v.2.2.1,of:=fun x=>((),(),(x,()))}
def qbb:=qaV DOps.ev
def qbW (o:DOps):qa7.In→Option qa7.T:=fun v=>qaV o v.2.2.1 v.2.2.2.1
def qbX:DSpec:=qaf qa7 Tryz.f179 (qbW DOps.ev)
theorem qee:DH Tryz.prog 179 qbX:=qad (d:=qa7) (Fo:=qbW) ([]:DT) [(2,{slots:=(.sl 0 (.int .u8 (.dd 3 (.int .i64 (.dd 14 .nil)))))})] [] [] (trivial:DTok Tryz.prog []) (by kernel_rfl) ⟨fun o v=>by kernel_rfl⟩ Tryz.func179 Tryz.call179
def qov (o:DOps):Option (Bool×Bool×Bool) :=
 some ((false,false,true))
def qiK:DFn:={ro:=true,args:=.nil,out:={slots:=(.ptr 2001 0 (.dd 2 .nil)),blks:=[(2001,.cells (.nilsl (.bool (.bool (.bool .nil)))))]},T:=Bool×Bool×Bool,to:=fun(v:(Unit)×((Bool×Bool×Bool×Unit)×Unit)×(Unit))=>(v.2.1.1.1,v.2.1.1.2.1,v.2.1.1.2.2.1),of:=fun x=>((),((x.1,(x.2.1,(x.2.2,()))),()),())}
def qu8:=qov DOps.ev
def qwH (o:DOps):qiK.In→Option qiK.T:=fun v=>qov o
def qwI:DSpec:=qaf qiK Tryz.f120 (qwH DOps.ev)
theorem q0f:DH Tryz.prog 120 qwI:=qad (d:=qiK) (Fo:=qwH) ([]:DT) [] [] [] (trivial:DTok Tryz.prog []) (by kernel_rfl) ⟨fun o v=>by kernel_rfl⟩ Tryz.func120 Tryz.call120
def qow (o:DOps)(s:SiteT)(phase:Int):Option (Int) :=
 inc o phase fun n1=>req (decide ((s.phases.length:Int)≠(0:Int))) <| o.letv (n1.tmod (s.phases.length:Int)) fun n2=>some n2
def qiL:DFn:={ro:=true,args:=(.agg (.seg 25 .nil) (.int .i64 .nil)),out:={slots:=(.dd 4 (.int .i64 (.dd 6 .nil)))},T:=Int,to:=fun(v:(Unit)×(Unit)×(Int×Unit))=>v.2.2.1,of:=fun x=>((),(),(x,()))}
def qmK:=qow DOps.ev
def qwJ (o:DOps):qiL.In→Option qiL.T:=fun v=>qow o v.2.2.1.1 v.2.2.2.1
def qwK:DSpec:=qaf qiL Tryz.f147 (qwJ DOps.ev)
theorem q0g:DH Tryz.prog 147 qwK:=qad (d:=qiL) (Fo:=qwJ) ([]:DT) [] [] [] (trivial:DTok Tryz.prog []) (by kernel_rfl) ⟨fun o v=>by kernel_rfl⟩ Tryz.func147 Tryz.call147
def qkw (o:DOps)(n:Int)(most:Int):Option (Int) :=
 inc o n fun n1=>o.letv (min n1 most) fun n2=>some n2
def qfZ:DFn:={ro:=true,args:=(.int .i64 (.int .i64 .nil)),out:={slots:=(.dd 4 (.int .i64 (.dd 4 .nil)))},T:=Int,to:=fun(v:(Unit)×(Unit)×(Int×Unit))=>v.2.2.1,of:=fun x=>((),(),(x,()))}
def qay:=qkw DOps.ev
def qrE (o:DOps):qfZ.In→Option qfZ.T:=fun v=>qkw o v.2.2.1 v.2.2.2.1
def qrF:DSpec:=qaf qfZ Tryz.f45 (qrE DOps.ev)
theorem qwL:DH Tryz.prog 45 qrF:=qad (d:=qfZ) (Fo:=qrE) ([]:DT) [] [] [] (trivial:DTok Tryz.prog []) (by kernel_rfl) ⟨fun o v=>by kernel_rfl⟩ Tryz.func45 Tryz.call45
def qhB (o:DOps)(s1:List Int)(s2:List Int):Option (Bool) :=
 bif (s1.length:Int) != (s2.length:Int) then some false else o.fix (((),(),s1,s2,(s1.length:Int),(0:Int),())) fun r1 (_,_,z2,z3,n4,n5,_)=>bif decide (n5<n4) then ix o z2 n5 (0:Int) fun n6=>ix o z3 n5 (0:Int) fun n7=>bif n6 != n7 then some false else inc o n5 fun n8=>r1 (((),(),z2,z3,n4,n8,())) else some true
def qef:DFn:={ro:=true,args:=(.sl 1 (.sl 1 .nil)),out:={slots:=(.dd 4 (.bool (.dd 21 .nil)))},T:=Bool,to:=fun(v:(Unit)×(Unit)×(Bool×Unit))=>v.2.2.1,of:=fun x=>((),(),(x,()))}
def qkx:=qhB DOps.ev
def qox (o:DOps):qef.In→Option qef.T:=fun v=>qhB o v.2.2.1 v.2.2.2.1
def qoy:DSpec:=qaf qef Tryz.f125 (qox DOps.ev)
theorem qu9:DH Tryz.prog 125 qoy:=qad (d:=qef) (Fo:=qox) ([]:DT) [(4,{slots:=(.sl 1 (.sl 1 (.dd 10 (.int .i64 (.int .i64 (.dd 12 .nil))))))})] [] [] (trivial:DTok Tryz.prog []) (by kernel_rfl) ⟨fun o v=>by kernel_rfl⟩ Tryz.func125 Tryz.call125
def qky (o:DOps)(now:List SeenT)(now2:Int)(now3:Bool):Option (List UInt8) :=
 mks (now.length:Int) 1 <| rs (now.length:Int).toNat (List.replicate (now.length:Int).toNat (UInt8.ofNat 0)).length <| o.fix (((List.replicate (now.length:Int).toNat (UInt8.ofNat 0),()),(),now,(now.length:Int),(0:Int),())) fun r1 ((z2,_),_,z3,n4,n5,_)=>bif decide (n5<n4) then ix o z3 n5 (dflt 20) fun x6=>rb n5 z2.length <| req (decide (0+n5.toNat<z2.length)) <| o.letv (z2.set (0+n5.toNat) (UInt8.ofNat x6.aspectf.toNat)) fun z7=>inc o n5 fun n8=>rs z2.length z7.length <| r1 (((z7,()),(),z3,n4,n8,())) else rs z2.length z2.length <| some z2
def qga:DFn:={ro:=true,args:=(.agg (.sl 20 (.int .i64 (.bool .nil))) .nil),out:={slots:=(.dd 2 (.row 0 902 (.dd 22 .nil))),blks:=[(902,.row 0)],boxes:=[(2,902,0)]},T:=List (UInt8),to:=fun(v:(List (UInt8)×Unit)×(Unit)×(Unit))=>v.1.1,of:=fun x=>((x,()),(),())}
def qoz:=qky DOps.ev
def qrG (o:DOps):qga.In→Option qga.T:=fun v=>qky o v.2.2.1.1 v.2.2.1.2.1 v.2.2.1.2.2.1
def qrH:DSpec:=qaf qga Tryz.f156 (qrG DOps.ev)
theorem qwM:DH Tryz.prog 156 qrH:=qad (d:=qga) (Fo:=qrG) ([]:DT) [(3,{slots:=(.dd 3 (.row 0 2003 (.dd 7 (.sl 20 (.int .i64 (.int .i64 (.dd 11 .nil))))))),blks:=[(2003,.row 0)]})] [] [] (trivial:DTok Tryz.prog []) (by kernel_rfl) ⟨fun o v=>by kernel_rfl⟩ Tryz.func156 Tryz.call156
def quA (o:DOps)(a:Int):Option (Bool) :=
 some (a==1)
def qmL:DFn:={ro:=true,args:=(.int .u8 .nil),out:={slots:=(.dd 2 (.bool (.dd 2 .nil)))},T:=Bool,to:=fun(v:(Unit)×(Unit)×(Bool×Unit))=>v.2.2.1,of:=fun x=>((),(),(x,()))}
def qo0:=quA DOps.ev
def q21 (o:DOps):qmL.In→Option qmL.T:=fun v=>quA o v.2.2.1
def q22:DSpec:=qaf qmL Tryz.f161 (q21 DOps.ev)
theorem q4g:DH Tryz.prog 161 q22:=qad (d:=qmL) (Fo:=q21) ([]:DT) [] [] [] (trivial:DTok Tryz.prog []) (by kernel_rfl) ⟨fun o v=>by kernel_rfl⟩ Tryz.func161 Tryz.call161
def qeg (o:DOps)(s:List UInt8)(v0:Int):Option (Int) :=
 o.fix (((),(),s,v0,(s.length:Int),(0:Int),())) fun r1 (_,_,z2,n3,n4,n5,_)=>bif decide (n5<n4) then ix o z2 n5 (0:UInt8) fun x6=>bif n3==(↑x6.toNat:Int) then some n5 else inc o n5 fun n7=>r1 (((),(),z2,n3,n4,n7,())) else some ((-1:Int))
def qcn:DFn:={ro:=true,args:=(.sl 0 (.int .u8 .nil)),out:={slots:=(.dd 4 (.int .i64 (.dd 14 .nil)))},T:=Int,to:=fun(v:(Unit)×(Unit)×(Int×Unit))=>v.2.2.1,of:=fun x=>((),(),(x,()))}
def qfw:=qeg DOps.ev
def qiM (o:DOps):qcn.In→Option qcn.T:=fun v=>qeg o v.2.2.1 v.2.2.2.1
def qiN:DSpec:=qaf qcn Tryz.f200 (qiM DOps.ev)
theorem qo1:DH Tryz.prog 200 qiN:=qad (d:=qcn) (Fo:=qiM) ([]:DT) [(2,{slots:=(.sl 0 (.int .u8 (.dd 5 (.int .i64 (.int .i64 (.dd 10 .nil))))))})] [] [] (trivial:DTok Tryz.prog []) (by kernel_rfl) ⟨fun o v=>by kernel_rfl⟩ Tryz.func200 Tryz.call200
def qo2 (o:DOps)(n:Int):Option (Int) :=
 o.letv (max n (0:Int)) fun n1=>o.letv (min n1 (1048576:Int)) fun n2=>some n2
def qiO:DFn:={ro:=true,args:=(.int .i64 .nil),out:={slots:=(.dd 2 (.int .i64 (.dd 3 .nil)))},T:=Int,to:=fun(v:(Unit)×(Unit)×(Int×Unit))=>v.2.2.1,of:=fun x=>((),(),(x,()))}
def qgb:=qo2 DOps.ev
def qwN (o:DOps):qiO.In→Option qiO.T:=fun v=>qo2 o v.2.2.1
def qwO:DSpec:=qaf qiO Tryz.f197 (qwN DOps.ev)
theorem q0h:DH Tryz.prog 197 qwO:=qad (d:=qiO) (Fo:=qwN) ([]:DT) [] [] [] (trivial:DTok Tryz.prog []) (by kernel_rfl) ⟨fun o v=>by kernel_rfl⟩ Tryz.func197 Tryz.call197
def qo3 (o:DOps)(a:Int):Option (Bool) :=
 some (bif decide (a≥1) then decide (a≤3) else false)
def qiP:DFn:={ro:=true,args:=(.int .u8 .nil),out:={slots:=(.dd 2 (.bool (.dd 6 .nil)))},T:=Bool,to:=fun(v:(Unit)×(Unit)×(Bool×Unit))=>v.2.2.1,of:=fun x=>((),(),(x,()))}
def qmM:=qo3 DOps.ev
def qwP (o:DOps):qiP.In→Option qiP.T:=fun v=>qo3 o v.2.2.1
def qwQ:DSpec:=qaf qiP Tryz.f201 (qwP DOps.ev)
theorem q0i:DH Tryz.prog 201 qwQ:=qad (d:=qiP) (Fo:=qwP) ([]:DT) [] [] [] (trivial:DTok Tryz.prog []) (by kernel_rfl) ⟨fun o v=>by kernel_rfl⟩ Tryz.func201 Tryz.call201
def qfx (o:DOps)(a:Int)(b:Int):Option (Bool) :=
 some (bif bif a==1&&b==2 then true else a==2&&b==3 then true else a==3&&b==1)
def qcW:DFn:={ro:=true,args:=(.int .u8 (.int .u8 .nil)),out:={slots:=(.dd 4 (.bool (.dd 17 .nil)))},T:=Bool,to:=fun(v:(Unit)×(Unit)×(Bool×Unit))=>v.2.2.1,of:=fun x=>((),(),(x,()))}
def qhC:=qfx DOps.ev
def qlK (o:DOps):qcW.In→Option qcW.T:=fun v=>qfx o v.2.2.1 v.2.2.2.1
def qlL:DSpec:=qaf qcW Tryz.f202 (qlK DOps.ev)
theorem qqM:DH Tryz.prog 202 qlL:=holdsD0 (d:=qcW) (Fo:=qlK) ([]:DT) [] [] [] (trivial:DTok Tryz.prog []) (by kernel_rfl) ⟨fun o v=>by kernel_rfl⟩ Tryz.func202 Tryz.call202
def q0j (o:DOps)(p:Pls)(many:Int)(hold:Int):Option (Int) :=
 bif bif decide (p.sincef<0) then true else decide (p.sincef > 1048576) then some ((8:Int)) else bif decide (many > 4096) then some ((4:Int)) else bif bif decide (hold<1) then true else decide (hold > 1048576) then some ((2:Int)) else some ((0:Int))
def qeh:DFn:={ro:=true,args:=(.agg (.seg 21 .nil) (.int .i64 (.int .i64 .nil))),out:={slots:=(.dd 6 (.int .i64 (.dd 19 .nil)))},T:=Int,to:=fun(v:(Unit)×(Unit)×(Int×Unit))=>v.2.2.1,of:=fun x=>((),(),(x,()))}
def qo4 (o:DOps):qeh.In→Option qeh.T:=fun v=>q0j o v.2.2.1.1 v.2.2.2.1 v.2.2.2.2.1
def qo5:DSpec:=qaf qeh Tryz.f184 (qo4 DOps.ev)
theorem quB:DH Tryz.prog 184 qo5:=qad (d:=qeh) (Fo:=qo4) ([]:DT) [] [] [] (trivial:DTok Tryz.prog []) (by kernel_rfl) ⟨fun o v=>by kernel_rfl⟩ Tryz.func184 Tryz.call184
def qhD (o:DOps)(s:SiteT):Option (Int×SiteT) :=
 some (((s.phases.length:Int),s))
def qei:DFn:={ro:=false,own:=[false],args:=(.ptr 0 0 .nil),B:=[.cells (.seg 25 .nil)],out:={slots:=(.dead (.int .i64 (.dd 3 .nil))),blks:=[(0,.cells (.seg 25 .nil))],fz:=true},T:=Int×SiteT,to:=fun(v:(Unit)×((SiteT×Unit)×Unit)×(Int×Unit))=>(v.2.2.1,v.2.1.1.1),of:=fun x=>((),((x.2,()),()),(x.1,()))}
def qkz:=qhD DOps.ev
def qo6 (o:DOps):qei.In→Option qei.T:=fun v=>qhD o v.2.1.1.1
def qo7:DSpec:=qaf qei Tryz.f209 (qo6 DOps.ev)
theorem quC:DH Tryz.prog 209 qo7:=qad (d:=qei) (Fo:=qo6) ([]:DT) [] [] [] (trivial:DTok Tryz.prog []) (by kernel_rfl) ⟨fun o v=>by kernel_rfl⟩ Tryz.func209 Tryz.call209
def qwR:DSpec:=inlS (mkDC Tryz.prog tyC ([]:DT) [] [] [] []) true [false] (fun _=>true) Tryz.f74
theorem q0k:DH Tryz.prog 74 qwR:=q5p (enV:=mkDC Tryz.prog tyC ([]:DT) [] [] [] []) rfl (qfO (trivial:DTok Tryz.prog [])) Tryz.func74 Tryz.call74
def qo8 (o:DOps)(g:Gpd):Option (Int) :=
 o.letv (min (min g.heldf g.openf) g.camef) fun n1=>o.letv (max g.heldf g.openf) fun n2=>bif bif bif decide (n1<0) then true else decide (n2 > 1048576) then true else decide (g.camef > 1073741824) then some ((8:Int)) else bif bif g.upf then g.openf != 0 else false then bif bif g.upf then g.openf != 0 else false then some ((8:Int)) else some ((0:Int)) else bif bif !g.upf then g.heldf != 0 else false then bif bif !g.upf then g.heldf != 0 else false then some ((8:Int)) else some ((0:Int)) else o.letv (bits BinOp.and IntKind.u64 g.lastf (1:Int)) fun n3=>bif !g.upf==(n3==1) then some ((8:Int)) else some ((0:Int))
def qiQ:DFn:={ro:=true,args:=(.agg (.seg 22 .nil) .nil),out:={slots:=(.dd 2 (.int .i64 (.dd 45 .nil)))},T:=Int,to:=fun(v:(Unit)×(Unit)×(Int×Unit))=>v.2.2.1,of:=fun x=>((),(),(x,()))}
def qmN:=qo8 DOps.ev
def qwS (o:DOps):qiQ.In→Option qiQ.T:=fun v=>qo8 o v.2.2.1.1
def qwT:DSpec:=qaf qiQ Tryz.f130 (qwS DOps.ev)
theorem q0l:DH Tryz.prog 130 qwT:=qad (d:=qiQ) (Fo:=qwS) ([]:DT) [] [] [] (trivial:DTok Tryz.prog []) (by kernel_rfl) ⟨fun o v=>by kernel_rfl⟩ Tryz.func130 Tryz.call130
def q0m (o:DOps)(x:Lkd):Option (Bool) :=
 o.letv (min x.samef x.wellf) fun n1=>o.letv (max x.samef x.wellf) fun n2=>some (bif bif decide (n1≥0) then decide (n2≤1048576) else false then bif x.badf then true else x.wellf==0 else false)
def quD:DFn:={ro:=true,args:=(.agg (.seg 23 .nil) .nil),out:={slots:=(.dd 2 (.bool (.dd 23 .nil)))},T:=Bool,to:=fun(v:(Unit)×(Unit)×(Bool×Unit))=>v.2.2.1,of:=fun x=>((),(),(x,()))}
def q65:=q0m DOps.ev
def q66 (o:DOps):quD.In→Option quD.T:=fun v=>q0m o v.2.2.1.1
def q67:DSpec:=qaf quD Tryz.f186 (q66 DOps.ev)
theorem q68:DH Tryz.prog 186 q67:=qad (d:=quD) (Fo:=q66) ([]:DT) [] [] [] (trivial:DTok Tryz.prog []) (by kernel_rfl) ⟨fun o v=>by kernel_rfl⟩ Tryz.func186 Tryz.call186
def qcf (o:DOps)(x:Int):Option (Int) :=
 o.letv (x.fdiv ((2:Int) ^ min (Int.toNat (1:Int)) IntKind.u64.bits)) fun n1=>o.letv (bits BinOp.and IntKind.u64 n1 (6148914691236517205:Int)) fun n2=>o.letv (bits BinOp.and IntKind.u64 x (6148914691236517205:Int)) fun n3=>o.letv (wu (n2+n3)) fun n4=>o.letv (n4.fdiv ((2:Int) ^ min (Int.toNat (2:Int)) IntKind.u64.bits)) fun n5=>o.letv (bits BinOp.and IntKind.u64 n5 (3689348814741910323:Int)) fun n6=>o.letv (bits BinOp.and IntKind.u64 n4 (3689348814741910323:Int)) fun n7=>o.letv (wu (n6+n7)) fun n8=>o.letv (n8.fdiv ((2:Int) ^ min (Int.toNat (4:Int)) IntKind.u64.bits)) fun n9=>o.letv (wu (n9+n8)) fun n10=>o.letv (bits BinOp.and IntKind.u64 n10 (1085102592571150095:Int)) fun n11=>o.letv (n11.fdiv ((2:Int) ^ min (Int.toNat (8:Int)) IntKind.u64.bits)) fun n12=>o.letv (wu (n11+n12)) fun n13=>o.letv (n13.fdiv ((2:Int) ^ min (Int.toNat (16:Int)) IntKind.u64.bits)) fun n14=>o.letv (wu (n13+n14)) fun n15=>o.letv (n15.fdiv ((2:Int) ^ min (Int.toNat (32:Int)) IntKind.u64.bits)) fun n16=>o.letv (wu (n15+n16)) fun n17=>o.letv (wi n17) fun n18=>o.letv (bits BinOp.and IntKind.i64 n18 (127:Int)) fun n19=>some n19
def qbh:DFn:={ro:=true,args:=(.int .u64 .nil),out:={slots:=(.dd 2 (.int .i64 (.dd 32 .nil)))},T:=Int,to:=fun(v:(Unit)×(Unit)×(Int×Unit))=>v.2.2.1,of:=fun x=>((),(),(x,()))}
def qb4:=qcf DOps.ev
def qeQ (o:DOps):qbh.In→Option qbh.T:=fun v=>qcf o v.2.2.1
def qeR:DSpec:=qaf qbh Tryz.f187 (qeQ DOps.ev)
theorem qiR:DH Tryz.prog 187 qeR:=qad (d:=qbh) (Fo:=qeQ) ([]:DT) [] [] [] (trivial:DTok Tryz.prog []) (by kernel_rfl) ⟨fun o v=>by kernel_rfl⟩ Tryz.func187 Tryz.call187
def qk0 (o:DOps)(s:SiteT)(phase:Int)(group:Int):Option (Bool) :=
 ix o s.phases phase (dflt 18) fun x1=>req (decide (0≤group)) <| o.letv (x1.groupsf.fdiv ((2:Int) ^ min group.toNat IntKind.u32.bits)) fun n2=>o.letv (bits BinOp.and IntKind.u32 n2 (1:Int)) fun n3=>some (n3==1)
def qgc:DFn:={ro:=true,args:=(.agg (.seg 25 .nil) (.int .i64 (.int .i64 .nil))),out:={slots:=(.dd 6 (.bool (.dd 10 .nil)))},T:=Bool,to:=fun(v:(Unit)×(Unit)×(Bool×Unit))=>v.2.2.1,of:=fun x=>((),(),(x,()))}
def qiS:=qk0 DOps.ev
def qrI (o:DOps):qgc.In→Option qgc.T:=fun v=>qk0 o v.2.2.1.1 v.2.2.2.1 v.2.2.2.2.1
def qrJ:DSpec:=qaf qgc Tryz.f188 (qrI DOps.ev)
theorem qwU:DH Tryz.prog 188 qrJ:=qad (d:=qgc) (Fo:=qrI) ([]:DT) [] [] [] (trivial:DTok Tryz.prog []) (by kernel_rfl) ⟨fun o v=>by kernel_rfl⟩ Tryz.func188 Tryz.call188
def qfy (o:DOps)(x:Lkd):Option (Bool) :=
 some (!x.badf)
def qcX:DFn:={ro:=true,args:=(.agg (.seg 23 .nil) .nil),out:={slots:=(.dd 2 (.bool (.dd 3 .nil)))},T:=Bool,to:=fun(v:(Unit)×(Unit)×(Bool×Unit))=>v.2.2.1,of:=fun x=>((),(),(x,()))}
def qhE:=qfy DOps.ev
def qlM (o:DOps):qcX.In→Option qcX.T:=fun v=>qfy o v.2.2.1.1
def qlN:DSpec:=qaf qcX Tryz.f141 (qlM DOps.ev)
theorem qqN:DH Tryz.prog 141 qlN:=qad (d:=qcX) (Fo:=qlM) ([]:DT) [] [] [] (trivial:DTok Tryz.prog []) (by kernel_rfl) ⟨fun o v=>by kernel_rfl⟩ Tryz.func141 Tryz.call141
def qo9 (o:DOps)(x:Lkd):Option (Bool) :=
 some (bif x.upf then true else x.badf)
def qiT:DFn:={ro:=true,args:=(.agg (.seg 23 .nil) .nil),out:={slots:=(.dd 2 (.bool (.dd 6 .nil)))},T:=Bool,to:=fun(v:(Unit)×(Unit)×(Bool×Unit))=>v.2.2.1,of:=fun x=>((),(),(x,()))}
def quE:=qo9 DOps.ev
def qwV (o:DOps):qiT.In→Option qiT.T:=fun v=>qo9 o v.2.2.1.1
def qwW:DSpec:=qaf qiT Tryz.f189 (qwV DOps.ev)
theorem q0n:DH Tryz.prog 189 qwW:=qad (d:=qiT) (Fo:=qwV) ([]:DT) [] [] [] (trivial:DTok Tryz.prog []) (by kernel_rfl) ⟨fun o v=>by kernel_rfl⟩ Tryz.func189 Tryz.call189
def qk1 (o:DOps)(s:SiteT)(c:Int)(phase:Int):Option (Int) :=
 o.letv (c.fdiv ((2:Int) ^ min (s.phases.length:Int).toNat IntKind.u32.bits)) fun n1=>bif n1 != 0 then some ((8:Int)) else bif bif decide (phase<(-1:Int)) then true else decide (phase≥s.phases.length) then some ((2:Int)) else some ((0:Int))
def qgd:DFn:={ro:=true,args:=(.agg (.seg 25 .nil) (.int .u32 (.int .i64 .nil))),out:={slots:=(.dd 6 (.int .i64 (.dd 17 .nil)))},T:=Int,to:=fun(v:(Unit)×(Unit)×(Int×Unit))=>v.2.2.1,of:=fun x=>((),(),(x,()))}
def qoA:=qk1 DOps.ev
def qrK (o:DOps):qgd.In→Option qgd.T:=fun v=>qk1 o v.2.2.1.1 v.2.2.2.1 v.2.2.2.2.1
def qrL:DSpec:=qaf qgd Tryz.f137 (qrK DOps.ev)
theorem qwX:DH Tryz.prog 137 qrL:=qad (d:=qgd) (Fo:=qrK) ([]:DT) [] [] [] (trivial:DTok Tryz.prog []) (by kernel_rfl) ⟨fun o v=>by kernel_rfl⟩ Tryz.func137 Tryz.call137
def qhF (o:DOps)(s:SiteT)(l:List UInt8):Option (Int) :=
 bif (l.length:Int) != (s.groups.length:Int) then some ((4:Int)) else o.fix (((),(),l,(l.length:Int),(0:Int),())) fun r1 (_,_,z2,n3,n4,_)=>bif decide (n4<n3) then ix o z2 n4 (0:UInt8) fun x5=>bif decide ((↑x5.toNat:Int) > 4) then some ((2:Int)) else inc o n4 fun n6=>r1 (((),(),z2,n3,n6,())) else some ((0:Int))
def qej:DFn:={ro:=true,args:=(.agg (.seg 25 .nil) (.sl 0 .nil)),out:={slots:=(.dd 4 (.int .i64 (.dd 17 .nil)))},T:=Int,to:=fun(v:(Unit)×(Unit)×(Int×Unit))=>v.2.2.1,of:=fun x=>((),(),(x,()))}
def qk2:=qhF DOps.ev
def qoB (o:DOps):qej.In→Option qej.T:=fun v=>qhF o v.2.2.1.1 v.2.2.2.1
def qoC:DSpec:=qaf qej Tryz.f190 (qoB DOps.ev)
theorem quF:DH Tryz.prog 190 qoC:=qad (d:=qej) (Fo:=qoB) ([]:DT) [(4,{slots:=(.dd 13 (.sl 0 (.int .i64 (.int .i64 (.dd 6 .nil)))))})] [] [] (trivial:DTok Tryz.prog []) (by kernel_rfl) ⟨fun o v=>by kernel_rfl⟩ Tryz.func190 Tryz.call190
def qk3 (o:DOps)(p:Plan):Option (Bool) :=
 some (bif bif p.cycle==0 then p.offset==0 else false then (p.splits.length:Int)==0 else false)
def qge:DFn:={ro:=true,args:=(.agg (.seg 10 .nil) .nil),out:={slots:=(.dd 2 (.bool (.dd 14 .nil)))},T:=Bool,to:=fun(v:(Unit)×(Unit)×(Bool×Unit))=>v.2.2.1,of:=fun x=>((),(),(x,()))}
def qd8:=qk3 DOps.ev
def qrM (o:DOps):qge.In→Option qge.T:=fun v=>qk3 o v.2.2.1.1
def qrN:DSpec:=qaf qge Tryz.f85 (qrM DOps.ev)
theorem qwY:DH Tryz.prog 85 qrN:=qad (d:=qge) (Fo:=qrM) ([]:DT) [] [] [] (trivial:DTok Tryz.prog []) (by kernel_rfl) ⟨fun o v=>by kernel_rfl⟩ Tryz.func85 Tryz.call85
def qk4 (o:DOps)(r:Int)(r2:Int)(r3:Bool)(f:Bool)(f2:Bool)(f3:Bool)(f4:Bool):Option (Int) :=
 bif bif r3 then true else !f4 then some ((0:Int)) else bif bif bif f then f2 else false then f3 else false then some ((3:Int)) else bif f2 then some ((2:Int)) else some ((1:Int))
def qgf:DFn:={ro:=true,args:=(.agg (.int .u8 (.int .i64 (.bool .nil))) (.agg (.bool (.bool (.bool (.bool .nil)))) .nil)),out:={slots:=(.dd 4 (.int .u8 (.dd 22 .nil)))},T:=Int,to:=fun(v:(Unit)×(Unit)×(Int×Unit))=>v.2.2.1,of:=fun x=>((),(),(x,()))}
def qoD:=qk4 DOps.ev
def qrO (o:DOps):qgf.In→Option qgf.T:=fun v=>qk4 o v.2.2.1.1 v.2.2.1.2.1 v.2.2.1.2.2.1 v.2.2.2.1.1 v.2.2.2.1.2.1 v.2.2.2.1.2.2.1 v.2.2.2.1.2.2.2.1
def qrP:DSpec:=qaf qgf Tryz.f142 (qrO DOps.ev)
theorem qwZ:DH Tryz.prog 142 qrP:=qad (d:=qgf) (Fo:=qrO) ([]:DT) [] [] [] (trivial:DTok Tryz.prog []) (by kernel_rfl) ⟨fun o v=>by kernel_rfl⟩ Tryz.func142 Tryz.call142
def qk5 (o:DOps)(s:SiteT)(calls:Int):Option (Int) :=
 o.fix (((),(),calls,(0:Int),s.phases,(s.phases.length:Int),(0:Int),())) fun r1 (_,_,n2,n3,z4,n5,n6,_)=>bif decide (n6<n5) then ix o z4 n6 (dflt 18) fun x7=>req (!!x7.alwaysf||decide (0≤n6)) <| o.letv (n2.fdiv ((2:Int) ^ min n6.toNat IntKind.u32.bits)) fun n8=>o.letv (bits BinOp.and IntKind.u32 n8 (1:Int)) fun n9=>bif bif x7.alwaysf then true else n9==1 then req (decide (0≤n6)) <| o.letv (wq ((1:Int)*2 ^ min n6.toNat IntKind.u32.bits)) fun n11=>o.letv (bits BinOp.or IntKind.u32 n3 n11) fun n12=>inc o n6 fun n13=>r1 (((),(),n2,n12,z4,n5,n13,())) else inc o n6 fun n10=>r1 (((),(),n2,n3,z4,n5,n10,())) else some n3
def qgg:DFn:={ro:=true,args:=(.agg (.seg 25 .nil) (.int .u32 .nil)),out:={slots:=(.dd 4 (.int .u32 (.dd 26 .nil)))},T:=Int,to:=fun(v:(Unit)×(Unit)×(Int×Unit))=>v.2.2.1,of:=fun x=>((),(),(x,()))}
def qd9:=qk5 DOps.ev
def qrQ (o:DOps):qgg.In→Option qgg.T:=fun v=>qk5 o v.2.2.1.1 v.2.2.2.1
def qrR:DSpec:=qaf qgg Tryz.f143 (qrQ DOps.ev)
theorem qxa:DH Tryz.prog 143 qrR:=qad (d:=qgg) (Fo:=qrQ) ([]:DT) [(3,{slots:=(.dead (.int .u32 (.dd 3 (.int .u32 (.dd 3 (.sl 18 (.int .i64 (.int .i64 (.dd 19 .nil)))))))))})] [] [] (trivial:DTok Tryz.prog []) (by kernel_rfl) ⟨fun o v=>by kernel_rfl⟩ Tryz.func143 Tryz.call143
def quG (o:DOps)(n:Int)(a:Int):Option (List UInt8) :=
 req (decide (0≤n∧n≤n∧n*(↑1:Int)≤140737488355328)) <| rs n.toNat (List.replicate n.toNat (UInt8.ofNat 0)).length <| o.fix (((List.replicate n.toNat (UInt8.ofNat 0),()),(),a,(↑n.toNat:Int),(0:Int),())) fun r1 ((z2,_),_,n3,n4,n5,_)=>bif decide (n5<n4) then rb n5 z2.length <| req (decide (0+n5.toNat<z2.length)) <| o.letv (z2.set (0+n5.toNat) (UInt8.ofNat n3.toNat)) fun z6=>inc o n5 fun n7=>rs z2.length z6.length <| r1 (((z6,()),(),n3,n4,n7,())) else rs z2.length z2.length <| some z2
def qmO:DFn:={ro:=true,args:=(.int .i64 (.int .u8 .nil)),out:={slots:=(.dd 4 (.row 0 904 (.dd 15 .nil))),blks:=[(904,.row 0)],boxes:=[(4,904,0)]},T:=List (UInt8),to:=fun(v:(List (UInt8)×Unit)×(Unit)×(Unit))=>v.1.1,of:=fun x=>((x,()),(),())}
def qk6:=quG DOps.ev
def q23 (o:DOps):qmO.In→Option qmO.T:=fun v=>quG o v.2.2.1 v.2.2.2.1
def q24:DSpec:=qaf qmO Tryz.f153 (q23 DOps.ev)
theorem q4h:DH Tryz.prog 153 q24:=qad (d:=qmO) (Fo:=q23) ([]:DT) [(3,{slots:=(.dead (.int .u8 (.dd 3 (.row 0 2001 (.dd 4 (.int .i64 (.int .i64 (.dd 8 .nil)))))))),blks:=[(2001,.row 0)]})] [] [] (trivial:DTok Tryz.prog []) (by kernel_rfl) ⟨fun o v=>by kernel_rfl⟩ Tryz.func153 Tryz.call153
def q69 (o:DOps)(n:Int):Option (Int) :=
 o.letv (max n (-1073741824:Int)) fun n1=>o.letv (min n1 (1073741824:Int)) fun n2=>o.letv (wi (n2*65536)) fun n3=>some n3
def q25:DFn:={ro:=true,args:=(.int .i64 .nil),out:={slots:=(.dd 2 (.int .i64 (.dd 4 .nil)))},T:=Int,to:=fun(v:(Unit)×(Unit)×(Int×Unit))=>v.2.2.1,of:=fun x=>((),(),(x,()))}
def fixOf:=q69 DOps.ev
def fixOfV (o:DOps):q25.In→Option q25.T:=fun v=>q69 o v.2.2.1
def fixOfS:DSpec:=qaf q25 Tryz.f101 (fixOfV DOps.ev)
theorem fixOf_ok:DH Tryz.prog 101 fixOfS:=qad (d:=q25) (Fo:=fixOfV) ([]:DT) [] [] [] (trivial:DTok Tryz.prog []) (by kernel_rfl) ⟨fun o v=>by kernel_rfl⟩ Tryz.func101 Tryz.call101
def quH (o:DOps)(x:Int):Option (Int) :=
 o.letv (max x (-70368744177664:Int)) fun n1=>o.letv (min n1 (70368744177664:Int)) fun n2=>some n2
def qmP:DFn:={ro:=true,args:=(.int .i64 .nil),out:={slots:=(.dd 2 (.int .i64 (.dd 3 .nil)))},T:=Int,to:=fun(v:(Unit)×(Unit)×(Int×Unit))=>v.2.2.1,of:=fun x=>((),(),(x,()))}
def qk7:=quH DOps.ev
def q26 (o:DOps):qmP.In→Option qmP.T:=fun v=>quH o v.2.2.1
def q27:DSpec:=qaf qmP Tryz.f166 (q26 DOps.ev)
theorem q4i:DH Tryz.prog 166 q27:=qad (d:=qmP) (Fo:=q26) ([]:DT) [] [] [] (trivial:DTok Tryz.prog []) (by kernel_rfl) ⟨fun o v=>by kernel_rfl⟩ Tryz.func166 Tryz.call166
def qk8 (o:DOps)(s:Int)(s2:Int)(s3:List Plan)(s4:List (List UInt8))(s5:Bool)(q:Int)(q2:Int)(q3:List Plan)(q4:List (List UInt8))(q5:Bool):Option (Bool×Int×Int×List Plan×List (List UInt8)×Bool×Int×Int×List Plan×List (List UInt8)×Bool) :=
 some ((bif s5 then !bif q5 then decide (q > s) else false else false,s,s2,s3,s4,s5,q,q2,q3,q4,q5))
def qgh:DFn:={ro:=false,own:=[false,false],args:=(.ptr 0 0 (.ptr 1 0 .nil)),B:=[.cells (.int .i64 (.int .u8 (.sl 10 (.sl 6 (.bool .nil))))),.cells (.int .i64 (.int .u8 (.sl 10 (.sl 6 (.bool .nil)))))],out:={slots:=(.dd 4 (.bool (.dd 24 .nil))),blks:=[(0,.cells (.int .i64 (.int .u8 (.sl 10 (.sl 6 (.bool .nil)))))),(1,.cells (.int .i64 (.int .u8 (.sl 10 (.sl 6 (.bool .nil))))))],fz:=true},T:=Bool×Int×Int×List Plan×List (List UInt8)×Bool×Int×Int×List Plan×List (List UInt8)×Bool,to:=fun(v:(Unit)×((Int×Int×List Plan×List (List UInt8)×Bool×Unit)×(Int×Int×List Plan×List (List UInt8)×Bool×Unit)×Unit)×(Bool×Unit))=>(v.2.2.1,v.2.1.1.1,v.2.1.1.2.1,v.2.1.1.2.2.1,v.2.1.1.2.2.2.1,v.2.1.1.2.2.2.2.1,v.2.1.2.1.1,v.2.1.2.1.2.1,v.2.1.2.1.2.2.1,v.2.1.2.1.2.2.2.1,v.2.1.2.1.2.2.2.2.1),of:=fun x=>((),((x.2.1,(x.2.2.1,(x.2.2.2.1,(x.2.2.2.2.1,(x.2.2.2.2.2.1,()))))),((x.2.2.2.2.2.2.1,(x.2.2.2.2.2.2.2.1,(x.2.2.2.2.2.2.2.2.1,(x.2.2.2.2.2.2.2.2.2.1,(x.2.2.2.2.2.2.2.2.2.2,()))))),())),(x.1,()))}
def qiU:=qk8 DOps.ev
def qrS (o:DOps):qgh.In→Option qgh.T:=fun v=>qk8 o v.2.1.1.1 v.2.1.1.2.1 v.2.1.1.2.2.1 v.2.1.1.2.2.2.1 v.2.1.1.2.2.2.2.1 v.2.1.2.1.1 v.2.1.2.1.2.1 v.2.1.2.1.2.2.1 v.2.1.2.1.2.2.2.1 v.2.1.2.1.2.2.2.2.1
def qrT:DSpec:=qaf qgh Tryz.f177 (qrS DOps.ev)
theorem qxb:DH Tryz.prog 177 qrT:=qad (d:=qgh) (Fo:=qrS) ([]:DT) [] [] [] (trivial:DTok Tryz.prog []) (by kernel_rfl) ⟨fun o v=>by kernel_rfl⟩ Tryz.func177 Tryz.call177
def qbr (o:DOps)(s:List UInt8):Option (List UInt8) :=
 bif s.isEmpty then sm o [some qal,req (decide ((0+s.length)*1≤140737488355328)) <| o.letv ([]++s) fun z2=>rs (0+s.length) z2.length <| some z2] (.n (.l 0) (.l 1)) else req (decide ((0+s.length)*1≤140737488355328)) <| o.letv ([]++s) fun z1=>rs (0+s.length) z1.length <| some z1
def qcY:DFn:={ro:=true,args:=(.sl 0 .nil),out:={slots:=(.dd 2 (.row 0 902 (.dd 5 .nil))),blks:=[(902,.row 0)],boxes:=[(2,902,0)]},T:=List (UInt8),to:=fun(v:(List (UInt8)×Unit)×(Unit)×(Unit))=>v.1.1,of:=fun x=>((x,()),(),())}
def qbH:=qbr DOps.ev
def qlO (o:DOps):qcY.In→Option qcY.T:=fun v=>qbr o v.2.2.1
def qlP:DSpec:=qaf qcY Tryz.f62 (qlO DOps.ev)
theorem qqO (s:List UInt8):qbr DOps.std s=qbr DOps.ev s:=by cases s with|nil=>(unfold qbr;simp only[List.isEmpty_nil,cond_true,sm_l,sm_n,qdt,qdu];exact qaw (by kernel_rfl))|cons x l=>kernel_rfl
theorem qqP:DH Tryz.prog 62 qlP:=qad (d:=qcY) (Fo:=qlO) ([]:DT) [] [] [] (trivial:DTok Tryz.prog []) (funext fun v=>qqO _) ⟨fun o v=>by kernel_rfl⟩ Tryz.func62 Tryz.call62
def qaY (o:DOps)(s:List Pls):Option (List Pls) :=
 bif s.isEmpty then sm o [some nilL21,req (decide ((0+s.length)*16≤140737488355328)) <| o.letv ([]++s) fun z2=>rs (0+s.length) z2.length <| some z2] (.n (.l 0) (.l 1)) else req (decide ((0+s.length)*16≤140737488355328)) <| o.letv ([]++s) fun z1=>rs (0+s.length) z1.length <| some z1
def qco:DFn:={ro:=true,args:=(.sl 21 .nil),out:={slots:=(.dd 2 (.row 21 902 (.dd 5 .nil))),blks:=[(902,.row 21)],boxes:=[(2,902,21)]},T:=List (Pls),to:=fun(v:(List (Pls)×Unit)×(Unit)×(Unit))=>v.1.1,of:=fun x=>((x,()),(),())}
def qcZ:=qaY DOps.ev
def qiV (o:DOps):qco.In→Option qco.T:=fun v=>qaY o v.2.2.1
def qiW:DSpec:=qaf qco Tryz.f75 (qiV DOps.ev)
theorem qoE (s:List Pls):qaY DOps.std s=qaY DOps.ev s:=by cases s with|nil=>(unfold qaY;simp only[List.isEmpty_nil,cond_true,sm_l,sm_n,qdt,qdu];exact qaw (by kernel_rfl))|cons x l=>kernel_rfl
theorem qoF:DH Tryz.prog 75 qiW:=qad (d:=qco) (Fo:=qiV) ([]:DT) [] [] [] (trivial:DTok Tryz.prog []) (funext fun v=>qoE _) ⟨fun o v=>by kernel_rfl⟩ Tryz.func75 Tryz.call75
def qaJ (o:DOps)(s:List Gpd):Option (List Gpd) :=
 bif s.isEmpty then sm o [some nilL22,req (decide ((0+s.length)*40≤140737488355328)) <| o.letv ([]++s) fun z2=>rs (0+s.length) z2.length <| some z2] (.n (.l 0) (.l 1)) else req (decide ((0+s.length)*40≤140737488355328)) <| o.letv ([]++s) fun z1=>rs (0+s.length) z1.length <| some z1
def qbM:DFn:={ro:=true,args:=(.sl 22 .nil),out:={slots:=(.dd 2 (.row 22 902 (.dd 5 .nil))),blks:=[(902,.row 22)],boxes:=[(2,902,22)]},T:=List (Gpd),to:=fun(v:(List (Gpd)×Unit)×(Unit)×(Unit))=>v.1.1,of:=fun x=>((x,()),(),())}
def qek:=qaJ DOps.ev
def qhl (o:DOps):qbM.In→Option qbM.T:=fun v=>qaJ o v.2.2.1
def qhm:DSpec:=qaf qbM Tryz.f76 (qhl DOps.ev)
theorem qm2 (s:List Gpd):qaJ DOps.std s=qaJ DOps.ev s:=by cases s with|nil=>(unfold qaJ;simp only[List.isEmpty_nil,cond_true,sm_l,sm_n,qdt,qdu];exact qaw (by kernel_rfl))|cons x l=>kernel_rfl
theorem qm3:DH Tryz.prog 76 qhm:=qad (d:=qbM) (Fo:=qhl) ([]:DT) [] [] [] (trivial:DTok Tryz.prog []) (funext fun v=>qm2 _) ⟨fun o v=>by kernel_rfl⟩ Tryz.func76 Tryz.call76
def qbs (o:DOps)(s:List SeenT):Option (List SeenT) :=
 bif s.isEmpty then sm o [some qfa,req (decide ((0+s.length)*24≤140737488355328)) <| o.letv ([]++s) fun z2=>rs (0+s.length) z2.length <| some z2] (.n (.l 0) (.l 1)) else req (decide ((0+s.length)*24≤140737488355328)) <| o.letv ([]++s) fun z1=>rs (0+s.length) z1.length <| some z1
def qda:DFn:={ro:=true,args:=(.sl 20 .nil),out:={slots:=(.dd 2 (.row 20 902 (.dd 5 .nil))),blks:=[(902,.row 20)],boxes:=[(2,902,20)]},T:=List (SeenT),to:=fun(v:(List (SeenT)×Unit)×(Unit)×(Unit))=>v.1.1,of:=fun x=>((x,()),(),())}
def qcF:=qbs DOps.ev
def qlQ (o:DOps):qda.In→Option qda.T:=fun v=>qbs o v.2.2.1
def qlR:DSpec:=qaf qda Tryz.f96 (qlQ DOps.ev)
theorem qqQ (s:List SeenT):qbs DOps.std s=qbs DOps.ev s:=by cases s with|nil=>(unfold qbs;simp only[List.isEmpty_nil,cond_true,sm_l,sm_n,qdt,qdu];exact qaw (by kernel_rfl))|cons x l=>kernel_rfl
theorem qqR:DH Tryz.prog 96 qlR:=qad (d:=qda) (Fo:=qlQ) ([]:DT) [] [] [] (trivial:DTok Tryz.prog []) (funext fun v=>qqQ _) ⟨fun o v=>by kernel_rfl⟩ Tryz.func96 Tryz.call96
def qbI (o:DOps)(s:List Int):Option (List Int) :=
 bif s.isEmpty then sm o [some qeY,req (decide ((0+s.length)*8≤140737488355328)) <| o.letv ([]++s) fun z2=>rs (0+s.length) z2.length <| some z2] (.n (.l 0) (.l 1)) else req (decide ((0+s.length)*8≤140737488355328)) <| o.letv ([]++s) fun z1=>rs (0+s.length) z1.length <| some z1
def qel:DFn:={ro:=true,args:=(.sl 1 .nil),out:={slots:=(.dd 2 (.row 1 902 (.dd 5 .nil))),blks:=[(902,.row 1)],boxes:=[(2,902,1)]},T:=List (Int),to:=fun(v:(List (Int)×Unit)×(Unit)×(Unit))=>v.1.1,of:=fun x=>((x,()),(),())}
def qdA:=qbI DOps.ev
def qoG (o:DOps):qel.In→Option qel.T:=fun v=>qbI o v.2.2.1
def qoH:DSpec:=qaf qel Tryz.f98 (qoG DOps.ev)
theorem quI (s:List Int):qbI DOps.std s=qbI DOps.ev s:=by cases s with|nil=>(unfold qbI;simp only[List.isEmpty_nil,cond_true,sm_l,sm_n,qdt,qdu];exact qaw (by kernel_rfl))|cons x l=>kernel_rfl
theorem quJ:DH Tryz.prog 98 qoH:=qad (d:=qel) (Fo:=qoG) ([]:DT) [] [] [] (trivial:DTok Tryz.prog []) (funext fun v=>quI _) ⟨fun o v=>by kernel_rfl⟩ Tryz.func98 Tryz.call98
def q0o (o:DOps)(s:List UInt8)(n:Int):Option (List UInt8) :=
 bif decide (n<0) then none else none
def qem:DFn:={ro:=false,args:=(.sl 0 (.int .i64 .nil)),out:={slots:=(.dd 4 (.sl 0 (.dd 22 .nil))),fz:=true},T:=List UInt8,to:=fun(v:(Unit)×(Unit)×(List UInt8×Unit))=>v.2.2.1,of:=fun x=>((),(),(x,()))}
def qoI (o:DOps):qem.In→Option qem.T:=fun v=>q0o o v.2.2.1 v.2.2.2.1
def qoJ:DSpec:=qaf qem Tryz.f119 (qoI DOps.ev)
theorem quK:DH Tryz.prog 119 qoJ:=qad (d:=qem) (Fo:=qoI) ([]:DT) [] [] [] (trivial:DTok Tryz.prog []) (by kernel_rfl) ⟨fun o v=>by kernel_rfl⟩ Tryz.func119 Tryz.call119
def q6A (o:DOps)(n:Int):Option (Nat×List UInt8) :=
 bif decide (n<0) then none else o.letv (wi ((0:Int)-0)) fun n1=>o.letv (wi (n-n1)) fun n2=>bif decide (n2 > 0) then req (decide (0≤n2)) <| req (decide (n2.toNat*1≤140737488355328)) <| o.letv (List.replicate n2.toNat (UInt8.ofNat 0)) fun z3=>some ((Int.toNat (0:Int),z3)) else some ((0,qal))
def q28:DFn:={ro:=true,args:=(.nilsl (.int .i64 .nil)),out:={slots:=(.dd 4 (.rown 0 904 (.dd 22 .nil))),blks:=[(904,.row 0)],boxes:=[(4,904,0)]},T:=Nat×List (UInt8),to:=fun(v:(List (UInt8)×Unit)×(Unit)×(Nat×Unit))=>(v.2.2.1,v.1.1),of:=fun x=>((x.2,()),(),(x.1,()))}
def growN:=q6A DOps.ev
def growNV (o:DOps):q28.In→Option q28.T:=fun v=>q6A o v.2.2.1
def growNS:DSpec:=qaf q28 Tryz.f119 (growNV DOps.ev)
theorem growN_ok:DH Tryz.prog 119 growNS:=qad (d:=q28) (Fo:=growNV) ([]:DT) [] [] [] (trivial:DTok Tryz.prog []) (by kernel_rfl) ⟨fun o v=>by kernel_rfl⟩ Tryz.func119 Tryz.call119
def q4j (o:DOps)(x:Int)(y:Int):Option (Int×Int) :=
 o.letv (wu x) fun n1=>o.letv (wu y) fun n2=>o.letv (wu (n1*n2)) fun n3=>o.letv (n3.fdiv ((2:Int) ^ min (Int.toNat (32:Int)) IntKind.u64.bits)) fun n4=>o.letv (wq n4) fun n5=>o.letv (wq n3) fun n6=>some ((n5,n6))
def qgi:DFn:={ro:=true,args:=(.int .u32 (.int .u32 .nil)),out:={slots:=(.dd 4 (.int .u32 (.int .u32 (.dd 11 .nil))))},T:=Int×Int,to:=fun(v:(Unit)×(Unit)×(Int×Int×Unit))=>(v.2.2.1,v.2.2.2.1),of:=fun x=>((),(),(x.1,(x.2,())))}
def qrU (o:DOps):qgi.In→Option qgi.T:=fun v=>q4j o v.2.2.1 v.2.2.2.1
def qrV:DSpec:=qaf qgi Tryz.f212 (qrU DOps.ev)
theorem qxc:DH Tryz.prog 212 qrV:=qad (d:=qgi) (Fo:=qrU) ([]:DT) [] [] [] (trivial:DTok Tryz.prog []) (by kernel_rfl) ⟨fun o v=>by kernel_rfl⟩ Tryz.func212 Tryz.call212
def qrW (o:DOps)(x:Int)(y:Int):Option (Int×Int) :=
 o.letv (bits BinOp.and IntKind.u64 x (4294967295:Int)) fun n1=>o.letv (x.fdiv ((2:Int) ^ min (Int.toNat (32:Int)) IntKind.u64.bits)) fun n2=>o.letv (bits BinOp.and IntKind.u64 y (4294967295:Int)) fun n3=>o.letv (y.fdiv ((2:Int) ^ min (Int.toNat (32:Int)) IntKind.u64.bits)) fun n4=>o.letv (wu (n1*n3)) fun n5=>o.letv (wu (n2*n3)) fun n6=>o.letv (n5.fdiv ((2:Int) ^ min (Int.toNat (32:Int)) IntKind.u64.bits)) fun n7=>o.letv (wu (n6+n7)) fun n8=>o.letv (bits BinOp.and IntKind.u64 n8 (4294967295:Int)) fun n9=>o.letv (n8.fdiv ((2:Int) ^ min (Int.toNat (32:Int)) IntKind.u64.bits)) fun n10=>o.letv (wu (n1*n4)) fun n11=>o.letv (wu (n9+n11)) fun n12=>o.letv (wu (n2*n4)) fun n13=>o.letv (wu (n13+n10)) fun n14=>o.letv (n12.fdiv ((2:Int) ^ min (Int.toNat (32:Int)) IntKind.u64.bits)) fun n15=>o.letv (wu (n14+n15)) fun n16=>o.letv (wu (x*y)) fun n17=>some ((n16,n17))
def qgj:DFn:={ro:=true,args:=(.int .u64 (.int .u64 .nil)),out:={slots:=(.dd 4 (.int .u64 (.int .u64 (.dd 45 .nil))))},T:=Int×Int,to:=fun(v:(Unit)×(Unit)×(Int×Int×Unit))=>(v.2.2.1,v.2.2.2.1),of:=fun x=>((),(),(x.1,(x.2,())))}
def q6B:=qrW DOps.ev
def qrX (o:DOps):qgj.In→Option qgj.T:=fun v=>qrW o v.2.2.1 v.2.2.2.1
def qrY:DSpec:=qaf qgj Tryz.f213 (qrX DOps.ev)
theorem qxd:DH Tryz.prog 213 qrY:=qad (d:=qgj) (Fo:=qrX) ([]:DT) [] [] [] (trivial:DTok Tryz.prog []) (by kernel_rfl) ⟨fun o v=>by kernel_rfl⟩ Tryz.func213 Tryz.call213
def qk9 (o:DOps)(now:List SeenT)(now2:Int)(now3:Bool)(s:SiteT):Option (Int×List SeenT×Int×Bool×SiteT) :=
 bif (now.length:Int) != (s.groups.length:Int) then some (((8:Int),now,now2,now3,s)) else some (((0:Int),now,now2,now3,s))
def qgk:DFn:={ro:=false,own:=[false,false],args:=(.ptr 0 0 (.ptr 1 0 .nil)),B:=[.cells (.sl 20 (.int .i64 (.bool .nil))),.cells (.seg 25 .nil)],out:={slots:=(.dd 2 (.int .i64 (.dd 7 .nil))),blks:=[(0,.cells (.sl 20 (.int .i64 (.bool .nil)))),(1,.cells (.seg 25 .nil))],fz:=true},T:=Int×List SeenT×Int×Bool×SiteT,to:=fun(v:(Unit)×((List SeenT×Int×Bool×Unit)×(SiteT×Unit)×Unit)×(Int×Unit))=>(v.2.2.1,v.2.1.1.1,v.2.1.1.2.1,v.2.1.1.2.2.1,v.2.1.2.1.1),of:=fun x=>((),((x.2.1,(x.2.2.1,(x.2.2.2.1,()))),((x.2.2.2.2,()),())),(x.1,()))}
def qoK:=qk9 DOps.ev
def qrZ (o:DOps):qgk.In→Option qgk.T:=fun v=>qk9 o v.2.1.1.1 v.2.1.1.2.1 v.2.1.1.2.2.1 v.2.1.2.1.1
def qsa:DSpec:=qaf qgk Tryz.f134 (qrZ DOps.ev)
theorem qxe:DH Tryz.prog 134 qsa:=qad (d:=qgk) (Fo:=qrZ) ([]:DT) [] [] [] (trivial:DTok Tryz.prog []) (by kernel_rfl) ⟨fun o v=>by kernel_rfl⟩ Tryz.func134 Tryz.call134
def qkA (o:DOps):Option (Int) :=
 some ((0:Int))
def qgl:DFn:={ro:=true,args:=.nil,out:={slots:=(.int .i64 .nil)},T:=Int,to:=fun(v:(Unit)×(Unit)×(Int×Unit))=>v.2.2.1,of:=fun x=>((),(),(x,()))}
def qoL:=qkA DOps.ev
def qsb (o:DOps):qgl.In→Option qgl.T:=fun v=>qkA o
def qsc:DSpec:=qaf qgl Tryz.f148 (qsb DOps.ev)
theorem qxf:DH Tryz.prog 148 qsc:=qad (d:=qgl) (Fo:=qsb) ([]:DT) [] [] [] (trivial:DTok Tryz.prog []) (by kernel_rfl) ⟨fun o v=>by kernel_rfl⟩ Tryz.func148 Tryz.call148
def qhG (o:DOps)(a:Int):Option (Bool) :=
 some (a != 4)
def qen:DFn:={ro:=true,args:=(.int .u8 .nil),out:={slots:=(.dd 2 (.bool (.dd 2 .nil)))},T:=Bool,to:=fun(v:(Unit)×(Unit)×(Bool×Unit))=>v.2.2.1,of:=fun x=>((),(),(x,()))}
def qkB:=qhG DOps.ev
def qoM (o:DOps):qen.In→Option qen.T:=fun v=>qhG o v.2.2.1
def qoN:DSpec:=qaf qen Tryz.f198 (qoM DOps.ev)
theorem quL:DH Tryz.prog 198 qoN:=qad (d:=qen) (Fo:=qoM) ([]:DT) [] [] [] (trivial:DTok Tryz.prog []) (by kernel_rfl) ⟨fun o v=>by kernel_rfl⟩ Tryz.func198 Tryz.call198
def qhH (o:DOps)(a:Int):Option (Bool) :=
 some (a != 4)
def qeo:DFn:={ro:=true,args:=(.int .u8 .nil),out:={slots:=(.dd 2 (.bool (.dd 2 .nil)))},T:=Bool,to:=fun(v:(Unit)×(Unit)×(Bool×Unit))=>v.2.2.1,of:=fun x=>((),(),(x,()))}
def qkC:=qhH DOps.ev
def qoO (o:DOps):qeo.In→Option qeo.T:=fun v=>qhH o v.2.2.1
def qoP:DSpec:=qaf qeo Tryz.f152 (qoO DOps.ev)
theorem quM:DH Tryz.prog 152 qoP:=qad (d:=qeo) (Fo:=qoO) ([]:DT) [] [] [] (trivial:DTok Tryz.prog []) (by kernel_rfl) ⟨fun o v=>by kernel_rfl⟩ Tryz.func152 Tryz.call152
def qkD (o:DOps)(now:List SeenT)(now2:Int)(now3:Bool)(g:SeenT):Option (Bool×List SeenT×Int×Bool) :=
 bif now3 then some ((g.aspectf != 4,now,now2,now3)) else some ((bif bif decide (g.aspectf<1) then true else decide (g.aspectf > 3) then true else bif decide (now2 > 0) then g.aspectf != 1 else false,now,now2,now3))
def qgm:DFn:={ro:=false,own:=[false],args:=(.agg (.seg 20 .nil) (.ptr 0 0 .nil)),B:=[.cells (.sl 20 (.int .i64 (.bool .nil)))],out:={slots:=(.dd 3 (.bool (.dd 23 .nil))),blks:=[(0,.cells (.sl 20 (.int .i64 (.bool .nil))))],fz:=true},T:=Bool×List SeenT×Int×Bool,to:=fun(v:(Unit)×((List SeenT×Int×Bool×Unit)×Unit)×(Bool×Unit))=>(v.2.2.1,v.2.1.1.1,v.2.1.1.2.1,v.2.1.1.2.2.1),of:=fun x=>((),((x.2.1,(x.2.2.1,(x.2.2.2,()))),()),(x.1,()))}
def qoQ:=qkD DOps.ev
def qsd (o:DOps):qgm.In→Option qgm.T:=fun v=>qkD o v.2.1.1.1 v.2.1.1.2.1 v.2.1.1.2.2.1 v.2.2.1.1
def qse:DSpec:=qaf qgm Tryz.f195 (qsd DOps.ev)
theorem qxg:DH Tryz.prog 195 qse:=qad (d:=qgm) (Fo:=qsd) ([]:DT) [] [] [] (trivial:DTok Tryz.prog []) (by kernel_rfl) ⟨fun o v=>by kernel_rfl⟩ Tryz.func195 Tryz.call195
def qhI (o:DOps)(out:List UInt8)(now:List SeenT)(now2:Int)(now3:Bool)(s:SiteT)(i:Int):Option (Bool×List SeenT×Int×Bool×SiteT×List UInt8) :=
 rs out.length out.length <| o.fix (((out,()),((now,now2,now3,()),(s,()),(),()),i,now,(now.length:Int),(0:Int),())) fun r1 ((z2,_),((z3,n4,b5,_),(x6,_),_,_),n7,z8,n9,n10,_)=>bif decide (n10<n9) then ix o z8 n10 (dflt 20) fun x11=>ix o x6.apart n7 (0:UInt32) fun x12=>req (decide (0≤n10)) <| o.letv ((↑x12.toNat:Int).fdiv ((2:Int) ^ min n10.toNat IntKind.u32.bits)) fun n13=>o.letv (bits BinOp.and IntKind.u32 n13 (1:Int)) fun n14=>req (!n14==1||decide (0≤n10)&&decide (n10<z2.length)) <| req (!n14==1||decide (0+n10.toNat<z2.length)) <| o.letv ((↑(z2.getD (0+n10.toNat) (0:UInt8)).toNat:Int)) fun n15=>req (!!n15 != 1||(!n14==1||decide (0≤n10)&&decide (n10<x6.between.length))) <| o.letv (x6.between.getD n10.toNat (dflt 7)) fun z16=>req (!!n15 != 1||(!n14==1||decide (0≤n7)&&decide (n7<z16.length))) <| o.letv (z16.getD n7.toNat (0:Int)) fun n17=>bif bif n14==1 then bif n15 != 1 then true else decide (x11.endedf<n17) else false then rs z2.length z2.length <| some ((true,z3,n4,b5,x6,z2)) else inc o n10 fun n18=>rs z2.length z2.length <| r1 (((z2,()),((z3,n4,b5,()),(x6,()),(),()),n7,z8,n9,n18,())) else rs z2.length z2.length <| some ((false,z3,n4,b5,x6,z2))
def qep:DFn:={ro:=false,own:=[false,false,false,false],args:=(.int .i64 (.ptr 0 0 (.ptr 1 0 (.ptr 2 0 .nil)))),B:=[.cells (.sl 20 (.int .i64 (.bool .nil))),.cells (.seg 25 .nil),.cells (.row 0 3 .nil),.row 0],out:={slots:=(.dd 5 (.bool (.dd 40 .nil))),blks:=[(0,.cells (.sl 20 (.int .i64 (.bool .nil)))),(1,.cells (.seg 25 .nil)),(2,.cells (.row 0 3 .nil)),(3,.row 0)],fz:=true},T:=Bool×List SeenT×Int×Bool×SiteT×List (UInt8),to:=fun(v:(List (UInt8)×Unit)×((List SeenT×Int×Bool×Unit)×(SiteT×Unit)×(Unit)×Unit)×(Bool×Unit))=>(v.2.2.1,v.2.1.1.1,v.2.1.1.2.1,v.2.1.1.2.2.1,v.2.1.2.1.1,v.1.1),of:=fun x=>((x.2.2.2.2.2,()),((x.2.1,(x.2.2.1,(x.2.2.2.1,()))),((x.2.2.2.2.1,()),((),()))),(x.1,()))}
def qgn:=qhI DOps.ev
def qoR (o:DOps):qep.In→Option qep.T:=fun v=>qhI o v.1.1 v.2.1.1.1 v.2.1.1.2.1 v.2.1.1.2.2.1 v.2.1.2.1.1 v.2.2.1
def qoS:DSpec:=qaf qep Tryz.f155 (qoR DOps.ev)
theorem quN:DH Tryz.prog 155 qoS:=qad (d:=qep) (Fo:=qoR) ([]:DT) [(2,{slots:=(.int .i64 (.dead (.ptr 1 0 (.ptr 2 0 (.dd 5 (.sl 20 (.int .i64 (.int .i64 (.dd 34 .nil))))))))),blks:=[(0,.cells (.sl 20 (.int .i64 (.bool .nil)))),(1,.cells (.seg 25 .nil)),(2,.cells (.row 0 3 .nil)),(3,.row 0)]})] [] [] (trivial:DTok Tryz.prog []) (by kernel_rfl) ⟨fun o v=>by kernel_rfl⟩ Tryz.func155 Tryz.call155
def qoT (o:DOps)(s:SiteT)(a:Int)(b:Int):Option (Bool) :=
 ix o s.apart a (0:UInt32) fun x1=>o.letv (wu b) fun n2=>req (decide (0≤n2)) <| o.letv ((↑x1.toNat:Int).fdiv ((2:Int) ^ min n2.toNat IntKind.u32.bits)) fun n3=>o.letv (n3.tmod (2:Int)) fun n4=>some (n4==1)
def qiX:DFn:={ro:=true,args:=(.agg (.seg 25 .nil) (.int .i64 (.int .i64 .nil))),out:={slots:=(.dd 6 (.bool (.dd 10 .nil)))},T:=Bool,to:=fun(v:(Unit)×(Unit)×(Bool×Unit))=>v.2.2.1,of:=fun x=>((),(),(x,()))}
def quO:=qoT DOps.ev
def qxh (o:DOps):qiX.In→Option qiX.T:=fun v=>qoT o v.2.2.1.1 v.2.2.2.1 v.2.2.2.2.1
def qxi:DSpec:=qaf qiX Tryz.f46 (qxh DOps.ev)
theorem q0p:DH Tryz.prog 46 qxi:=qad (d:=qiX) (Fo:=qxh) ([]:DT) [] [] [] (trivial:DTok Tryz.prog []) (by kernel_rfl) ⟨fun o v=>by kernel_rfl⟩ Tryz.func46 Tryz.call46
def qoU (o:DOps)(s:SiteT):Option (Int) :=
 o.fix (((),((s,()),()),(0:Int),(0:Int),())) fun r1 (_,((x2,_),_),n3,n4,_)=>bif decide (n4<x2.between.length) then o.fix (((),((x2,()),()),n3,n4,(0:Int),())) fun r5 (_,((x6,_),_),n7,n8,n9,_)=>ix o x6.between n8 (dflt 7) fun z10=>bif decide (n9<z10.length) then ix o x6.between n8 (dflt 7) fun z12=>ix o z12 n9 (0:Int) fun n13=>o.letv (max n7 n13) fun n14=>inc o n9 fun n15=>r5 (((),((x6,()),()),n14,n8,n15,())) else inc o n8 fun n11=>r1 (((),((x6,()),()),n7,n11,())) else some n3
def qiY:DFn:={ro:=true,args:=(.agg (.seg 25 .nil) .nil),out:={slots:=(.dd 2 (.int .i64 (.dd 31 .nil)))},T:=Int,to:=fun(v:(Unit)×(Unit)×(Int×Unit))=>v.2.2.1,of:=fun x=>((),(),(x,()))}
def qiZ:=qoU DOps.ev
def qxj (o:DOps):qiY.In→Option qiY.T:=fun v=>qoU o v.2.2.1.1
def qxk:DSpec:=qaf qiY Tryz.f16 (qxj DOps.ev)
theorem q0q:DH Tryz.prog 16 qxk:=qad (d:=qiY) (Fo:=qxj) ([]:DT) [(3,{slots:=(.dead (.ptr 1000 0 (.dead (.int .i64 (.int .i64 (.dd 29 .nil)))))),blks:=[(1000,.cells (.seg 25 .nil))]}),(6,{slots:=(.dead (.ptr 1000 0 (.dead (.int .i64 (.int .i64 (.int .i64 (.dd 28 .nil))))))),blks:=[(1000,.cells (.seg 25 .nil))]})] [] [] (trivial:DTok Tryz.prog []) (by kernel_rfl) ⟨fun o v=>by kernel_rfl⟩ Tryz.func16 Tryz.call16
def qhJ (o:DOps)(l:List UInt8):Option (Int) :=
 o.fix (((),(),l,(0:Int),(0:Int),())) fun r1 (_,_,z2,n3,n4,_)=>bif decide (n4<z2.length) then ix o z2 n4 (0:UInt8) fun x5=>bif (↑x5.toNat:Int)==4 then inc o n3 fun n7=>inc o n4 fun n8=>r1 (((),(),z2,n7,n8,())) else inc o n4 fun n6=>r1 (((),(),z2,n3,n6,())) else some n3
def qeq:DFn:={ro:=true,args:=(.sl 0 .nil),out:={slots:=(.dd 2 (.int .i64 (.dd 16 .nil)))},T:=Int,to:=fun(v:(Unit)×(Unit)×(Int×Unit))=>v.2.2.1,of:=fun x=>((),(),(x,()))}
def qcv:=qhJ DOps.ev
def qoV (o:DOps):qeq.In→Option qeq.T:=fun v=>qhJ o v.2.2.1
def qoW:DSpec:=qaf qeq Tryz.f15 (qoV DOps.ev)
theorem quP:DH Tryz.prog 15 qoW:=qad (d:=qeq) (Fo:=qoV) ([]:DT) [(3,{slots:=(.sl 0 (.dd 2 (.int .i64 (.int .i64 (.dd 14 .nil)))))})] [] [] (trivial:DTok Tryz.prog []) (by kernel_rfl) ⟨fun o v=>by kernel_rfl⟩ Tryz.func15 Tryz.call15
def qfz (o:DOps)(g:Grp)(was:Int)(ran:Int)(now:Int):Option (Bool) :=
 bif was==1 then some (bif now==1 then true else now==2) else bif was==2 then some (bif now==2 then true else bif now==3 then decide (ran≥g.minf) else false) else bif was==3 then some (bif bif now==3 then decide (ran<g.yellowf) else false then true else bif now==1 then ran==g.yellowf else false) else some false
def qdb:DFn:={ro:=true,args:=(.agg (.seg 17 .nil) (.int .u8 (.int .i64 (.int .u8 .nil)))),out:={slots:=(.dd 8 (.bool (.dd 43 .nil)))},T:=Bool,to:=fun(v:(Unit)×(Unit)×(Bool×Unit))=>v.2.2.1,of:=fun x=>((),(),(x,()))}
def qer:=qfz DOps.ev
def qlS (o:DOps):qdb.In→Option qdb.T:=fun v=>qfz o v.2.2.1.1 v.2.2.2.1 v.2.2.2.2.1 v.2.2.2.2.2.1
def qlT:DSpec:=qaf qdb Tryz.f26 (qlS DOps.ev)
theorem qqS:DH Tryz.prog 26 qlT:=qad (d:=qdb) (Fo:=qlS) ([]:DT) [] [] [] (trivial:DTok Tryz.prog []) (by kernel_rfl) ⟨fun o v=>by kernel_rfl⟩ Tryz.func26 Tryz.call26
def q6C (o:DOps):Option (SiteT) :=
 some ({id:=(1:Int),groups:={kindf:=(1:Int),minf:=(2:Int),yellowf:=(1:Int):Grp}::{kindf:=(1:Int),minf:=(2:Int),yellowf:=(1:Int):Grp}::nilL17,apart:=UInt32.ofNat (Int.toNat (2:Int))::UInt32.ofNat (Int.toNat (1:Int))::nilL2,between:=((0:Int)::(2:Int)::qeY)::((2:Int)::(0:Int)::qeY)::nilL7,phases:={groupsf:=(1:Int),minf:=(2:Int),maxf:=(5:Int),gapf:=(1:Int),alwaysf:=false:Phs}::{groupsf:=(2:Int),minf:=(2:Int),maxf:=(5:Int),gapf:=(1:Int),alwaysf:=false:Phs}::nilL18,eyes:=nilL19,watch:=(3:Int),feed:=(2:Int),heal:=(4:Int),low:=(8:Int),high:=(20:Int),plans:=qaH:SiteT})
def quQ:DFn:={ro:=false,args:=.nil,out:={slots:=(.ptr 1000 0 (.dd 13 .nil)),blks:=[(1000,.cells (.seg 25 .nil))],fz:=true},T:=SiteT,to:=fun(v:(Unit)×((SiteT×Unit)×Unit)×(Unit))=>v.2.1.1.1,of:=fun x=>((),((x,()),()),())}
def topTwo:=q6C DOps.ev
def q6D (o:DOps):quQ.In→Option quQ.T:=fun v=>q6C o
def q6E:DSpec:=qaf quQ Tryz.f21 (q6D DOps.ev)
theorem q6F:DH Tryz.prog 21 q6E:=qad (d:=quQ) (Fo:=q6D) ([]:DT) [] [] [] (trivial:DTok Tryz.prog []) (by kernel_rfl) ⟨fun o v=>by kernel_rfl⟩ Tryz.func21 Tryz.call21
def q29 (o:DOps):Option (List UInt8) :=
 some (UInt8.ofNat 0::UInt8.ofNat 0::UInt8.ofNat 0::UInt8.ofNat 0::UInt8.ofNat 0::UInt8.ofNat 0::UInt8.ofNat 0::UInt8.ofNat 0::UInt8.ofNat 0::UInt8.ofNat 0::UInt8.ofNat 0::UInt8.ofNat 0::UInt8.ofNat 0::UInt8.ofNat 0::UInt8.ofNat 0::UInt8.ofNat 0::UInt8.ofNat 0::UInt8.ofNat 0::UInt8.ofNat 0::UInt8.ofNat 0::UInt8.ofNat 0::UInt8.ofNat 0::UInt8.ofNat 0::UInt8.ofNat 0::UInt8.ofNat 0::UInt8.ofNat 0::UInt8.ofNat 0::UInt8.ofNat 0::UInt8.ofNat 0::UInt8.ofNat 0::UInt8.ofNat 0::UInt8.ofNat 0::UInt8.ofNat 0::UInt8.ofNat 0::UInt8.ofNat 0::UInt8.ofNat 0::UInt8.ofNat 0::UInt8.ofNat 0::UInt8.ofNat 0::UInt8.ofNat 0::UInt8.ofNat 0::UInt8.ofNat 0::UInt8.ofNat 0::UInt8.ofNat 0::UInt8.ofNat 0::UInt8.ofNat 0::UInt8.ofNat 0::UInt8.ofNat 0::UInt8.ofNat 0::UInt8.ofNat 0::UInt8.ofNat 0::UInt8.ofNat 0::UInt8.ofNat 0::UInt8.ofNat 0::UInt8.ofNat 0::UInt8.ofNat 0::UInt8.ofNat 0::UInt8.ofNat 0::UInt8.ofNat 0::UInt8.ofNat 0::UInt8.ofNat 0::UInt8.ofNat 0::UInt8.ofNat 0::UInt8.ofNat 0::UInt8.ofNat 0::UInt8.ofNat 0::UInt8.ofNat 0::UInt8.ofNat 0::UInt8.ofNat 0::UInt8.ofNat 0::UInt8.ofNat 0::UInt8.ofNat 0::UInt8.ofNat 0::UInt8.ofNat 0::UInt8.ofNat 0::UInt8.ofNat 0::UInt8.ofNat 0::UInt8.ofNat 0::UInt8.ofNat 0::UInt8.ofNat 0::UInt8.ofNat 0::UInt8.ofNat 0::UInt8.ofNat 0::UInt8.ofNat 0::UInt8.ofNat 0::UInt8.ofNat 0::UInt8.ofNat 0::UInt8.ofNat 0::UInt8.ofNat 0::UInt8.ofNat 0::UInt8.ofNat 0::UInt8.ofNat 0::UInt8.ofNat 0::UInt8.ofNat 0::UInt8.ofNat 0::UInt8.ofNat 0::UInt8.ofNat 0::UInt8.ofNat 0::UInt8.ofNat 0::UInt8.ofNat 0::UInt8.ofNat 0::UInt8.ofNat 0::UInt8.ofNat 0::UInt8.ofNat 0::UInt8.ofNat 0::UInt8.ofNat 0::UInt8.ofNat 0::UInt8.ofNat 0::UInt8.ofNat 0::UInt8.ofNat 0::UInt8.ofNat 0::UInt8.ofNat 0::UInt8.ofNat 0::UInt8.ofNat 0::UInt8.ofNat 0::UInt8.ofNat 0::UInt8.ofNat 0::UInt8.ofNat 0::UInt8.ofNat 0::UInt8.ofNat 0::UInt8.ofNat 0::UInt8.ofNat 0::UInt8.ofNat 0::UInt8.ofNat 0::UInt8.ofNat 0::UInt8.ofNat 0::UInt8.ofNat 0::UInt8.ofNat 0::UInt8.ofNat 0::UInt8.ofNat 0::UInt8.ofNat 0::UInt8.ofNat 0::UInt8.ofNat 0::UInt8.ofNat 0::UInt8.ofNat 0::UInt8.ofNat 0::UInt8.ofNat 0::UInt8.ofNat 0::UInt8.ofNat 0::UInt8.ofNat 0::UInt8.ofNat 0::UInt8.ofNat 0::UInt8.ofNat 0::UInt8.ofNat 0::UInt8.ofNat 0::UInt8.ofNat 0::UInt8.ofNat 0::UInt8.ofNat 0::UInt8.ofNat 0::UInt8.ofNat 0::UInt8.ofNat 0::UInt8.ofNat 0::UInt8.ofNat 0::UInt8.ofNat 0::UInt8.ofNat 0::UInt8.ofNat 0::UInt8.ofNat 0::UInt8.ofNat 0::UInt8.ofNat 0::UInt8.ofNat 0::UInt8.ofNat 0::UInt8.ofNat 0::UInt8.ofNat 0::UInt8.ofNat 0::UInt8.ofNat 0::UInt8.ofNat 0::UInt8.ofNat 0::UInt8.ofNat 0::UInt8.ofNat 0::UInt8.ofNat 0::UInt8.ofNat 0::UInt8.ofNat 0::UInt8.ofNat 0::UInt8.ofNat 0::UInt8.ofNat 0::UInt8.ofNat 0::UInt8.ofNat 0::UInt8.ofNat 0::UInt8.ofNat 0::UInt8.ofNat 0::UInt8.ofNat 0::UInt8.ofNat 0::UInt8.ofNat 0::UInt8.ofNat 0::UInt8.ofNat 0::UInt8.ofNat 0::UInt8.ofNat 0::UInt8.ofNat 0::UInt8.ofNat 0::UInt8.ofNat 0::UInt8.ofNat 0::UInt8.ofNat 0::UInt8.ofNat 0::UInt8.ofNat 0::UInt8.ofNat 0::UInt8.ofNat 0::UInt8.ofNat 0::UInt8.ofNat 0::UInt8.ofNat 0::UInt8.ofNat 0::UInt8.ofNat 0::UInt8.ofNat 0::UInt8.ofNat 0::UInt8.ofNat 0::UInt8.ofNat 0::UInt8.ofNat 0::UInt8.ofNat 0::UInt8.ofNat 0::UInt8.ofNat 0::UInt8.ofNat 0::UInt8.ofNat 0::UInt8.ofNat 0::UInt8.ofNat 0::UInt8.ofNat 0::UInt8.ofNat 0::UInt8.ofNat 0::UInt8.ofNat 0::UInt8.ofNat 0::UInt8.ofNat 0::UInt8.ofNat 0::UInt8.ofNat 0::UInt8.ofNat 0::UInt8.ofNat 0::UInt8.ofNat 0::UInt8.ofNat 0::UInt8.ofNat 0::UInt8.ofNat 0::UInt8.ofNat 0::UInt8.ofNat 0::UInt8.ofNat 0::UInt8.ofNat 0::UInt8.ofNat 0::UInt8.ofNat 0::UInt8.ofNat 0::UInt8.ofNat 0::UInt8.ofNat 0::UInt8.ofNat 0::UInt8.ofNat 0::UInt8.ofNat 0::UInt8.ofNat 0::UInt8.ofNat 0::UInt8.ofNat 0::UInt8.ofNat 0::UInt8.ofNat 0::UInt8.ofNat 0::UInt8.ofNat 0::UInt8.ofNat 0::UInt8.ofNat 0::UInt8.ofNat 0::UInt8.ofNat 0::UInt8.ofNat 0::UInt8.ofNat 0::UInt8.ofNat 0::UInt8.ofNat 0::UInt8.ofNat 0::UInt8.ofNat 0::qal)
def qmQ:DFn:={ro:=false,args:=.nil,out:={slots:=(.ptr 1000 0 (.dd 2 .nil)),blks:=[(1000,.cells (.sl 0 .nil))],fz:=true},T:=List UInt8,to:=fun(v:(Unit)×((List UInt8×Unit)×Unit)×(Unit))=>v.2.1.1.1,of:=fun x=>((),((x,()),()),())}
def q6G:=q29 DOps.ev
def q2A (o:DOps):qmQ.In→Option qmQ.T:=fun v=>q29 o
def q2B:DSpec:=qaf qmQ Tryz.f22 (q2A DOps.ev)
theorem q4k:DH Tryz.prog 22 q2B:=qad (d:=qmQ) (Fo:=q2A) ([]:DT) [] [] [] (trivial:DTok Tryz.prog []) (by kernel_rfl) ⟨fun o v=>by kernel_rfl⟩ Tryz.func22 Tryz.call22
def quR (o:DOps)(s:SiteT):Option (Bool) :=
 bif bif bif bif bif bif decide ((s.groups.length:Int) > 40) then true else decide ((s.apart.length:Int) > 40) then true else decide ((s.between.length:Int) > 40) then true else decide ((s.phases.length:Int) > 40) then true else decide ((s.eyes.length:Int) > 60) then true else decide ((s.plans.length:Int) > 40) then some true else o.fix (((),((s,()),()),(0:Int),())) fun r1 (_,((x2,_),_),n3,_)=>bif decide (n3<x2.between.length) then ix o x2.between n3 (dflt 7) fun z9=>bif decide ((z9.length:Int) > 40) then some true else inc o n3 fun n10=>r1 (((),((x2,()),()),n10,())) else o.fix (((),((x2,()),()),(0:Int),())) fun r4 (_,((x5,_),_),n6,_)=>bif decide (n6<x5.plans.length) then ix o x5.plans n6 (dflt 10) fun x7=>bif decide ((x7.splits.length:Int) > 40) then some true else inc o n6 fun n8=>r4 (((),((x5,()),()),n8,())) else some false
def qmR:DFn:={ro:=true,args:=(.agg (.seg 25 .nil) .nil),out:={slots:=(.dd 2 (.bool (.dd 65 .nil)))},T:=Bool,to:=fun(v:(Unit)×(Unit)×(Bool×Unit))=>v.2.2.1,of:=fun x=>((),(),(x,()))}
def q0r:=quR DOps.ev
def q2C (o:DOps):qmR.In→Option qmR.T:=fun v=>quR o v.2.2.1.1
def q2D:DSpec:=qaf qmR Tryz.f23 (q2C DOps.ev)
theorem q4l:DH Tryz.prog 23 q2D:=qad (d:=qmR) (Fo:=q2C) ([]:DT) [(4,{slots:=(.dead (.ptr 1000 0 (.dead (.int .i64 (.dd 64 .nil))))),blks:=[(1000,.cells (.seg 25 .nil))]}),(9,{slots:=(.dead (.ptr 1000 0 (.dd 2 (.int .i64 (.dd 63 .nil))))),blks:=[(1000,.cells (.seg 25 .nil))]})] [] [] (trivial:DTok Tryz.prog []) (by kernel_rfl) ⟨fun o v=>by kernel_rfl⟩ Tryz.func23 Tryz.call23
def quS (o:DOps)(l:List Inp):Option (Int) :=
 o.fix (((),(),l,(l.length:Int),(0:Int),())) fun r1 (_,_,z2,n3,n4,_)=>bif decide (n4<z2.length) then ix o z2 n4 (dflt 24) fun x5=>ix o z2 n4 (dflt 24) fun x6=>o.letv (wi ((x5.bytesf.length:Int)+(x6.backf.length:Int))) fun n7=>o.letv (wi (n3+n7)) fun n8=>inc o n4 fun n9=>r1 (((),(),z2,n8,n9,())) else some n3
def qmS:DFn:={ro:=true,args:=(.sl 24 .nil),out:={slots:=(.dd 2 (.int .i64 (.dd 26 .nil)))},T:=Int,to:=fun(v:(Unit)×(Unit)×(Int×Unit))=>v.2.2.1,of:=fun x=>((),(),(x,()))}
def q0s:=quS DOps.ev
def q2E (o:DOps):qmS.In→Option qmS.T:=fun v=>quS o v.2.2.1
def q2F:DSpec:=qaf qmS Tryz.f24 (q2E DOps.ev)
theorem q4m:DH Tryz.prog 24 q2F:=qad (d:=qmS) (Fo:=q2E) ([]:DT) [(3,{slots:=(.sl 24 (.dd 2 (.int .i64 (.int .i64 (.dd 24 .nil)))))})] [] [] (trivial:DTok Tryz.prog []) (by kernel_rfl) ⟨fun o v=>by kernel_rfl⟩ Tryz.func24 Tryz.call24
def topSameO (o:DOps)(a:List (List UInt8))(b:List (List UInt8))(many:Int):Option (Bool) :=
 bif bif decide ((a.length:Int)<many) then true else decide ((b.length:Int)<many) then some false else o.fix (((),(),a,b,many,(0:Int),())) fun r1 (_,_,z2,z3,n4,n5,_)=>bif decide (n5<n4) then ix o z2 n5 (dflt 6) fun z6=>ix o z3 n5 (dflt 6) fun z7=>bif !z6.toArray.toList==z7.toArray.toList then some false else inc o n5 fun n8=>r1 (((),(),z2,z3,n4,n8,())) else some true
def qmT:DFn:={ro:=true,args:=(.sl 6 (.sl 6 (.int .i64 .nil))),out:={slots:=(.dd 6 (.bool (.dd 27 .nil)))},T:=Bool,to:=fun(v:(Unit)×(Unit)×(Bool×Unit))=>v.2.2.1,of:=fun x=>((),(),(x,()))}
def q2G (o:DOps):qmT.In→Option qmT.T:=fun v=>topSameO o v.2.2.1 v.2.2.2.1 v.2.2.2.2.1
def q2H:DSpec:=qaf qmT Tryz.f14 (q2G DOps.ev)
theorem q4n:DH Tryz.prog 14 q2H:=qad (d:=qmT) (Fo:=q2G) ([]:DT) [(4,{slots:=(.sl 6 (.sl 6 (.int .i64 (.dd 4 (.int .i64 (.dd 26 .nil))))))})] [] [] (trivial:DTok Tryz.prog []) (by kernel_rfl) ⟨fun o v=>by kernel_rfl⟩ Tryz.func14 Tryz.call14
def q6H (o:DOps)(lit:List UInt8)(shown:List UInt8):Option (Bool) :=
 some (bif decide ((shown.length:Int) > 0) then !lit.toArray.toList==shown.toArray.toList else false)
def qja:DFn:={ro:=true,args:=(.sl 0 (.sl 0 .nil)),out:={slots:=(.dd 4 (.bool (.dd 10 .nil)))},T:=Bool,to:=fun(v:(Unit)×(Unit)×(Bool×Unit))=>v.2.2.1,of:=fun x=>((),(),(x,()))}
def qxl (o:DOps):qja.In→Option qja.T:=fun v=>q6H o v.2.2.1 v.2.2.2.1
def qxm:DSpec:=qaf qja Tryz.f19 (qxl DOps.ev)
theorem q0t:DH Tryz.prog 19 qxm:=qad (d:=qja) (Fo:=qxl) ([]:DT) [] [] [] (trivial:DTok Tryz.prog []) (by kernel_rfl) ⟨fun o v=>by kernel_rfl⟩ Tryz.func19 Tryz.call19
def tl0:DT:=(210,mnzD)::(51,q6u)::(171,q2u)::(172,tzD .u32 qau)::(173,qeP)::(59,qok)::(74,q2w)::(73,qom)::(211,q6x)::(105,q2z)::(170,qw9)::(50,qop)::(106,qr7)::(167,q60)::(199,qr9)::(203,qlH)::(63,qlJ)::(123,qrB)::(99,qwF)::(168,q63)::(104,qot)::(206,qrD)::(179,qbX)::(120,qwI)::(147,qwK)::(45,qrF)::(125,qoy)::(156,qrH)::(161,q22)::(200,qiN)::(197,qwO)::(201,qwQ)::(202,qlL)::(191,tzD .u64 qav)::(184,qo5)::(129,qob)::(209,qo7)::(130,qwT)::(186,q67)::(187,qeR)::(188,qrJ)::(141,qlN)::(189,qwW)::(137,qrL)::(190,qoC)::(85,qrN)::(142,qrP)::(143,qrR)::(153,q24)::(101,fixOfS)::(166,q27)::(177,qrT)::(62,qlP)::(75,qiW)::(76,qhm)::(96,qlR)::(98,qoH)::(119,qoJ)::(212,qrV)::(213,qrY)::(134,qsa)::(148,qsc)::(198,qoN)::(152,qoP)::(195,qse)::(155,qoS)::(46,qxi)::(16,qxk)::(15,qoW)::(26,qlT)::(21,q6E)::(22,q2B)::(23,q2D)::(24,q2F)::(14,q2H)::(19,qxm)::([]:DT)
theorem qao:DTok Tryz.prog tl0:=.cons mnz_dh <| .cons q6v <| .cons q4d <| .cons tz32_dh <| .cons qiG <| .cons qux <| .cons q4e <| .cons qu0 <| .cons q6y <| .cons q4f <| .cons q0b <| .cons qu3 <| .cons qwA <| .cons q61 <| .cons qwC <| .cons qqK <| .cons qqL <| .cons qwD <| .cons q0d <| .cons q64 <| .cons qu7 <| .cons qwG <| .cons qee <| .cons q0f <| .cons q0g <| .cons qwL <| .cons qu9 <| .cons qwM <| .cons q4g <| .cons qo1 <| .cons q0h <| .cons q0i <| .cons qqM <| .cons tz64_dh <| .cons quB <| .cons qzU <| .cons quC <| .cons q0l <| .cons q68 <| .cons qiR <| .cons qwU <| .cons qqN <| .cons q0n <| .cons qwX <| .cons quF <| .cons qwY <| .cons qwZ <| .cons qxa <| .cons q4h <| .cons fixOf_ok <| .cons q4i <| .cons qxb <| .cons qqP <| .cons qoF <| .cons qm3 <| .cons qqR <| .cons quJ <| .cons quK <| .cons qxc <| .cons qxd <| .cons qxe <| .cons qxf <| .cons quL <| .cons quM <| .cons qxg <| .cons quN <| .cons q0p <| .cons q0q <| .cons quP <| .cons qqS <| .cons q6F <| .cons q4k <| .cons q4l <| .cons q4m <| .cons q4n <| .cons q0t <| (trivial:DTok Tryz.prog [])
def qkE (o:DOps)(s:SiteT):Option (Bool) :=
 o.bind (qcj (s.groups.length:Int) (1:Int) (16:Int)) fun b1=>bif bif bif !b1 then true else (s.apart.length:Int) != (s.groups.length:Int) then true else (s.between.length:Int) != (s.groups.length:Int) then some false else o.bind (qcj (s.phases.length:Int) (1:Int) (8:Int)) fun b2=>bif bif bif !b2 then true else decide ((s.eyes.length:Int) > 24) then true else decide ((s.plans.length:Int) > 8) then some false else o.fix (((),((s,()),()),(s.groups.length:Int),s.between,(s.between.length:Int),(0:Int),())) fun r3 (_,((x4,_),_),n5,z6,n7,n8,_)=>bif decide (n8<n7) then ix o z6 n8 (dflt 7) fun z9=>req (!!(z9.length:Int) != n5||decide (0≤n8)&&decide (n8<x4.apart.length)) <| o.letv (x4.apart.getD n8.toNat (0:UInt32)) fun x10=>req (!!(z9.length:Int) != n5||decide (0≤n5)) <| o.letv ((↑x10.toNat:Int).fdiv ((2:Int) ^ min n5.toNat IntKind.u32.bits)) fun n11=>bif bif (z9.length:Int) != n5 then true else n11 != 0 then some false else inc o n8 fun n12=>r3 (((),((x4,()),()),n5,z6,n7,n12,())) else some true
def qgo:DFn:={ro:=true,args:=(.agg (.seg 25 .nil) .nil),out:={slots:=(.dd 2 (.bool (.dd 65 .nil)))},T:=Bool,to:=fun(v:(Unit)×(Unit)×(Bool×Unit))=>v.2.2.1,of:=fun x=>((),(),(x,()))}
def qoX:=qkE DOps.ev
def qsf (o:DOps):qgo.In→Option qgo.T:=fun v=>qkE o v.2.2.1.1
def qsg:DSpec:=qaf qgo Tryz.f52 (qsf DOps.ev)
theorem qxn:DH Tryz.prog 52 qsg:=qad (d:=qgo) (Fo:=qsf) tl0 [(5,{slots:=(.dead (.ptr 1000 0 (.dead (.int .i64 (.dd 42 (.sl 7 (.int .i64 (.int .i64 (.dd 19 .nil))))))))),blks:=[(1000,.cells (.seg 25 .nil))]})] [] [] qao (by kernel_rfl) ⟨fun o v=>by kernel_rfl⟩ Tryz.func52 Tryz.call52
def qkF (o:DOps)(l:List Int):Option (Bool) :=
 o.fix (((),(),l,(l.length:Int),(0:Int),())) fun r1 (_,_,z2,n3,n4,_)=>bif decide (n4<n3) then ix o z2 n4 (0:Int) fun n5=>o.bind (qcj n5 (1:Int) (1048576:Int)) fun b6=>bif !b6 then some false else inc o n4 fun n7=>r1 (((),(),z2,n3,n7,())) else some true
def qgp:DFn:={ro:=true,args:=(.sl 1 .nil),out:={slots:=(.dd 2 (.bool (.dd 12 .nil)))},T:=Bool,to:=fun(v:(Unit)×(Unit)×(Bool×Unit))=>v.2.2.1,of:=fun x=>((),(),(x,()))}
def qcG:=qkF DOps.ev
def qsh (o:DOps):qgp.In→Option qgp.T:=fun v=>qkF o v.2.2.1
def qsi:DSpec:=qaf qgp Tryz.f109 (qsh DOps.ev)
theorem qxo:DH Tryz.prog 109 qsi:=qad (d:=qgp) (Fo:=qsh) tl0 [(2,{slots:=(.dd 5 (.sl 1 (.int .i64 (.int .i64 (.dd 7 .nil)))))})] [] [] qao (by kernel_rfl) ⟨fun o v=>by kernel_rfl⟩ Tryz.func109 Tryz.call109
def quT (o:DOps)(s:Int)(i:Int):Option (Bool) :=
 o.bind (qoi i) fun n1=>o.letv (bits BinOp.and IntKind.u32 s n1) fun n2=>some (n2 != 0)
def qmU:DFn:={ro:=true,args:=(.int .u32 (.int .i64 .nil)),out:={slots:=(.dd 4 (.bool (.dd 5 .nil)))},T:=Bool,to:=fun(v:(Unit)×(Unit)×(Bool×Unit))=>v.2.2.1,of:=fun x=>((),(),(x,()))}
def qkG:=quT DOps.ev
def q2I (o:DOps):qmU.In→Option qmU.T:=fun v=>quT o v.2.2.1 v.2.2.2.1
def q2J:DSpec:=qaf qmU Tryz.f110 (q2I DOps.ev)
theorem q4o:DH Tryz.prog 110 q2J:=qad (d:=qmU) (Fo:=q2I) tl0 [] [] [] qao (by kernel_rfl) ⟨fun o v=>by kernel_rfl⟩ Tryz.func110 Tryz.call110
def qkH (o:DOps)(s:Int):Option (Int) :=
 bif s==0 then some ((-1:Int)) else o.bind (qau s) fun n1=>some n1
def qgq:DFn:={ro:=true,args:=(.int .u32 .nil),out:={slots:=(.dd 2 (.int .i64 (.dd 4 .nil)))},T:=Int,to:=fun(v:(Unit)×(Unit)×(Int×Unit))=>v.2.2.1,of:=fun x=>((),(),(x,()))}
def qjb:=qkH DOps.ev
def qsj (o:DOps):qgq.In→Option qgq.T:=fun v=>qkH o v.2.2.1
def qsk:DSpec:=qaf qgq Tryz.f111 (qsj DOps.ev)
theorem qxp:DH Tryz.prog 111 qsk:=qad (d:=qgq) (Fo:=qsj) tl0 [] [] [] qao (by kernel_rfl) ⟨fun o v=>by kernel_rfl⟩ Tryz.func111 Tryz.call111
def qf0 (o:DOps)(s:Int)(i:Int):Option (Int) :=
 o.bind (qoi i) fun n1=>o.letv (bits BinOp.andNot IntKind.u32 s n1) fun n2=>some n2
def qdc:DFn:={ro:=true,args:=(.int .u32 (.int .i64 .nil)),out:={slots:=(.dd 4 (.int .u32 (.dd 4 .nil)))},T:=Int,to:=fun(v:(Unit)×(Unit)×(Int×Unit))=>v.2.2.1,of:=fun x=>((),(),(x,()))}
def qcH:=qf0 DOps.ev
def qlU (o:DOps):qdc.In→Option qdc.T:=fun v=>qf0 o v.2.2.1 v.2.2.2.1
def qlV:DSpec:=qaf qdc Tryz.f112 (qlU DOps.ev)
theorem qqT:DH Tryz.prog 112 qlV:=qad (d:=qdc) (Fo:=qlU) tl0 [] [] [] qao (by kernel_rfl) ⟨fun o v=>by kernel_rfl⟩ Tryz.func112 Tryz.call112
def qkI (o:DOps)(s:Int):Option (Int) :=
 o.bind (qcE s) fun n1=>some n1
def qgr:DFn:={ro:=true,args:=(.int .u32 .nil),out:={slots:=(.dd 2 (.int .i64 (.dd 2 .nil)))},T:=Int,to:=fun(v:(Unit)×(Unit)×(Int×Unit))=>v.2.2.1,of:=fun x=>((),(),(x,()))}
def qoY:=qkI DOps.ev
def qsl (o:DOps):qgr.In→Option qgr.T:=fun v=>qkI o v.2.2.1
def qsm:DSpec:=qaf qgr Tryz.f113 (qsl DOps.ev)
theorem qxq:DH Tryz.prog 113 qsm:=qad (d:=qgr) (Fo:=qsl) tl0 [] [] [] qao (by kernel_rfl) ⟨fun o v=>by kernel_rfl⟩ Tryz.func113 Tryz.call113
def qkJ (o:DOps)(d:List UInt8):Option (Int×Int) :=
 o.bind (qd6 d) fun n1=>bif n1 != 0 then some (((0:Int),n1)) else o.letv (wi ((d.length:Int).tdiv (64:Int))) fun n2=>some ((n2,(0:Int)))
def qgs:DFn:={ro:=true,args:=(.agg (.sl 0 .nil) .nil),out:={slots:=(.dd 2 (.int .i64 (.int .i64 (.dd 10 .nil))))},T:=Int×Int,to:=fun(v:(Unit)×(Unit)×(Int×Int×Unit))=>(v.2.2.1,v.2.2.2.1),of:=fun x=>((),(),(x.1,(x.2,())))}
def qdB:=qkJ DOps.ev
def qsn (o:DOps):qgs.In→Option qgs.T:=fun v=>qkJ o v.2.2.1.1
def qso:DSpec:=qaf qgs Tryz.f58 (qsn DOps.ev)
theorem qxr:DH Tryz.prog 58 qso:=qad (d:=qgs) (Fo:=qsn) tl0 [] [] [] qao (by kernel_rfl) ⟨fun o v=>by kernel_rfl⟩ Tryz.func58 Tryz.call58
def qf1 (o:DOps)(b:List UInt8):Option (Int) :=
 o.bind (qw7 b) fun(n1,n2)=>some n1
def qdd:DFn:={ro:=true,args:=(.sl 0 .nil),out:={slots:=(.dd 2 (.int .u64 (.dd 8 .nil)))},T:=Int,to:=fun(v:(Unit)×(Unit)×(Int×Unit))=>v.2.2.1,of:=fun x=>((),(),(x,()))}
def qcI:=qf1 DOps.ev
def qlW (o:DOps):qdd.In→Option qdd.T:=fun v=>qf1 o v.2.2.1
def qlX:DSpec:=qaf qdd Tryz.f182 (qlW DOps.ev)
theorem qqU:DH Tryz.prog 182 qlX:=qad (d:=qdd) (Fo:=qlW) tl0 [] [] [] qao (by kernel_rfl) ⟨fun o v=>by kernel_rfl⟩ Tryz.func182 Tryz.call182
def qoZ (o:DOps)(l:List Int):Option (List UInt8) :=
 o.fix (((qal,()),(),l,(l.length:Int),(0:Int),())) fun r1 ((z2,_),_,z3,n4,n5,_)=>bif decide (n5<n4) then ix o z3 n5 (0:Int) fun n6=>o.letv (wu n6) fun n7=>o.bind (qcT n7) fun z8=>rm (z2.length+z8.length) 1 <| o.letv (List.take z2.length z2++List.take z8.length z8) fun z9=>inc o n5 fun n10=>rs (z2.length+z8.length) z9.length <| r1 (((z9,()),(),z3,n4,n10,())) else rs z2.length z2.length <| some z2
def qjc:DFn:={ro:=true,own:=[true],lend:=fun j=>Nat.beq j 0,args:=(.nilsl (.sl 1 .nil)),out:={slots:=(.dd 4 (.row 0 900 (.dd 15 .nil))),blks:=[(900,.row 0)],boxes:=[(4,900,0)]},T:=List (UInt8),to:=fun(v:(List (UInt8)×Unit)×(Unit)×(Unit))=>v.1.1,of:=fun x=>((x,()),(),())}
def quU:=qoZ DOps.ev
def qxs (o:DOps):qjc.In→Option qjc.T:=fun v=>qoZ o v.2.2.1
def qxt:DSpec:=qaf qjc Tryz.f169 (qxs DOps.ev)
theorem q0u:DH Tryz.prog 169 qxt:=qad (d:=qjc) (Fo:=qxs) tl0 [(2,{slots:=(.row 0 900 (.dd 6 (.sl 1 (.int .i64 (.int .i64 (.dd 10 .nil)))))),blks:=[(900,.row 0)],boxes:=[(0,900,0)]})] [] [] qao (by kernel_rfl) ⟨fun o v=>by kernel_rfl⟩ Tryz.func169 Tryz.call169
def qhK (o:DOps)(r:List UInt8)(r2:Bool)(r3:SiteT)(most:Int):Option (Int×List UInt8×Bool×SiteT) :=
 o.bind (qkq r) fun(n1,n2,n3)=>o.letv (wu most) fun n4=>bif bif n3 != 0 then true else decide (n1 > n4) then some (((0:Int),r,true,r3)) else req (decide (0≤n2)) <| req (decide (n2≤r.length)) <| o.letv (wi n1) fun n5=>some ((n5,List.drop n2.toNat r,r2,r3))
def qes:DFn:={ro:=false,own:=[false],args:=(.ptr 0 0 (.int .i64 .nil)),B:=[.cells (.sl 0 (.bool (.seg 25 .nil)))],out:={slots:=(.dd 4 (.int .i64 (.dd 34 .nil))),blks:=[(0,.cells (.sl 0 (.bool (.seg 25 .nil))))],fz:=true},T:=Int×List UInt8×Bool×SiteT,to:=fun(v:(Unit)×((List UInt8×Bool×SiteT×Unit)×Unit)×(Int×Unit))=>(v.2.2.1,v.2.1.1.1,v.2.1.1.2.1,v.2.1.1.2.2.1),of:=fun x=>((),((x.2.1,(x.2.2.1,(x.2.2.2,()))),()),(x.1,()))}
def qaZ:=qhK DOps.ev
def qpa (o:DOps):qes.In→Option qes.T:=fun v=>qhK o v.2.1.1.1 v.2.1.1.2.1 v.2.1.1.2.2.1 v.2.2.1
def qpb:DSpec:=qaf qes Tryz.f218 (qpa DOps.ev)
theorem quV:DH Tryz.prog 218 qpb:=qad (d:=qes) (Fo:=qpa) tl0 [] [] [] qao (by kernel_rfl) ⟨fun o v=>by kernel_rfl⟩ Tryz.func218 Tryz.call218
def quW (o:DOps)(r:List UInt8)(r2:Bool)(most:Int):Option (Int×List UInt8×Bool) :=
 o.bind (qkq r) fun(n1,n2,n3)=>o.letv (wu most) fun n4=>bif bif n3 != 0 then true else decide (n1 > n4) then some (((0:Int),r,true)) else req (decide (0≤n2)) <| req (decide (n2≤r.length)) <| o.letv (wi n1) fun n5=>some ((n5,List.drop n2.toNat r,r2))
def qmV:DFn:={ro:=false,own:=[false],args:=(.ptr 0 0 (.int .i64 .nil)),B:=[.cells (.sl 0 (.bool .nil))],out:={slots:=(.dd 4 (.int .i64 (.dd 34 .nil))),blks:=[(0,.cells (.sl 0 (.bool .nil)))],fz:=true},T:=Int×List UInt8×Bool,to:=fun(v:(Unit)×((List UInt8×Bool×Unit)×Unit)×(Int×Unit))=>(v.2.2.1,v.2.1.1.1,v.2.1.1.2.1),of:=fun x=>((),((x.2.1,(x.2.2,())),()),(x.1,()))}
def qhL:=quW DOps.ev
def q2K (o:DOps):qmV.In→Option qmV.T:=fun v=>quW o v.2.1.1.1 v.2.1.1.2.1 v.2.2.1
def q2L:DSpec:=qaf qmV Tryz.f48 (q2K DOps.ev)
theorem q4p:DH Tryz.prog 48 q2L:=qad (d:=qmV) (Fo:=q2K) tl0 [] [] [] qao (by kernel_rfl) ⟨fun o v=>by kernel_rfl⟩ Tryz.func48 Tryz.call48
def qpc (o:DOps)(l:List Int):Option (List UInt8) :=
 o.fix (((qal,()),(),l,(l.length:Int),(0:Int),())) fun r1 ((z2,_),_,z3,n4,n5,_)=>bif decide (n5<n4) then ix o z3 n5 (0:Int) fun n6=>o.letv (wu n6) fun n7=>o.bind (qcT n7) fun z8=>rm (z2.length+z8.length) 1 <| o.letv (List.take z2.length z2++List.take z8.length z8) fun z9=>inc o n5 fun n10=>rs (z2.length+z8.length) z9.length <| r1 (((z9,()),(),z3,n4,n10,())) else rs z2.length z2.length <| some z2
def qjd:DFn:={ro:=true,own:=[true],lend:=fun j=>Nat.beq j 0,args:=(.nilsl (.sl 1 .nil)),out:={slots:=(.dd 4 (.row 0 900 (.dd 15 .nil))),blks:=[(900,.row 0)],boxes:=[(4,900,0)]},T:=List (UInt8),to:=fun(v:(List (UInt8)×Unit)×(Unit)×(Unit))=>v.1.1,of:=fun x=>((x,()),(),())}
def qet:=qpc DOps.ev
def qxu (o:DOps):qjd.In→Option qjd.T:=fun v=>qpc o v.2.2.1
def qxv:DSpec:=qaf qjd Tryz.f108 (qxu DOps.ev)
theorem q0v:DH Tryz.prog 108 qxv:=qad (d:=qjd) (Fo:=qxu) tl0 [(2,{slots:=(.row 0 900 (.dd 6 (.sl 1 (.int .i64 (.int .i64 (.dd 10 .nil)))))),blks:=[(900,.row 0)],boxes:=[(0,900,0)]})] [] [] qao (by kernel_rfl) ⟨fun o v=>by kernel_rfl⟩ Tryz.func108 Tryz.call108
def qeu (o:DOps)(s:SiteT):Option (Int) :=
 o.fix (((),((s,()),()),(0:Int),(s.groups.length:Int),(0:Int),())) fun r1 (_,((x2,_),_),n3,n4,n5,_)=>bif decide (n5<n4) then o.fix (((),((x2,()),()),n3,n5,n4,n5,(x2.groups.length:Int),(0:Int),())) fun r6 (_,((x7,_),_),n8,n9,n10,n11,n12,n13,_)=>bif decide (n13<n12) then o.bind (qft x7 n9 n13) fun b15=>bif b15 then o.bind (qeb x7 n9 n13) fun n17=>o.letv (max n8 n17) fun n18=>inc o n13 fun n19=>r6 (((),((x7,()),()),n18,n9,n10,n11,n12,n19,())) else inc o n13 fun n16=>r6 (((),((x7,()),()),n8,n9,n10,n11,n12,n16,())) else inc o n11 fun n14=>r1 (((),((x7,()),()),n8,n10,n14,())) else some n3
def qcp:DFn:={ro:=true,args:=(.agg (.seg 25 .nil) .nil),out:={slots:=(.dd 2 (.int .i64 (.dd 28 .nil)))},T:=Int,to:=fun(v:(Unit)×(Unit)×(Int×Unit))=>v.2.2.1,of:=fun x=>((),(),(x,()))}
def qbY:=qeu DOps.ev
def qje (o:DOps):qcp.In→Option qcp.T:=fun v=>qeu o v.2.2.1.1
def qjf:DSpec:=qaf qcp Tryz.f165 (qje DOps.ev)
theorem qpd:DH Tryz.prog 165 qjf:=qad (d:=qcp) (Fo:=qje) tl0 [(3,{slots:=(.dead (.ptr 1000 0 (.dead (.int .i64 (.dd 4 (.int .i64 (.int .i64 (.dd 21 .nil)))))))),blks:=[(1000,.cells (.seg 25 .nil))]}),(6,{slots:=(.dead (.ptr 1000 0 (.dead (.int .i64 (.int .i64 (.dd 3 (.int .i64 (.int .i64 (.dd 4 (.int .i64 (.int .i64 (.dd 15 .nil)))))))))))),blks:=[(1000,.cells (.seg 25 .nil))]})] [] [] qao (by kernel_rfl) ⟨fun o v=>by kernel_rfl⟩ Tryz.func165 Tryz.call165
def qbt (o:DOps)(m:Msg):Option (List UInt8×Int) :=
 bif decide ((m.body.length:Int) > 512) then some ((qal,(3:Int))) else o.letv (wu (↑m.seq.toNat:Int)) fun n1=>o.bind (qwB n1 (4:Int)) fun(z2,n3)=>o.join (fun J4=>sm o [req (decide ((1+z2.length)*1≤140737488355328)) <| o.letv (UInt8.ofNat (↑m.kind.toNat:Int).toNat::List.append._f [] PUnit.unit (List.take z2.length z2)) fun z5=>req (decide ((1+z2.length+m.body.length)*1≤140737488355328)) <| o.letv (List.take (1+z2.length) z5++m.body) fun z6=>rs (1+z2.length+m.body.length) z6.length <| J4 (((z6,()),(),()))] (.n (.n (.l 0) (.n (.l 0) (.l 0))) (.n (.n (.l 0) (.l 0)) (.l 0)))) fun((z17,_),_,_)=>o.bind (q20 (List.take z17.length z17)) fun n18=>o.letv (wu n18) fun n19=>o.bind (qwB n19 (4:Int)) fun(z20,n21)=>rm (z17.length+z20.length) 1 <| o.letv (List.take z17.length z17++List.take z20.length z20) fun z22=>rs (z17.length+z20.length) z22.length <| some ((z22,(0:Int)))
def qde:DFn:={ro:=true,args:=(.agg (.seg 8 .nil) .nil),out:={slots:=(.dd 2 (.row 0 902 (.int .i64 (.dd 34 .nil)))),blks:=[(902,.row 0)],boxes:=[(2,902,0)]},T:=List (UInt8)×Int,to:=fun(v:(List (UInt8)×Unit)×(Unit)×(Int×Unit))=>(v.1.1,v.2.2.1),of:=fun x=>((x.1,()),(),(x.2,()))}
def qhM:=qbt DOps.ev
def qlY (o:DOps):qde.In→Option qde.T:=fun v=>qbt o v.2.2.1.1
def qlZ:DSpec:=qaf qde Tryz.f103 (qlY DOps.ev)
theorem qqV (m:Msg):qbt DOps.std m=qbt DOps.ev m:=by unfold qbt;simp (disch:=first|rfl|(simp only[qaD];exact req5 _ _ _ _ _ _)|(simp only[mks];first|exact qaC _ _ _|exact qc1 _ _ _ _|exact qc2 _ _ _ _|exact qc3 _ _ _ _|exact qc4 _ _ _ _|exact qc5 _ _ _ _)) only[sm_l,sm_n,qdt,qdu,qhv,qaw,qbj];kernel_rfl
theorem qqW:DH Tryz.prog 103 qlZ:=qad (d:=qde) (Fo:=qlY) tl0 [] [(4,{slots:=(.dd 6 (.row 0 906 (.dd 31 .nil))),blks:=[(906,.row 0)],boxes:=[(6,906,0)]})] [] qao (funext fun v=>qqV _) ⟨fun o v=>by kernel_rfl⟩ Tryz.func103 Tryz.call103
def qkK (o:DOps)(b:List UInt8):Option (Int×Int×Int×List UInt8) :=
 o.letv (wi ((b.length:Int)-4)) fun n1=>bif bif decide (n1<5) then true else decide (n1 > 517) then some (((8:Int),(0:Int),(0:Int),qal)) else req (decide ((5:Int)≤b.length)) <| o.bind (qw7 (List.drop (Int.toNat (1:Int)) (List.take (Int.toNat (5:Int)) b))) fun(n2,n3)=>req (decide (0≤n1)) <| req (decide (n1≤b.length)) <| o.bind (qw7 (List.drop n1.toNat b)) fun(n4,n5)=>req (decide (0≤n1)) <| req (decide (n1≤b.length)) <| o.bind (q20 (List.take n1.toNat b)) fun n6=>o.letv (wu n6) fun n7=>bif n7 != n4 then some (((8:Int),(0:Int),(0:Int),qal)) else req (decide ((0:Int)<b.length)) <| o.letv (b.getD (Int.toNat (0:Int)) (0:UInt8)) fun x8=>o.letv (wq n2) fun n9=>req (decide (5≤n1)) <| req (decide (n1≤b.length)) <| o.bind (qcu (List.drop (Int.toNat (5:Int)) (List.take n1.toNat b))) fun z10=>rs z10.length z10.length <| some (((0:Int),(↑x8.toNat:Int),n9,z10))
def qgt:DFn:={ro:=true,args:=(.sl 0 .nil),out:={slots:=(.dd 2 (.ptr 1000 0 (.int .i64 (.dd 46 .nil)))),blks:=[(1000,.cells (.int .u8 (.int .u32 (.row 0 950 .nil)))),(950,.row 0)],boxes:=[(1000202,950,0)]},T:=Int×Int×Int×List (UInt8),to:=fun(v:(List (UInt8)×Unit)×((Int×Int×Unit)×Unit)×(Int×Unit))=>(v.2.2.1,v.2.1.1.1,v.2.1.1.2.1,v.1.1),of:=fun x=>((x.2.2.2,()),((x.2.1,(x.2.2.1,())),()),(x.1,()))}
def qpe:=qkK DOps.ev
def qsp (o:DOps):qgt.In→Option qgt.T:=fun v=>qkK o v.2.2.1
def qsq:DSpec:=qaf qgt Tryz.f207 (qsp DOps.ev)
theorem qxw:DH Tryz.prog 207 qsq:=qad (d:=qgt) (Fo:=qsp) tl0 [] [] [] qao (by kernel_rfl) ⟨fun o v=>by kernel_rfl⟩ Tryz.func207 Tryz.call207
end
end Go.Proofs.YtcdppfnjidlknaaGreatDoor
