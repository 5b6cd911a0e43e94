import Derived.Test.YtcdppfnjidlknaaGreatDoorYaw
set_option linter.unusedVariables false
set_option linter.unusedSimpArgs false
namespace Go.Proofs.YtcdppfnjidlknaaGreatDoor
open Go Go.Eng Go.Proofs
set_option maxRecDepth 8000
noncomputable section
def q0N (o:DOps)(x:Int)(from0:Int)(to:Int):Option (Bool) :=
 some (bif decide (x≥from0) then decide (x≤to) else false)
def qvd:DFn:={ro:=true,args:=(.int .i64 (.int .i64 (.int .i64 .nil))),out:={slots:=(.dd 6 (.bool (.dd 8 .nil)))},T:=Bool,to:=fun(v:(Unit)×(Unit)×(Bool×Unit))=>v.2.2.1,of:=fun x=>((),(),(x,()))}
def qcv:=q0N DOps.ev
def q7o (o:DOps):qvd.In→Option qvd.T:=fun v=>q0N o v.2.2.1 v.2.2.2.1 v.2.2.2.2.1
def q7p:DSpec:=qae qvd Tryz.f51 (q7o DOps.ev)
theorem q7q:DH Tryz.prog 51 q7p:=qad (d:=qvd) (Fo:=q7o) ([]:DT) [] [] [] (trivial:DTok Tryz.prog []) (by kernel_rfl) ⟨fun o v=>by kernel_rfl⟩ Tryz.func51 Tryz.call51
def qve (o:DOps)(i:Int):Option (Int) :=
 bif bif decide (i<0) then true else decide (i > 31) then some ((0:Int)) else req (decide (0≤i)) <| o.letv (wq ((1:Int)*2 ^ min i.toNat IntKind.u32.bits)) fun n1=>some n1
def qnm:DFn:={ro:=true,args:=(.int .i64 .nil),out:={slots:=(.dd 2 (.int .u32 (.dd 8 .nil)))},T:=Int,to:=fun(v:(Unit)×(Unit)×(Int×Unit))=>v.2.2.1,of:=fun x=>((),(),(x,()))}
def qoJ:=qve DOps.ev
def q3l (o:DOps):qnm.In→Option qnm.T:=fun v=>qve o v.2.2.1
def q3m:DSpec:=qae qnm Tryz.f171 (q3l DOps.ev)
theorem q4Z:DH Tryz.prog 171 q3m:=qad (d:=qnm) (Fo:=q3l) ([]:DT) [] [] [] (trivial:DTok Tryz.prog []) (by kernel_rfl) ⟨fun o v=>by kernel_rfl⟩ Tryz.func171 Tryz.call171
def tab0:ByteArray:={data:=(([(0:UInt8),(1:UInt8),(1:UInt8),(2:UInt8),(1:UInt8),(2:UInt8),(2:UInt8),(3:UInt8),(1:UInt8),(2:UInt8),(2:UInt8),(3:UInt8),(2:UInt8),(3:UInt8),(3:UInt8),(4:UInt8),(1:UInt8),(2:UInt8),(2:UInt8),(3:UInt8),(2:UInt8),(3:UInt8),(3:UInt8),(4:UInt8),(2:UInt8),(3:UInt8),(3:UInt8),(4:UInt8),(3:UInt8),(4:UInt8),(4:UInt8),(5:UInt8),(1:UInt8),(2:UInt8),(2:UInt8),(3:UInt8),(2:UInt8),(3:UInt8),(3:UInt8),(4:UInt8),(2:UInt8),(3:UInt8),(3:UInt8),(4:UInt8),(3:UInt8),(4:UInt8),(4:UInt8),(5:UInt8),(2:UInt8),(3:UInt8),(3:UInt8),(4:UInt8),(3:UInt8),(4:UInt8),(4:UInt8),(5:UInt8),(3:UInt8),(4:UInt8),(4:UInt8),(5:UInt8),(4:UInt8),(5:UInt8),(5:UInt8),(6:UInt8)].append [(1:UInt8),(2:UInt8),(2:UInt8),(3:UInt8),(2:UInt8),(3:UInt8),(3:UInt8),(4:UInt8),(2:UInt8),(3:UInt8),(3:UInt8),(4:UInt8),(3:UInt8),(4:UInt8),(4:UInt8),(5:UInt8),(2:UInt8),(3:UInt8),(3:UInt8),(4:UInt8),(3:UInt8),(4:UInt8),(4:UInt8),(5:UInt8),(3:UInt8),(4:UInt8),(4:UInt8),(5:UInt8),(4:UInt8),(5:UInt8),(5:UInt8),(6:UInt8),(2:UInt8),(3:UInt8),(3:UInt8),(4:UInt8),(3:UInt8),(4:UInt8),(4:UInt8),(5:UInt8),(3:UInt8),(4:UInt8),(4:UInt8),(5:UInt8),(4:UInt8),(5:UInt8),(5:UInt8),(6:UInt8),(3:UInt8),(4:UInt8),(4:UInt8),(5:UInt8),(4:UInt8),(5:UInt8),(5:UInt8),(6:UInt8),(4:UInt8),(5:UInt8),(5:UInt8),(6:UInt8),(5:UInt8),(6:UInt8),(6:UInt8),(7:UInt8)]).append ([(1:UInt8),(2:UInt8),(2:UInt8),(3:UInt8),(2:UInt8),(3:UInt8),(3:UInt8),(4:UInt8),(2:UInt8),(3:UInt8),(3:UInt8),(4:UInt8),(3:UInt8),(4:UInt8),(4:UInt8),(5:UInt8),(2:UInt8),(3:UInt8),(3:UInt8),(4:UInt8),(3:UInt8),(4:UInt8),(4:UInt8),(5:UInt8),(3:UInt8),(4:UInt8),(4:UInt8),(5:UInt8),(4:UInt8),(5:UInt8),(5:UInt8),(6:UInt8),(2:UInt8),(3:UInt8),(3:UInt8),(4:UInt8),(3:UInt8),(4:UInt8),(4:UInt8),(5:UInt8),(3:UInt8),(4:UInt8),(4:UInt8),(5:UInt8),(4:UInt8),(5:UInt8),(5:UInt8),(6:UInt8),(3:UInt8),(4:UInt8),(4:UInt8),(5:UInt8),(4:UInt8),(5:UInt8),(5:UInt8),(6:UInt8),(4:UInt8),(5:UInt8),(5:UInt8),(6:UInt8),(5:UInt8),(6:UInt8),(6:UInt8),(7:UInt8)].append [(2:UInt8),(3:UInt8),(3:UInt8),(4:UInt8),(3:UInt8),(4:UInt8),(4:UInt8),(5:UInt8),(3:UInt8),(4:UInt8),(4:UInt8),(5:UInt8),(4:UInt8),(5:UInt8),(5:UInt8),(6:UInt8),(3:UInt8),(4:UInt8),(4:UInt8),(5:UInt8),(4:UInt8),(5:UInt8),(5:UInt8),(6:UInt8),(4:UInt8),(5:UInt8),(5:UInt8),(6:UInt8),(5:UInt8),(6:UInt8),(6:UInt8),(7:UInt8),(3:UInt8),(4:UInt8),(4:UInt8),(5:UInt8),(4:UInt8),(5:UInt8),(5:UInt8),(6:UInt8),(4:UInt8),(5:UInt8),(5:UInt8),(6:UInt8),(5:UInt8),(6:UInt8),(6:UInt8),(7:UInt8),(4:UInt8),(5:UInt8),(5:UInt8),(6:UInt8),(5:UInt8),(6:UInt8),(6:UInt8),(7:UInt8),(5:UInt8),(6:UInt8),(6:UInt8),(7:UInt8),(6:UInt8),(7:UInt8),(7:UInt8),(8:UInt8)])).toArray:ByteArray}
def qcr (o:DOps)(x:Int):Option (Int) :=
 o.letv (x.fdiv ((2:Int) ^ min (Int.toNat (24:Int)) IntKind.u32.bits)) fun n1=>req (decide (0≤n1)) <| req (decide (n1<(↑tab0.size:Int))) <| o.letv (qwM tab0 n1) fun n2=>o.letv (x.fdiv ((2:Int) ^ min (Int.toNat (16:Int)) IntKind.u32.bits)) fun n3=>o.letv (bits BinOp.and IntKind.u32 n3 (255:Int)) fun n4=>req (decide (0≤n4)) <| req (decide (n4<(↑tab0.size:Int))) <| o.letv (qwM tab0 n4) fun n5=>o.letv (wb (n2+n5)) fun n6=>o.letv (x.fdiv ((2:Int) ^ min (Int.toNat (8:Int)) IntKind.u32.bits)) fun n7=>o.letv (bits BinOp.and IntKind.u32 n7 (255:Int)) fun n8=>req (decide (0≤n8)) <| req (decide (n8<(↑tab0.size:Int))) <| o.letv (qwM tab0 n8) fun n9=>o.letv (wb (n6+n9)) fun n10=>o.letv (bits BinOp.and IntKind.u32 x (255:Int)) fun n11=>req (decide (0≤n11)) <| req (decide (n11<(↑tab0.size:Int))) <| o.letv (qwM tab0 n11) fun n12=>o.letv (wb (n10+n12)) fun n13=>o.letv (wi n13) fun n14=>some n14
def qbl:DFn:={ro:=true,args:=(.int .u32 .nil),out:={slots:=(.dd 2 (.int .i64 (.dd 18 .nil)))},T:=Int,to:=fun(v:(Unit)×(Unit)×(Int×Unit))=>v.2.2.1,of:=fun x=>((),(),(x,()))}
def qcP:=qcr DOps.ev
def qfh (o:DOps):qbl.In→Option qbl.T:=fun v=>qcr o v.2.2.1
def qfi:DSpec:=qae qbl Tryz.f173 (qfh DOps.ev)
theorem qje:DH Tryz.prog 173 qfi:=qad (d:=qbl) (Fo:=qfh) ([]:DT) [] [] [] (trivial:DTok Tryz.prog []) (by kernel_rfl) ⟨fun o v=>by kernel_rfl⟩ Tryz.func173 Tryz.call173
def qia (o:DOps)(d:List UInt8):Option (Int) :=
 req ((!!bif decide ((d.length:Int)<64) then true else decide ((d.length:Int) > 4096))||decide ((64:Int)≠(0:Int))) <| o.letv ((d.length:Int).tmod (64:Int)) fun n1=>bif bif bif decide ((d.length:Int)<64) then true else decide ((d.length:Int) > 4096) then true else n1 != 0 then some ((180:Int)) else some ((0:Int))
def qep:DFn:={ro:=true,args:=(.agg (.sl 0 .nil) .nil),out:={slots:=(.dd 2 (.int .i64 (.dd 15 .nil)))},T:=Int,to:=fun(v:(Unit)×(Unit)×(Int×Unit))=>v.2.2.1,of:=fun x=>((),(),(x,()))}
def qdO:=qia DOps.ev
def qoK (o:DOps):qep.In→Option qep.T:=fun v=>qia o v.2.2.1.1
def qoL:DSpec:=qae qep Tryz.f59 (qoK DOps.ev)
theorem qvf:DH Tryz.prog 59 qoL:=qad (d:=qep) (Fo:=qoK) ([]:DT) [] [] [] (trivial:DTok Tryz.prog []) (by kernel_rfl) ⟨fun o v=>by kernel_rfl⟩ Tryz.func59 Tryz.call59
def qvg (o:DOps)(d:List UInt8)(n:Int):Option (List UInt8) :=
 o.letv (wi (n*64)) fun n1=>req (decide (0≤n1)) <| req (decide (n1≤d.length)) <| req (decide ((64:Int)≤(↑(List.drop n1.toNat d).length:Int))) <| some (List.take (Int.toNat (64:Int)) (List.drop n1.toNat d))
def qnn:DFn:={ro:=false,args:=(.agg (.sl 0 .nil) (.int .i64 .nil)),out:={slots:=(.dd 4 (.sl 0 (.dd 6 .nil))),fz:=true},T:=List UInt8,to:=fun(v:(Unit)×(Unit)×(List UInt8×Unit))=>v.2.2.1,of:=fun x=>((),(),(x,()))}
def q0O:=qvg DOps.ev
def q3n (o:DOps):qnn.In→Option qnn.T:=fun v=>qvg o v.2.2.1.1 v.2.2.2.1
def q3o:DSpec:=qae qnn Tryz.f74 (q3n DOps.ev)
theorem q5a:DH Tryz.prog 74 q3o:=qad (d:=qnn) (Fo:=q3n) ([]:DT) [] [] [] (trivial:DTok Tryz.prog []) (by kernel_rfl) ⟨fun o v=>by kernel_rfl⟩ Tryz.func74 Tryz.call74
def qbQ (o:DOps)(b:List UInt8):Option (List UInt8) :=
 bif b.isEmpty then sm o [some qam,req (decide ((0+b.length)*1≤140737488355328)) <| o.letv ([]++b) fun z2=>rs (0+b.length) z2.length <| some z2] (.n (.l 0) (.l 1)) else req (decide ((0+b.length)*1≤140737488355328)) <| o.letv ([]++b) fun z1=>rs (0+b.length) z1.length <| some z1
def qeq:DFn:={ro:=true,args:=(.sl 0 .nil),out:={slots:=(.dd 2 (.row 0 902 (.dd 5 .nil))),blks:=[(902,.row 0)],boxes:=[(2,902,0)]},T:=List (UInt8),to:=fun(v:(List (UInt8)×Unit)×(Unit)×(Unit))=>v.1.1,of:=fun x=>((x,()),(),())}
def qc6:=qbQ DOps.ev
def qoM (o:DOps):qeq.In→Option qeq.T:=fun v=>qbQ o v.2.2.1
def qoN:DSpec:=qae qeq Tryz.f73 (qoM DOps.ev)
theorem qvh (b:List UInt8):qbQ DOps.std b=qbQ DOps.ev b:=by cases b with|nil=>(unfold qbQ;simp only[List.isEmpty_nil,cond_true,sm_l,sm_n,qdA,qdB];exact qaz (by kernel_rfl))|cons x l=>kernel_rfl
theorem qvi:DH Tryz.prog 73 qoN:=qad (d:=qeq) (Fo:=qoM) ([]:DT) [] [] [] (trivial:DTok Tryz.prog []) (funext fun v=>qvh _) ⟨fun o v=>by kernel_rfl⟩ Tryz.func73 Tryz.call73
def q0P (o:DOps)(b:List UInt8):Option (Int×Int) :=
 bif bif decide ((b.length:Int)<1) then true else decide ((b.length:Int) > 8) then some (((0:Int),(8:Int))) else o.fix (((),(),(0:Int),b,(b.length:Int),(0:Int),())) fun r1 (_,_,n2,z3,n4,n5,_)=>bif decide (n5<n4) then ix o z3 n5 (0:UInt8) fun x6=>o.letv (wu (↑x6.toNat:Int)) fun n7=>o.letv (wi ((8:Int)*n5)) fun n8=>req (decide (0≤n8)) <| o.letv (wu (n7*2 ^ min n8.toNat IntKind.u64.bits)) fun n9=>o.letv (bits BinOp.or IntKind.u64 n2 n9) fun n10=>inc o n5 fun n11=>r1 (((),(),n10,z3,n4,n11,())) else some ((n2,(0:Int)))
def qvj:DFn:={ro:=true,args:=(.sl 0 .nil),out:={slots:=(.dd 2 (.int .u64 (.int .i64 (.dd 26 .nil))))},T:=Int×Int,to:=fun(v:(Unit)×(Unit)×(Int×Int×Unit))=>(v.2.2.1,v.2.2.2.1),of:=fun x=>((),(),(x.1,(x.2,())))}
def qxs:=q0P DOps.ev
def q7r (o:DOps):qvj.In→Option qvj.T:=fun v=>q0P o v.2.2.1
def q7s:DSpec:=qae qvj Tryz.f211 (q7r DOps.ev)
theorem q7t:DH Tryz.prog 211 q7s:=qad (d:=qvj) (Fo:=q7r) ([]:DT) [(4,{slots:=(.dd 2 (.int .u64 (.dd 11 (.sl 0 (.int .i64 (.int .i64 (.dd 13 .nil)))))))})] [] [] (trivial:DTok Tryz.prog []) (by kernel_rfl) ⟨fun o v=>by kernel_rfl⟩ Tryz.func211 Tryz.call211
def qvk (o:DOps)(b:List UInt8):Option (Int×Int×Int) :=
 o.fix (((),(),(0:Int),b,(b.length:Int),(0:Int),())) fun r1 (_,_,n2,z3,n4,n5,_)=>bif decide (n5<n4) then ix o z3 n5 (0:UInt8) fun x6=>bif bif n5==9 then decide ((↑x6.toNat:Int) > 1) else false then some (((0:Int),(0:Int),(8:Int))) else o.letv (bits BinOp.and IntKind.u8 (↑x6.toNat:Int) (127:Int)) fun n7=>o.letv (wu n7) fun n8=>o.letv (wi ((7:Int)*n5)) fun n9=>req (decide (0≤n9)) <| o.letv (wu (n8*2 ^ min n9.toNat IntKind.u64.bits)) fun n10=>o.letv (bits BinOp.or IntKind.u64 n2 n10) fun n11=>bif decide ((↑x6.toNat:Int)<128) then bif bif (↑x6.toNat:Int)==0 then decide (n5 > 0) else false then some (((0:Int),(0:Int),(8:Int))) else inc o n5 fun n13=>some ((n11,n13,(0:Int))) else inc o n5 fun n12=>r1 (((),(),n11,z3,n4,n12,())) else some (((0:Int),(0:Int),(8:Int)))
def qno:DFn:={ro:=true,args:=(.sl 0 .nil),out:={slots:=(.dd 2 (.int .u64 (.int .i64 (.int .i64 (.dd 36 .nil)))))},T:=Int×Int×Int,to:=fun(v:(Unit)×(Unit)×(Int×Int×Int×Unit))=>(v.2.2.1,v.2.2.2.1,v.2.2.2.2.1),of:=fun x=>((),(),(x.1,(x.2.1,(x.2.2,()))))}
def qkI:=qvk DOps.ev
def q3p (o:DOps):qno.In→Option qno.T:=fun v=>qvk o v.2.2.1
def q3q:DSpec:=qae qno Tryz.f105 (q3p DOps.ev)
theorem q5b:DH Tryz.prog 105 q3q:=qad (d:=qno) (Fo:=q3p) ([]:DT) [(3,{slots:=(.dd 5 (.int .u64 (.dd 2 (.sl 0 (.int .i64 (.int .i64 (.dd 30 .nil)))))))})] [] [] (trivial:DTok Tryz.prog []) (by kernel_rfl) ⟨fun o v=>by kernel_rfl⟩ Tryz.func105 Tryz.call105
def qoO (o:DOps)(n:Int):Option (List UInt8) :=
 o.fix (((qam,()),(),n,())) fun r1 ((z2,_),_,n3,_)=>bif decide (n3 > 127) then o.letv (wb n3) fun n6=>o.letv (bits BinOp.or IntKind.u8 n6 (128:Int)) fun n7=>rm (z2.length+1) 1 <| o.letv (List.take z2.length z2++[UInt8.ofNat n7.toNat]) fun z8=>o.letv (n3.fdiv ((2:Int) ^ min (Int.toNat (7:Int)) IntKind.u64.bits)) fun n9=>rs (z2.length+1) z8.length <| r1 (((z8,()),(),n9,())) else o.letv (wb n3) fun n4=>rm (z2.length+1) 1 <| o.letv (List.take z2.length z2++[UInt8.ofNat n4.toNat]) fun z5=>rs (z2.length+1) z5.length <| some z5
def qjf:DFn:={ro:=true,args:=(.int .u64 .nil),out:={slots:=(.dd 2 (.row 0 902 (.dd 16 .nil))),blks:=[(902,.row 0)],boxes:=[(2,902,0)]},T:=List (UInt8),to:=fun(v:(List (UInt8)×Unit)×(Unit)×(Unit))=>v.1.1,of:=fun x=>((x,()),(),())}
def qdk:=qoO DOps.ev
def qxt (o:DOps):qjf.In→Option qjf.T:=fun v=>qoO o v.2.2.1
def qxu:DSpec:=qae qjf Tryz.f170 (qxt DOps.ev)
theorem q0Q:DH Tryz.prog 170 qxu:=qad (d:=qjf) (Fo:=qxt) ([]:DT) [(2,{slots:=(.int .u64 (.dd 2 (.row 0 903 (.dd 15 .nil)))),blks:=[(903,.row 0)],boxes:=[(3,903,0)]})] [] [] (trivial:DTok Tryz.prog []) (by kernel_rfl) ⟨fun o v=>by kernel_rfl⟩ Tryz.func170 Tryz.call170
def qib (o:DOps)(a:List UInt8)(b:List UInt8):Option (Bool) :=
 some (a.toArray.toList==b.toArray.toList)
def qer:DFn:={ro:=true,args:=(.sl 0 (.sl 0 .nil)),out:={slots:=(.dd 4 (.bool (.dd 5 .nil)))},T:=Bool,to:=fun(v:(Unit)×(Unit)×(Bool×Unit))=>v.2.2.1,of:=fun x=>((),(),(x,()))}
def qdP:=qib DOps.ev
def qoP (o:DOps):qer.In→Option qer.T:=fun v=>qib o v.2.2.1 v.2.2.2.1
def qoQ:DSpec:=qae qer Tryz.f50 (qoP DOps.ev)
theorem qvl:DH Tryz.prog 50 qoQ:=qad (d:=qer) (Fo:=qoP) ([]:DT) [] [] [] (trivial:DTok Tryz.prog []) (by kernel_rfl) ⟨fun o v=>by kernel_rfl⟩ Tryz.func50 Tryz.call50
def qkJ (o:DOps)(n:Int):Option (Bool) :=
 some (bif decide (n≥0) then decide (n≤65535) else false)
def qgt:DFn:={ro:=true,args:=(.int .i64 .nil),out:={slots:=(.dd 2 (.bool (.dd 6 .nil)))},T:=Bool,to:=fun(v:(Unit)×(Unit)×(Bool×Unit))=>v.2.2.1,of:=fun x=>((),(),(x,()))}
def qjg:=qkJ DOps.ev
def qsl (o:DOps):qgt.In→Option qgt.T:=fun v=>qkJ o v.2.2.1
def qsm:DSpec:=qae qgt Tryz.f106 (qsl DOps.ev)
theorem qxv:DH Tryz.prog 106 qsm:=qad (d:=qgt) (Fo:=qsl) ([]:DT) [] [] [] (trivial:DTok Tryz.prog []) (by kernel_rfl) ⟨fun o v=>by kernel_rfl⟩ Tryz.func106 Tryz.call106
def q0R (o:DOps)(n:Int)(width:Int):Option (List UInt8×Int) :=
 o.letv (wi ((8:Int)*width)) fun n1=>req (!decide (width<8)||((!!bif decide (width<1) then true else decide (width > 8))||decide (0≤n1))) <| o.letv (n.fdiv ((2:Int) ^ min n1.toNat IntKind.u64.bits)) fun n2=>bif bif bif decide (width<1) then true else decide (width > 8) then true else bif decide (width<8) then n2 != 0 else false then some ((qam,(2:Int))) else req (decide (0≤width∧width≤width∧width*(↑1:Int)≤140737488355328)) <| rs width.toNat (List.replicate width.toNat (UInt8.ofNat 0)).length <| o.fix (((List.replicate width.toNat (UInt8.ofNat 0),()),(),n,(↑width.toNat:Int),(0:Int),())) fun r3 ((z4,_),_,n5,n6,n7,_)=>bif decide (n7<n6) then o.letv (wi ((8:Int)*n7)) fun n8=>req (decide (0≤n8)) <| o.letv (n5.fdiv ((2:Int) ^ min n8.toNat IntKind.u64.bits)) fun n9=>o.letv (wb n9) fun n10=>rb n7 z4.length <| req (decide (0+n7.toNat<z4.length)) <| o.letv (z4.set (0+n7.toNat) (UInt8.ofNat n10.toNat)) fun z11=>inc o n7 fun n12=>rs z4.length z11.length <| r3 (((z11,()),(),n5,n6,n12,())) else rs z4.length z4.length <| some ((z4,(0:Int)))
def qvm:DFn:={ro:=true,args:=(.int .u64 (.int .i64 .nil)),out:={slots:=(.dd 4 (.row 0 904 (.int .i64 (.dd 36 .nil)))),blks:=[(904,.row 0)],boxes:=[(4,904,0)]},T:=List (UInt8)×Int,to:=fun(v:(List (UInt8)×Unit)×(Unit)×(Int×Unit))=>(v.1.1,v.2.2.1),of:=fun x=>((x.1,()),(),(x.2,()))}
def qxw:=q0R DOps.ev
def q7u (o:DOps):qvm.In→Option qvm.T:=fun v=>q0R o v.2.2.1 v.2.2.2.1
def q7v:DSpec:=qae qvm Tryz.f167 (q7u DOps.ev)
theorem q7w:DH Tryz.prog 167 q7v:=qad (d:=qvm) (Fo:=q7u) ([]:DT) [(5,{slots:=(.int .u64 (.dd 5 (.row 0 4001 (.dd 21 (.int .i64 (.int .i64 (.dd 12 .nil))))))),blks:=[(4001,.row 0)]})] [] [] (trivial:DTok Tryz.prog []) (by kernel_rfl) ⟨fun o v=>by kernel_rfl⟩ Tryz.func167 Tryz.call167
def qkK (o:DOps)(s:SiteT)(a:Int)(b:Int):Option (Bool) :=
 ix o s.apart a (0:UInt32) fun x1=>req (decide (0≤b)) <| o.letv ((↑x1.toNat:Int).fdiv ((2:Int) ^ min b.toNat IntKind.u32.bits)) fun n2=>o.letv (bits BinOp.and IntKind.u32 n2 (1:Int)) fun n3=>some (n3==1)
def qgu:DFn:={ro:=true,args:=(.agg (.seg 25 .nil) (.int .i64 (.int .i64 .nil))),out:={slots:=(.dd 6 (.bool (.dd 9 .nil)))},T:=Bool,to:=fun(v:(Unit)×(Unit)×(Bool×Unit))=>v.2.2.1,of:=fun x=>((),(),(x,()))}
def qfD:=qkK DOps.ev
def qsn (o:DOps):qgu.In→Option qgu.T:=fun v=>qkK o v.2.2.1.1 v.2.2.2.1 v.2.2.2.2.1
def qso:DSpec:=qae qgu Tryz.f199 (qsn DOps.ev)
theorem qxx:DH Tryz.prog 199 qso:=qad (d:=qgu) (Fo:=qsn) ([]:DT) [] [] [] (trivial:DTok Tryz.prog []) (by kernel_rfl) ⟨fun o v=>by kernel_rfl⟩ Tryz.func199 Tryz.call199
def qfE (o:DOps)(s:SiteT)(a:Int)(b:Int):Option (Int) :=
 ix o s.between a (dflt 7) fun z1=>ix o z1 b (0:Int) fun n2=>some n2
def qdl:DFn:={ro:=true,args:=(.agg (.seg 25 .nil) (.int .i64 (.int .i64 .nil))),out:={slots:=(.dd 6 (.int .i64 (.dd 8 .nil)))},T:=Int,to:=fun(v:(Unit)×(Unit)×(Int×Unit))=>v.2.2.1,of:=fun x=>((),(),(x,()))}
def qes:=qfE DOps.ev
def qmg (o:DOps):qdl.In→Option qdl.T:=fun v=>qfE o v.2.2.1.1 v.2.2.2.1 v.2.2.2.2.1
def qmh:DSpec:=qae qdl Tryz.f203 (qmg DOps.ev)
theorem qrv:DH Tryz.prog 203 qmh:=qad (d:=qdl) (Fo:=qmg) ([]:DT) [] [] [] (trivial:DTok Tryz.prog []) (by kernel_rfl) ⟨fun o v=>by kernel_rfl⟩ Tryz.func203 Tryz.call203
def qfF (o:DOps)(kept:Int):Option (Int×Int×Bool) :=
 bif bif kept==2 then true else kept==3 then some (((2:Int),(0:Int),false)) else some (((1:Int),(0:Int),false))
def qdm:DFn:={ro:=true,args:=(.int .u8 .nil),out:={slots:=(.dd 2 (.ptr 1000 0 (.dd 10 .nil))),blks:=[(1000,.cells (.int .u8 (.int .i64 (.bool .nil))))]},T:=Int×Int×Bool,to:=fun(v:(Unit)×((Int×Int×Bool×Unit)×Unit)×(Unit))=>(v.2.1.1.1,v.2.1.1.2.1,v.2.1.1.2.2.1),of:=fun x=>((),((x.1,(x.2.1,(x.2.2,()))),()),())}
def qet:=qfF DOps.ev
def qmi (o:DOps):qdm.In→Option qdm.T:=fun v=>qfF o v.2.2.1
def qmj:DSpec:=qae qdm Tryz.f63 (qmi DOps.ev)
theorem qrw:DH Tryz.prog 63 qmj:=qad (d:=qdm) (Fo:=qmi) ([]:DT) [] [] [] (trivial:DTok Tryz.prog []) (by kernel_rfl) ⟨fun o v=>by kernel_rfl⟩ Tryz.func63 Tryz.call63
def qkL (o:DOps)(l:Bool)(l2:Int)(l3:Int):Option (Int) :=
 bif bif bif decide (l3<0) then true else decide (l3 > 1048576) then true else bif !l then l2 != 0 else false then some ((8:Int)) else some ((0:Int))
def qgv:DFn:={ro:=true,args:=(.agg (.bool (.int .u32 (.int .i64 .nil))) .nil),out:={slots:=(.dd 2 (.int .i64 (.dd 18 .nil)))},T:=Int,to:=fun(v:(Unit)×(Unit)×(Int×Unit))=>v.2.2.1,of:=fun x=>((),(),(x,()))}
def qoR:=qkL DOps.ev
def qsp (o:DOps):qgv.In→Option qgv.T:=fun v=>qkL o v.2.2.1.1 v.2.2.1.2.1 v.2.2.1.2.2.1
def qsq:DSpec:=qae qgv Tryz.f123 (qsp DOps.ev)
theorem qxy:DH Tryz.prog 123 qsq:=qad (d:=qgv) (Fo:=qsp) ([]:DT) [] [] [] (trivial:DTok Tryz.prog []) (by kernel_rfl) ⟨fun o v=>by kernel_rfl⟩ Tryz.func123 Tryz.call123
def qoS (o:DOps)(last:Int):Option (Int×Int) :=
 bif last==4294967295 then some (((0:Int),(2:Int))) else o.letv (wq (last+1)) fun n1=>some ((n1,(0:Int)))
def qjh:DFn:={ro:=true,args:=(.int .u32 .nil),out:={slots:=(.dd 2 (.int .u32 (.int .i64 (.dd 4 .nil))))},T:=Int×Int,to:=fun(v:(Unit)×(Unit)×(Int×Int×Unit))=>(v.2.2.1,v.2.2.2.1),of:=fun x=>((),(),(x.1,(x.2,())))}
def qvn:=qoS DOps.ev
def qxz (o:DOps):qjh.In→Option qjh.T:=fun v=>qoS o v.2.2.1
def qx0:DSpec:=qae qjh Tryz.f99 (qxz DOps.ev)
theorem q0S:DH Tryz.prog 99 qx0:=qad (d:=qjh) (Fo:=qxz) ([]:DT) [] [] [] (trivial:DTok Tryz.prog []) (by kernel_rfl) ⟨fun o v=>by kernel_rfl⟩ Tryz.func99 Tryz.call99
def q0T (o:DOps)(b:List UInt8):Option (Int) :=
 o.fix (((UInt32.ofNat (Int.toNat (0:Int))::UInt32.ofNat (Int.toNat (498536548:Int))::UInt32.ofNat (Int.toNat (997073096:Int))::UInt32.ofNat (Int.toNat (651767980:Int))::UInt32.ofNat (Int.toNat (1994146192:Int))::UInt32.ofNat (Int.toNat (1802195444:Int))::UInt32.ofNat (Int.toNat (1303535960:Int))::UInt32.ofNat (Int.toNat (1342533948:Int))::UInt32.ofNat (Int.toNat (3988292384:Int))::UInt32.ofNat (Int.toNat (4027552580:Int))::UInt32.ofNat (Int.toNat (3604390888:Int))::UInt32.ofNat (Int.toNat (3412177804:Int))::UInt32.ofNat (Int.toNat (2607071920:Int))::UInt32.ofNat (Int.toNat (2262029012:Int))::UInt32.ofNat (Int.toNat (2685067896:Int))::UInt32.ofNat (Int.toNat (3183342108:Int))::nilL2,()),(),(4294967295:Int),b,(b.length:Int),(0:Int),())) fun r1 ((z2,_),_,n3,z4,n5,n6,_)=>bif decide (n6<n5) then ix o z4 n6 (0:UInt8) fun x8=>o.letv (n3.fdiv ((2:Int) ^ min (Int.toNat (4:Int)) IntKind.u32.bits)) fun n9=>o.letv (wq (↑x8.toNat:Int)) fun n10=>o.letv (bits BinOp.xor IntKind.u32 n3 n10) fun n11=>o.letv (bits BinOp.and IntKind.u32 n11 (15:Int)) fun n12=>req (decide (0≤n12)) <| req (decide (n12<(↑16:Int))) <| req (decide (n12.toNat<z2.length)) <| o.letv ((↑(z2.getD n12.toNat (0:UInt32)).toNat:Int)) fun n13=>o.letv (bits BinOp.xor IntKind.u32 n9 n13) fun n14=>o.letv (n14.fdiv ((2:Int) ^ min (Int.toNat (4:Int)) IntKind.u32.bits)) fun n15=>o.letv ((↑x8.toNat:Int).fdiv ((2:Int) ^ min (Int.toNat (4:Int)) IntKind.u8.bits)) fun n16=>o.letv (wq n16) fun n17=>o.letv (bits BinOp.xor IntKind.u32 n14 n17) fun n18=>o.letv (bits BinOp.and IntKind.u32 n18 (15:Int)) fun n19=>req (decide (0≤n19)) <| req (decide (n19<(↑16:Int))) <| req (decide (n19.toNat<z2.length)) <| o.letv ((↑(z2.getD n19.toNat (0:UInt32)).toNat:Int)) fun n20=>o.letv (bits BinOp.xor IntKind.u32 n15 n20) fun n21=>inc o n6 fun n22=>r1 (((z2,()),(),n21,z4,n5,n22,())) else o.letv (bits BinOp.xor IntKind.u32 (4294967295:Int) n3) fun n7=>some n7
def qvo:DFn:={ro:=true,args:=(.sl 0 .nil),out:={slots:=(.dd 2 (.int .u32 (.dd 35 .nil)))},T:=Int,to:=fun(v:(Unit)×(Unit)×(Int×Unit))=>v.2.2.1,of:=fun x=>((),(),(x,()))}
def q3r:=q0T DOps.ev
def q7x (o:DOps):qvo.In→Option qvo.T:=fun v=>q0T o v.2.2.1
def q7y:DSpec:=qae qvo Tryz.f168 (q7x DOps.ev)
theorem q7z:DH Tryz.prog 168 q7y:=qad (d:=qvo) (Fo:=q7x) ([]:DT) [(4,{slots:=(.dd 3 (.ptr 2001 0 (.int .u32 (.dd 3 (.sl 0 (.int .i64 (.int .i64 (.dd 27 .nil)))))))),blks:=[(2001,.row 2)]})] [] [] (trivial:DTok Tryz.prog []) (by kernel_rfl) ⟨fun o v=>by kernel_rfl⟩ Tryz.func168 Tryz.call168
def qic (o:DOps)(b:List UInt8):Option (List UInt8) :=
 req (decide ((0:Int)≤0∧(0:Int)≤b.length∧(b.length:Int)*(↑1:Int)≤140737488355328)) <| o.fix (((qam,()),(),b,(b.length:Int),(0:Int),())) fun r1 ((z2,_),_,z3,n4,n5,_)=>bif decide (n5<n4) then ix o z3 n5 (0:UInt8) fun x6=>bif bif (↑x6.toNat:Int)==125 then true else (↑x6.toNat:Int)==126 then rm (z2.length+1) 1 <| o.letv (List.take z2.length z2++[UInt8.ofNat 125]) fun z9=>o.letv (wb ((↑x6.toNat:Int)-32)) fun n10=>req (decide ((z2.length+1+1)*1≤140737488355328)) <| o.letv (List.take (z2.length+1) z9++[UInt8.ofNat n10.toNat]) fun z11=>inc o n5 fun n12=>rs (z2.length+1+1) z11.length <| r1 (((z11,()),(),z3,n4,n12,())) else rm (z2.length+1) 1 <| o.letv (List.take z2.length z2++[UInt8.ofNat (↑x6.toNat:Int).toNat]) fun z7=>inc o n5 fun n8=>rs (z2.length+1) z7.length <| r1 (((z7,()),(),z3,n4,n8,())) else rs z2.length z2.length <| some z2
def qeu:DFn:={ro:=true,args:=(.sl 0 .nil),out:={slots:=(.dd 2 (.row 0 902 (.dd 29 .nil))),blks:=[(902,.row 0)],boxes:=[(2,902,0)]},T:=List (UInt8),to:=fun(v:(List (UInt8)×Unit)×(Unit)×(Unit))=>v.1.1,of:=fun x=>((x,()),(),())}
def qkM:=qic DOps.ev
def qoT (o:DOps):qeu.In→Option qeu.T:=fun v=>qic o v.2.2.1
def qoU:DSpec:=qae qeu Tryz.f104 (qoT DOps.ev)
theorem qvp:DH Tryz.prog 104 qoU:=qad (d:=qeu) (Fo:=qoT) ([]:DT) [(3,{slots:=(.dd 3 (.row 0 903 (.dd 5 (.sl 0 (.int .i64 (.int .i64 (.dd 20 .nil))))))),blks:=[(903,.row 0)],boxes:=[(3,903,0)]})] [] [] (trivial:DTok Tryz.prog []) (by kernel_rfl) ⟨fun o v=>by kernel_rfl⟩ Tryz.func104 Tryz.call104
def qkN (o:DOps)(b:List UInt8):Option (List UInt8×Int) :=
 req (decide ((0:Int)≤0∧(0:Int)≤b.length∧(b.length:Int)*(↑1:Int)≤140737488355328)) <| o.fix (((qam,()),(),false,b,(b.length:Int),(0:Int),())) fun r1 ((z2,_),_,b3,z4,n5,n6,_)=>bif decide (n6<n5) then ix o z4 n6 (0:UInt8) fun x7=>bif bif bif b3 then (↑x7.toNat:Int) != 93 else false then (↑x7.toNat:Int) != 94 else false then bif bif bif b3 then (↑x7.toNat:Int) != 93 else false then (↑x7.toNat:Int) != 94 else false then some ((qam,(8:Int))) else bif b3 then o.letv (wb ((↑x7.toNat:Int)+32)) fun n17=>rm (z2.length+1) 1 <| o.letv (List.take z2.length z2++[UInt8.ofNat n17.toNat]) fun z18=>inc o n6 fun n19=>rs (z2.length+1) z18.length <| r1 (((z18,()),(),false,z4,n5,n19,())) else bif (↑x7.toNat:Int)==125 then inc o n6 fun n16=>rs z2.length z2.length <| r1 (((z2,()),(),true,z4,n5,n16,())) else rm (z2.length+1) 1 <| o.letv (List.take z2.length z2++[UInt8.ofNat (↑x7.toNat:Int).toNat]) fun z14=>inc o n6 fun n15=>rs (z2.length+1) z14.length <| r1 (((z14,()),(),b3,z4,n5,n15,())) else bif (↑x7.toNat:Int)==126 then some ((qam,(8:Int))) else bif b3 then o.letv (wb ((↑x7.toNat:Int)+32)) fun n11=>rm (z2.length+1) 1 <| o.letv (List.take z2.length z2++[UInt8.ofNat n11.toNat]) fun z12=>inc o n6 fun n13=>rs (z2.length+1) z12.length <| r1 (((z12,()),(),false,z4,n5,n13,())) else bif (↑x7.toNat:Int)==125 then inc o n6 fun n10=>rs z2.length z2.length <| r1 (((z2,()),(),true,z4,n5,n10,())) else rm (z2.length+1) 1 <| o.letv (List.take z2.length z2++[UInt8.ofNat (↑x7.toNat:Int).toNat]) fun z8=>inc o n6 fun n9=>rs (z2.length+1) z8.length <| r1 (((z8,()),(),b3,z4,n5,n9,())) else bif b3 then some ((qam,(8:Int))) else rs z2.length z2.length <| some ((z2,(0:Int)))
def qgw:DFn:={ro:=true,args:=(.sl 0 .nil),out:={slots:=(.dd 2 (.row 0 902 (.int .i64 (.dd 42 .nil)))),blks:=[(902,.row 0)],boxes:=[(2,902,0)]},T:=List (UInt8)×Int,to:=fun(v:(List (UInt8)×Unit)×(Unit)×(Int×Unit))=>(v.1.1,v.2.2.1),of:=fun x=>((x.1,()),(),(x.2,()))}
def qoV:=qkN DOps.ev
def qsr (o:DOps):qgw.In→Option qgw.T:=fun v=>qkN o v.2.2.1
def qss:DSpec:=qae qgw Tryz.f206 (qsr DOps.ev)
theorem qx1:DH Tryz.prog 206 qss:=qad (d:=qgw) (Fo:=qsr) ([]:DT) [(4,{slots:=(.dd 4 (.row 0 904 (.bool (.dd 5 (.sl 0 (.int .i64 (.int .i64 (.dd 32 .nil)))))))),blks:=[(904,.row 0)],boxes:=[(4,904,0)]})] [] [] (trivial:DTok Tryz.prog []) (by kernel_rfl) ⟨fun o v=>by kernel_rfl⟩ Tryz.func206 Tryz.call206
def qba (o:DOps)(s:List UInt8)(c:Int):Option (Int) :=
 o.letv (wi ((s.length:Int)-1)) fun n1=>o.fix (((),(),s,c,n1,())) fun r2 (_,_,z3,n4,n5,_)=>bif decide (n5≥0) then ix o z3 n5 (0:UInt8) fun x6=>bif (↑x6.toNat:Int)==n4 then some n5 else o.letv (wi (n5-1)) fun n7=>r2 (((),(),z3,n4,n7,())) else some ((-1:Int))
def qaF:DFn:={ro:=true,args:=(.sl 0 (.int .u8 .nil)),out:={slots:=(.dd 4 (.int .i64 (.dd 15 .nil)))},T:=Int,to:=fun(v:(Unit)×(Unit)×(Int×Unit))=>v.2.2.1,of:=fun x=>((),(),(x,()))}
def qbf:=qba DOps.ev
def qch (o:DOps):qaF.In→Option qaF.T:=fun v=>qba o v.2.2.1 v.2.2.2.1
def qci:DSpec:=qae qaF Tryz.f179 (qch DOps.ev)
theorem qev:DH Tryz.prog 179 qci:=qad (d:=qaF) (Fo:=qch) ([]:DT) [(2,{slots:=(.sl 0 (.int .u8 (.dd 3 (.int .i64 (.dd 14 .nil)))))})] [] [] (trivial:DTok Tryz.prog []) (by kernel_rfl) ⟨fun o v=>by kernel_rfl⟩ Tryz.func179 Tryz.call179
def qoW (o:DOps):Option (Bool×Bool×Bool) :=
 some ((false,false,true))
def qji:DFn:={ro:=true,args:=.nil,out:={slots:=(.ptr 2001 0 (.dd 2 .nil)),blks:=[(2001,.cells (.nilsl (.bool (.bool (.bool .nil)))))]},T:=Bool×Bool×Bool,to:=fun(v:(Unit)×((Bool×Bool×Bool×Unit)×Unit)×(Unit))=>(v.2.1.1.1,v.2.1.1.2.1,v.2.1.1.2.2.1),of:=fun x=>((),((x.1,(x.2.1,(x.2.2,()))),()),())}
def qvq:=qoW DOps.ev
def qx2 (o:DOps):qji.In→Option qji.T:=fun v=>qoW o
def qx3:DSpec:=qae qji Tryz.f120 (qx2 DOps.ev)
theorem q0U:DH Tryz.prog 120 qx3:=qad (d:=qji) (Fo:=qx2) ([]:DT) [] [] [] (trivial:DTok Tryz.prog []) (by kernel_rfl) ⟨fun o v=>by kernel_rfl⟩ Tryz.func120 Tryz.call120
def qoX (o:DOps)(s:SiteT)(phase:Int):Option (Int) :=
 inc o phase fun n1=>req (decide ((s.phases.length:Int)≠(0:Int))) <| o.letv (n1.tmod (s.phases.length:Int)) fun n2=>some n2
def qjj:DFn:={ro:=true,args:=(.agg (.seg 25 .nil) (.int .i64 .nil)),out:={slots:=(.dd 4 (.int .i64 (.dd 6 .nil)))},T:=Int,to:=fun(v:(Unit)×(Unit)×(Int×Unit))=>v.2.2.1,of:=fun x=>((),(),(x,()))}
def qnp:=qoX DOps.ev
def qx4 (o:DOps):qjj.In→Option qjj.T:=fun v=>qoX o v.2.2.1.1 v.2.2.2.1
def qx5:DSpec:=qae qjj Tryz.f147 (qx4 DOps.ev)
theorem q0V:DH Tryz.prog 147 qx5:=qad (d:=qjj) (Fo:=qx4) ([]:DT) [] [] [] (trivial:DTok Tryz.prog []) (by kernel_rfl) ⟨fun o v=>by kernel_rfl⟩ Tryz.func147 Tryz.call147
def qkO (o:DOps)(n:Int)(most:Int):Option (Int) :=
 inc o n fun n1=>o.letv (min n1 most) fun n2=>some n2
def qgx:DFn:={ro:=true,args:=(.int .i64 (.int .i64 .nil)),out:={slots:=(.dd 4 (.int .i64 (.dd 4 .nil)))},T:=Int,to:=fun(v:(Unit)×(Unit)×(Int×Unit))=>v.2.2.1,of:=fun x=>((),(),(x,()))}
def qa1:=qkO DOps.ev
def qst (o:DOps):qgx.In→Option qgx.T:=fun v=>qkO o v.2.2.1 v.2.2.2.1
def qsu:DSpec:=qae qgx Tryz.f45 (qst DOps.ev)
theorem qx6:DH Tryz.prog 45 qsu:=qad (d:=qgx) (Fo:=qst) ([]:DT) [] [] [] (trivial:DTok Tryz.prog []) (by kernel_rfl) ⟨fun o v=>by kernel_rfl⟩ Tryz.func45 Tryz.call45
def qid (o:DOps)(s1:List Int)(s2:List Int):Option (Bool) :=
 bif (s1.length:Int) != (s2.length:Int) then some false else o.fix (((),(),s1,s2,(s1.length:Int),(0:Int),())) fun r1 (_,_,z2,z3,n4,n5,_)=>bif decide (n5<n4) then ix o z2 n5 (0:Int) fun n6=>ix o z3 n5 (0:Int) fun n7=>bif n6 != n7 then some false else inc o n5 fun n8=>r1 (((),(),z2,z3,n4,n8,())) else some true
def qew:DFn:={ro:=true,args:=(.sl 1 (.sl 1 .nil)),out:={slots:=(.dd 4 (.bool (.dd 21 .nil)))},T:=Bool,to:=fun(v:(Unit)×(Unit)×(Bool×Unit))=>v.2.2.1,of:=fun x=>((),(),(x,()))}
def qkP:=qid DOps.ev
def qoY (o:DOps):qew.In→Option qew.T:=fun v=>qid o v.2.2.1 v.2.2.2.1
def qoZ:DSpec:=qae qew Tryz.f125 (qoY DOps.ev)
theorem qvr:DH Tryz.prog 125 qoZ:=qad (d:=qew) (Fo:=qoY) ([]:DT) [(4,{slots:=(.sl 1 (.sl 1 (.dd 10 (.int .i64 (.int .i64 (.dd 12 .nil))))))})] [] [] (trivial:DTok Tryz.prog []) (by kernel_rfl) ⟨fun o v=>by kernel_rfl⟩ Tryz.func125 Tryz.call125
def qkQ (o:DOps)(now:List SeenT)(now2:Int)(now3:Bool):Option (List UInt8) :=
 mks (now.length:Int) 1 <| rs (now.length:Int).toNat (List.replicate (now.length:Int).toNat (UInt8.ofNat 0)).length <| o.fix (((List.replicate (now.length:Int).toNat (UInt8.ofNat 0),()),(),now,(now.length:Int),(0:Int),())) fun r1 ((z2,_),_,z3,n4,n5,_)=>bif decide (n5<n4) then ix o z3 n5 (dflt 20) fun x6=>rb n5 z2.length <| req (decide (0+n5.toNat<z2.length)) <| o.letv (z2.set (0+n5.toNat) (UInt8.ofNat x6.aspectf.toNat)) fun z7=>inc o n5 fun n8=>rs z2.length z7.length <| r1 (((z7,()),(),z3,n4,n8,())) else rs z2.length z2.length <| some z2
def qgy:DFn:={ro:=true,args:=(.agg (.sl 20 (.int .i64 (.bool .nil))) .nil),out:={slots:=(.dd 2 (.row 0 902 (.dd 22 .nil))),blks:=[(902,.row 0)],boxes:=[(2,902,0)]},T:=List (UInt8),to:=fun(v:(List (UInt8)×Unit)×(Unit)×(Unit))=>v.1.1,of:=fun x=>((x,()),(),())}
def qpa:=qkQ DOps.ev
def qsv (o:DOps):qgy.In→Option qgy.T:=fun v=>qkQ o v.2.2.1.1 v.2.2.1.2.1 v.2.2.1.2.2.1
def qsw:DSpec:=qae qgy Tryz.f156 (qsv DOps.ev)
theorem qx7:DH Tryz.prog 156 qsw:=qad (d:=qgy) (Fo:=qsv) ([]:DT) [(3,{slots:=(.dd 3 (.row 0 2003 (.dd 7 (.sl 20 (.int .i64 (.int .i64 (.dd 11 .nil))))))),blks:=[(2003,.row 0)]})] [] [] (trivial:DTok Tryz.prog []) (by kernel_rfl) ⟨fun o v=>by kernel_rfl⟩ Tryz.func156 Tryz.call156
def qvs (o:DOps)(a:Int):Option (Bool) :=
 some (a==1)
def qnq:DFn:={ro:=true,args:=(.int .u8 .nil),out:={slots:=(.dd 2 (.bool (.dd 2 .nil)))},T:=Bool,to:=fun(v:(Unit)×(Unit)×(Bool×Unit))=>v.2.2.1,of:=fun x=>((),(),(x,()))}
def qpb:=qvs DOps.ev
def q3s (o:DOps):qnq.In→Option qnq.T:=fun v=>qvs o v.2.2.1
def q3t:DSpec:=qae qnq Tryz.f161 (q3s DOps.ev)
theorem q5c:DH Tryz.prog 161 q3t:=qad (d:=qnq) (Fo:=q3s) ([]:DT) [] [] [] (trivial:DTok Tryz.prog []) (by kernel_rfl) ⟨fun o v=>by kernel_rfl⟩ Tryz.func161 Tryz.call161
def qex (o:DOps)(s:List UInt8)(v0:Int):Option (Int) :=
 o.fix (((),(),s,v0,(s.length:Int),(0:Int),())) fun r1 (_,_,z2,n3,n4,n5,_)=>bif decide (n5<n4) then ix o z2 n5 (0:UInt8) fun x6=>bif n3==(↑x6.toNat:Int) then some n5 else inc o n5 fun n7=>r1 (((),(),z2,n3,n4,n7,())) else some ((-1:Int))
def qcy:DFn:={ro:=true,args:=(.sl 0 (.int .u8 .nil)),out:={slots:=(.dd 4 (.int .i64 (.dd 14 .nil)))},T:=Int,to:=fun(v:(Unit)×(Unit)×(Int×Unit))=>v.2.2.1,of:=fun x=>((),(),(x,()))}
def qfG:=qex DOps.ev
def qjk (o:DOps):qcy.In→Option qcy.T:=fun v=>qex o v.2.2.1 v.2.2.2.1
def qjl:DSpec:=qae qcy Tryz.f200 (qjk DOps.ev)
theorem qpc:DH Tryz.prog 200 qjl:=qad (d:=qcy) (Fo:=qjk) ([]:DT) [(2,{slots:=(.sl 0 (.int .u8 (.dd 5 (.int .i64 (.int .i64 (.dd 10 .nil))))))})] [] [] (trivial:DTok Tryz.prog []) (by kernel_rfl) ⟨fun o v=>by kernel_rfl⟩ Tryz.func200 Tryz.call200
def qpd (o:DOps)(n:Int):Option (Int) :=
 o.letv (max n (0:Int)) fun n1=>o.letv (min n1 (1048576:Int)) fun n2=>some n2
def qjm:DFn:={ro:=true,args:=(.int .i64 .nil),out:={slots:=(.dd 2 (.int .i64 (.dd 3 .nil)))},T:=Int,to:=fun(v:(Unit)×(Unit)×(Int×Unit))=>v.2.2.1,of:=fun x=>((),(),(x,()))}
def qgz:=qpd DOps.ev
def qx8 (o:DOps):qjm.In→Option qjm.T:=fun v=>qpd o v.2.2.1
def qx9:DSpec:=qae qjm Tryz.f197 (qx8 DOps.ev)
theorem q0W:DH Tryz.prog 197 qx9:=qad (d:=qjm) (Fo:=qx8) ([]:DT) [] [] [] (trivial:DTok Tryz.prog []) (by kernel_rfl) ⟨fun o v=>by kernel_rfl⟩ Tryz.func197 Tryz.call197
def qpe (o:DOps)(a:Int):Option (Bool) :=
 some (bif decide (a≥1) then decide (a≤3) else false)
def qjn:DFn:={ro:=true,args:=(.int .u8 .nil),out:={slots:=(.dd 2 (.bool (.dd 6 .nil)))},T:=Bool,to:=fun(v:(Unit)×(Unit)×(Bool×Unit))=>v.2.2.1,of:=fun x=>((),(),(x,()))}
def qnr:=qpe DOps.ev
def qxA (o:DOps):qjn.In→Option qjn.T:=fun v=>qpe o v.2.2.1
def qxB:DSpec:=qae qjn Tryz.f201 (qxA DOps.ev)
theorem q0X:DH Tryz.prog 201 qxB:=qad (d:=qjn) (Fo:=qxA) ([]:DT) [] [] [] (trivial:DTok Tryz.prog []) (by kernel_rfl) ⟨fun o v=>by kernel_rfl⟩ Tryz.func201 Tryz.call201
def qfH (o:DOps)(a:Int)(b:Int):Option (Bool) :=
 some (bif bif a==1&&b==2 then true else a==2&&b==3 then true else a==3&&b==1)
def qdn:DFn:={ro:=true,args:=(.int .u8 (.int .u8 .nil)),out:={slots:=(.dd 4 (.bool (.dd 17 .nil)))},T:=Bool,to:=fun(v:(Unit)×(Unit)×(Bool×Unit))=>v.2.2.1,of:=fun x=>((),(),(x,()))}
def qie:=qfH DOps.ev
def qmk (o:DOps):qdn.In→Option qdn.T:=fun v=>qfH o v.2.2.1 v.2.2.2.1
def qml:DSpec:=qae qdn Tryz.f202 (qmk DOps.ev)
theorem qrx:DH Tryz.prog 202 qml:=holdsD0 (d:=qdn) (Fo:=qmk) ([]:DT) [] [] [] (trivial:DTok Tryz.prog []) (by kernel_rfl) ⟨fun o v=>by kernel_rfl⟩ Tryz.func202 Tryz.call202
def q0Y (o:DOps)(p:Pls)(many:Int)(hold:Int):Option (Int) :=
 bif bif decide (p.sincef<0) then true else decide (p.sincef > 1048576) then some ((8:Int)) else bif decide (many > 4096) then some ((4:Int)) else bif bif decide (hold<1) then true else decide (hold > 1048576) then some ((2:Int)) else some ((0:Int))
def qey:DFn:={ro:=true,args:=(.agg (.seg 21 .nil) (.int .i64 (.int .i64 .nil))),out:={slots:=(.dd 6 (.int .i64 (.dd 19 .nil)))},T:=Int,to:=fun(v:(Unit)×(Unit)×(Int×Unit))=>v.2.2.1,of:=fun x=>((),(),(x,()))}
def qpf (o:DOps):qey.In→Option qey.T:=fun v=>q0Y o v.2.2.1.1 v.2.2.2.1 v.2.2.2.2.1
def qpg:DSpec:=qae qey Tryz.f184 (qpf DOps.ev)
theorem qvt:DH Tryz.prog 184 qpg:=qad (d:=qey) (Fo:=qpf) ([]:DT) [] [] [] (trivial:DTok Tryz.prog []) (by kernel_rfl) ⟨fun o v=>by kernel_rfl⟩ Tryz.func184 Tryz.call184
def qif (o:DOps)(s:SiteT):Option (Int×SiteT) :=
 some (((s.phases.length:Int),s))
def qez:DFn:={ro:=false,own:=[false],args:=(.ptr 0 0 .nil),B:=[.cells (.seg 25 .nil)],out:={slots:=(.dead (.int .i64 (.dd 3 .nil))),blks:=[(0,.cells (.seg 25 .nil))],fz:=true},T:=Int×SiteT,to:=fun(v:(Unit)×((SiteT×Unit)×Unit)×(Int×Unit))=>(v.2.2.1,v.2.1.1.1),of:=fun x=>((),((x.2,()),()),(x.1,()))}
def qkR:=qif DOps.ev
def qph (o:DOps):qez.In→Option qez.T:=fun v=>qif o v.2.1.1.1
def qpi:DSpec:=qae qez Tryz.f209 (qph DOps.ev)
theorem qvu:DH Tryz.prog 209 qpi:=qad (d:=qez) (Fo:=qph) ([]:DT) [] [] [] (trivial:DTok Tryz.prog []) (by kernel_rfl) ⟨fun o v=>by kernel_rfl⟩ Tryz.func209 Tryz.call209
def qxC:DSpec:=inlS (mkDC Tryz.prog tyC ([]:DT) [] [] [] []) true [false] (fun _=>true) Tryz.f74
theorem q0Z:DH Tryz.prog 74 qxC:=q6i (enV:=mkDC Tryz.prog tyC ([]:DT) [] [] [] []) rfl (qgk (trivial:DTok Tryz.prog [])) Tryz.func74 Tryz.call74
def qpj (o:DOps)(g:Gpd):Option (Int) :=
 o.letv (min (min g.heldf g.openf) g.camef) fun n1=>o.letv (max g.heldf g.openf) fun n2=>bif bif bif decide (n1<0) then true else decide (n2 > 1048576) then true else decide (g.camef > 1073741824) then some ((8:Int)) else bif bif g.upf then g.openf != 0 else false then bif bif g.upf then g.openf != 0 else false then some ((8:Int)) else some ((0:Int)) else bif bif !g.upf then g.heldf != 0 else false then bif bif !g.upf then g.heldf != 0 else false then some ((8:Int)) else some ((0:Int)) else o.letv (bits BinOp.and IntKind.u64 g.lastf (1:Int)) fun n3=>bif !g.upf==(n3==1) then some ((8:Int)) else some ((0:Int))
def qjo:DFn:={ro:=true,args:=(.agg (.seg 22 .nil) .nil),out:={slots:=(.dd 2 (.int .i64 (.dd 45 .nil)))},T:=Int,to:=fun(v:(Unit)×(Unit)×(Int×Unit))=>v.2.2.1,of:=fun x=>((),(),(x,()))}
def qns:=qpj DOps.ev
def qxD (o:DOps):qjo.In→Option qjo.T:=fun v=>qpj o v.2.2.1.1
def qxE:DSpec:=qae qjo Tryz.f130 (qxD DOps.ev)
theorem q1a:DH Tryz.prog 130 qxE:=qad (d:=qjo) (Fo:=qxD) ([]:DT) [] [] [] (trivial:DTok Tryz.prog []) (by kernel_rfl) ⟨fun o v=>by kernel_rfl⟩ Tryz.func130 Tryz.call130
def q1b (o:DOps)(x:Lkd):Option (Bool) :=
 o.letv (min x.samef x.wellf) fun n1=>o.letv (max x.samef x.wellf) fun n2=>some (bif bif decide (n1≥0) then decide (n2≤1048576) else false then bif x.badf then true else x.wellf==0 else false)
def qvv:DFn:={ro:=true,args:=(.agg (.seg 23 .nil) .nil),out:={slots:=(.dd 2 (.bool (.dd 23 .nil)))},T:=Bool,to:=fun(v:(Unit)×(Unit)×(Bool×Unit))=>v.2.2.1,of:=fun x=>((),(),(x,()))}
def q70:=q1b DOps.ev
def q71 (o:DOps):qvv.In→Option qvv.T:=fun v=>q1b o v.2.2.1.1
def q72:DSpec:=qae qvv Tryz.f186 (q71 DOps.ev)
theorem q73:DH Tryz.prog 186 q72:=qad (d:=qvv) (Fo:=q71) ([]:DT) [] [] [] (trivial:DTok Tryz.prog []) (by kernel_rfl) ⟨fun o v=>by kernel_rfl⟩ Tryz.func186 Tryz.call186
def qcs (o:DOps)(x:Int):Option (Int) :=
 o.letv (x.fdiv ((2:Int) ^ min (Int.toNat (1:Int)) IntKind.u64.bits)) fun n1=>o.letv (bits BinOp.and IntKind.u64 n1 (6148914691236517205:Int)) fun n2=>o.letv (bits BinOp.and IntKind.u64 x (6148914691236517205:Int)) fun n3=>o.letv (wu (n2+n3)) fun n4=>o.letv (n4.fdiv ((2:Int) ^ min (Int.toNat (2:Int)) IntKind.u64.bits)) fun n5=>o.letv (bits BinOp.and IntKind.u64 n5 (3689348814741910323:Int)) fun n6=>o.letv (bits BinOp.and IntKind.u64 n4 (3689348814741910323:Int)) fun n7=>o.letv (wu (n6+n7)) fun n8=>o.letv (n8.fdiv ((2:Int) ^ min (Int.toNat (4:Int)) IntKind.u64.bits)) fun n9=>o.letv (wu (n9+n8)) fun n10=>o.letv (bits BinOp.and IntKind.u64 n10 (1085102592571150095:Int)) fun n11=>o.letv (n11.fdiv ((2:Int) ^ min (Int.toNat (8:Int)) IntKind.u64.bits)) fun n12=>o.letv (wu (n11+n12)) fun n13=>o.letv (n13.fdiv ((2:Int) ^ min (Int.toNat (16:Int)) IntKind.u64.bits)) fun n14=>o.letv (wu (n13+n14)) fun n15=>o.letv (n15.fdiv ((2:Int) ^ min (Int.toNat (32:Int)) IntKind.u64.bits)) fun n16=>o.letv (wu (n15+n16)) fun n17=>o.letv (wi n17) fun n18=>o.letv (bits BinOp.and IntKind.i64 n18 (127:Int)) fun n19=>some n19
def qbm:DFn:={ro:=true,args:=(.int .u64 .nil),out:={slots:=(.dd 2 (.int .i64 (.dd 32 .nil)))},T:=Int,to:=fun(v:(Unit)×(Unit)×(Int×Unit))=>v.2.2.1,of:=fun x=>((),(),(x,()))}
def qbE:=qcs DOps.ev
def qfj (o:DOps):qbm.In→Option qbm.T:=fun v=>qcs o v.2.2.1
def qfk:DSpec:=qae qbm Tryz.f187 (qfj DOps.ev)
theorem qjp:DH Tryz.prog 187 qfk:=qad (d:=qbm) (Fo:=qfj) ([]:DT) [] [] [] (trivial:DTok Tryz.prog []) (by kernel_rfl) ⟨fun o v=>by kernel_rfl⟩ Tryz.func187 Tryz.call187
def qkS (o:DOps)(s:SiteT)(phase:Int)(group:Int):Option (Bool) :=
 ix o s.phases phase (dflt 18) fun x1=>req (decide (0≤group)) <| o.letv (x1.groupsf.fdiv ((2:Int) ^ min group.toNat IntKind.u32.bits)) fun n2=>o.letv (bits BinOp.and IntKind.u32 n2 (1:Int)) fun n3=>some (n3==1)
def qg0:DFn:={ro:=true,args:=(.agg (.seg 25 .nil) (.int .i64 (.int .i64 .nil))),out:={slots:=(.dd 6 (.bool (.dd 10 .nil)))},T:=Bool,to:=fun(v:(Unit)×(Unit)×(Bool×Unit))=>v.2.2.1,of:=fun x=>((),(),(x,()))}
def qjq:=qkS DOps.ev
def qsx (o:DOps):qg0.In→Option qg0.T:=fun v=>qkS o v.2.2.1.1 v.2.2.2.1 v.2.2.2.2.1
def qsy:DSpec:=qae qg0 Tryz.f188 (qsx DOps.ev)
theorem qxF:DH Tryz.prog 188 qsy:=qad (d:=qg0) (Fo:=qsx) ([]:DT) [] [] [] (trivial:DTok Tryz.prog []) (by kernel_rfl) ⟨fun o v=>by kernel_rfl⟩ Tryz.func188 Tryz.call188
def qfI (o:DOps)(x:Lkd):Option (Bool) :=
 some (!x.badf)
def qdo:DFn:={ro:=true,args:=(.agg (.seg 23 .nil) .nil),out:={slots:=(.dd 2 (.bool (.dd 3 .nil)))},T:=Bool,to:=fun(v:(Unit)×(Unit)×(Bool×Unit))=>v.2.2.1,of:=fun x=>((),(),(x,()))}
def qig:=qfI DOps.ev
def qmm (o:DOps):qdo.In→Option qdo.T:=fun v=>qfI o v.2.2.1.1
def qmn:DSpec:=qae qdo Tryz.f141 (qmm DOps.ev)
theorem qry:DH Tryz.prog 141 qmn:=qad (d:=qdo) (Fo:=qmm) ([]:DT) [] [] [] (trivial:DTok Tryz.prog []) (by kernel_rfl) ⟨fun o v=>by kernel_rfl⟩ Tryz.func141 Tryz.call141
def qpk (o:DOps)(x:Lkd):Option (Bool) :=
 some (bif x.upf then true else x.badf)
def qjr:DFn:={ro:=true,args:=(.agg (.seg 23 .nil) .nil),out:={slots:=(.dd 2 (.bool (.dd 6 .nil)))},T:=Bool,to:=fun(v:(Unit)×(Unit)×(Bool×Unit))=>v.2.2.1,of:=fun x=>((),(),(x,()))}
def qvw:=qpk DOps.ev
def qxG (o:DOps):qjr.In→Option qjr.T:=fun v=>qpk o v.2.2.1.1
def qxH:DSpec:=qae qjr Tryz.f189 (qxG DOps.ev)
theorem q1c:DH Tryz.prog 189 qxH:=qad (d:=qjr) (Fo:=qxG) ([]:DT) [] [] [] (trivial:DTok Tryz.prog []) (by kernel_rfl) ⟨fun o v=>by kernel_rfl⟩ Tryz.func189 Tryz.call189
def qkT (o:DOps)(s:SiteT)(c:Int)(phase:Int):Option (Int) :=
 o.letv (c.fdiv ((2:Int) ^ min (s.phases.length:Int).toNat IntKind.u32.bits)) fun n1=>bif n1 != 0 then some ((8:Int)) else bif bif decide (phase<(-1:Int)) then true else decide (phase≥s.phases.length) then some ((2:Int)) else some ((0:Int))
def qg1:DFn:={ro:=true,args:=(.agg (.seg 25 .nil) (.int .u32 (.int .i64 .nil))),out:={slots:=(.dd 6 (.int .i64 (.dd 17 .nil)))},T:=Int,to:=fun(v:(Unit)×(Unit)×(Int×Unit))=>v.2.2.1,of:=fun x=>((),(),(x,()))}
def qpl:=qkT DOps.ev
def qsz (o:DOps):qg1.In→Option qg1.T:=fun v=>qkT o v.2.2.1.1 v.2.2.2.1 v.2.2.2.2.1
def qs0:DSpec:=qae qg1 Tryz.f137 (qsz DOps.ev)
theorem qxI:DH Tryz.prog 137 qs0:=qad (d:=qg1) (Fo:=qsz) ([]:DT) [] [] [] (trivial:DTok Tryz.prog []) (by kernel_rfl) ⟨fun o v=>by kernel_rfl⟩ Tryz.func137 Tryz.call137
def qih (o:DOps)(s:SiteT)(l:List UInt8):Option (Int) :=
 bif (l.length:Int) != (s.groups.length:Int) then some ((4:Int)) else o.fix (((),(),l,(l.length:Int),(0:Int),())) fun r1 (_,_,z2,n3,n4,_)=>bif decide (n4<n3) then ix o z2 n4 (0:UInt8) fun x5=>bif decide ((↑x5.toNat:Int) > 4) then some ((2:Int)) else inc o n4 fun n6=>r1 (((),(),z2,n3,n6,())) else some ((0:Int))
def qe0:DFn:={ro:=true,args:=(.agg (.seg 25 .nil) (.sl 0 .nil)),out:={slots:=(.dd 4 (.int .i64 (.dd 17 .nil)))},T:=Int,to:=fun(v:(Unit)×(Unit)×(Int×Unit))=>v.2.2.1,of:=fun x=>((),(),(x,()))}
def qkU:=qih DOps.ev
def qpm (o:DOps):qe0.In→Option qe0.T:=fun v=>qih o v.2.2.1.1 v.2.2.2.1
def qpn:DSpec:=qae qe0 Tryz.f190 (qpm DOps.ev)
theorem qvx:DH Tryz.prog 190 qpn:=qad (d:=qe0) (Fo:=qpm) ([]:DT) [(4,{slots:=(.dd 13 (.sl 0 (.int .i64 (.int .i64 (.dd 6 .nil)))))})] [] [] (trivial:DTok Tryz.prog []) (by kernel_rfl) ⟨fun o v=>by kernel_rfl⟩ Tryz.func190 Tryz.call190
def qkV (o:DOps)(p:Plan):Option (Bool) :=
 some (bif bif p.cycle==0 then p.offset==0 else false then (p.splits.length:Int)==0 else false)
def qg2:DFn:={ro:=true,args:=(.agg (.seg 10 .nil) .nil),out:={slots:=(.dd 2 (.bool (.dd 14 .nil)))},T:=Bool,to:=fun(v:(Unit)×(Unit)×(Bool×Unit))=>v.2.2.1,of:=fun x=>((),(),(x,()))}
def qdQ:=qkV DOps.ev
def qs1 (o:DOps):qg2.In→Option qg2.T:=fun v=>qkV o v.2.2.1.1
def qs2:DSpec:=qae qg2 Tryz.f85 (qs1 DOps.ev)
theorem qxJ:DH Tryz.prog 85 qs2:=qad (d:=qg2) (Fo:=qs1) ([]:DT) [] [] [] (trivial:DTok Tryz.prog []) (by kernel_rfl) ⟨fun o v=>by kernel_rfl⟩ Tryz.func85 Tryz.call85
def qkW (o:DOps)(r:Int)(r2:Int)(r3:Bool)(f:Bool)(f2:Bool)(f3:Bool)(f4:Bool):Option (Int) :=
 bif bif r3 then true else !f4 then some ((0:Int)) else bif bif bif f then f2 else false then f3 else false then some ((3:Int)) else bif f2 then some ((2:Int)) else some ((1:Int))
def qg3:DFn:={ro:=true,args:=(.agg (.int .u8 (.int .i64 (.bool .nil))) (.agg (.bool (.bool (.bool (.bool .nil)))) .nil)),out:={slots:=(.dd 4 (.int .u8 (.dd 22 .nil)))},T:=Int,to:=fun(v:(Unit)×(Unit)×(Int×Unit))=>v.2.2.1,of:=fun x=>((),(),(x,()))}
def qpo:=qkW DOps.ev
def qs3 (o:DOps):qg3.In→Option qg3.T:=fun v=>qkW o v.2.2.1.1 v.2.2.1.2.1 v.2.2.1.2.2.1 v.2.2.2.1.1 v.2.2.2.1.2.1 v.2.2.2.1.2.2.1 v.2.2.2.1.2.2.2.1
def qs4:DSpec:=qae qg3 Tryz.f142 (qs3 DOps.ev)
theorem qxK:DH Tryz.prog 142 qs4:=qad (d:=qg3) (Fo:=qs3) ([]:DT) [] [] [] (trivial:DTok Tryz.prog []) (by kernel_rfl) ⟨fun o v=>by kernel_rfl⟩ Tryz.func142 Tryz.call142
def qkX (o:DOps)(s:SiteT)(calls:Int):Option (Int) :=
 o.fix (((),(),calls,(0:Int),s.phases,(s.phases.length:Int),(0:Int),())) fun r1 (_,_,n2,n3,z4,n5,n6,_)=>bif decide (n6<n5) then ix o z4 n6 (dflt 18) fun x7=>req (!!x7.alwaysf||decide (0≤n6)) <| o.letv (n2.fdiv ((2:Int) ^ min n6.toNat IntKind.u32.bits)) fun n8=>o.letv (bits BinOp.and IntKind.u32 n8 (1:Int)) fun n9=>bif bif x7.alwaysf then true else n9==1 then req (decide (0≤n6)) <| o.letv (wq ((1:Int)*2 ^ min n6.toNat IntKind.u32.bits)) fun n11=>o.letv (bits BinOp.or IntKind.u32 n3 n11) fun n12=>inc o n6 fun n13=>r1 (((),(),n2,n12,z4,n5,n13,())) else inc o n6 fun n10=>r1 (((),(),n2,n3,z4,n5,n10,())) else some n3
def qg4:DFn:={ro:=true,args:=(.agg (.seg 25 .nil) (.int .u32 .nil)),out:={slots:=(.dd 4 (.int .u32 (.dd 26 .nil)))},T:=Int,to:=fun(v:(Unit)×(Unit)×(Int×Unit))=>v.2.2.1,of:=fun x=>((),(),(x,()))}
def qdR:=qkX DOps.ev
def qs5 (o:DOps):qg4.In→Option qg4.T:=fun v=>qkX o v.2.2.1.1 v.2.2.2.1
def qs6:DSpec:=qae qg4 Tryz.f143 (qs5 DOps.ev)
theorem qxL:DH Tryz.prog 143 qs6:=qad (d:=qg4) (Fo:=qs5) ([]:DT) [(3,{slots:=(.dead (.int .u32 (.dd 3 (.int .u32 (.dd 3 (.sl 18 (.int .i64 (.int .i64 (.dd 19 .nil)))))))))})] [] [] (trivial:DTok Tryz.prog []) (by kernel_rfl) ⟨fun o v=>by kernel_rfl⟩ Tryz.func143 Tryz.call143
def qvy (o:DOps)(n:Int)(a:Int):Option (List UInt8) :=
 req (decide (0≤n∧n≤n∧n*(↑1:Int)≤140737488355328)) <| rs n.toNat (List.replicate n.toNat (UInt8.ofNat 0)).length <| o.fix (((List.replicate n.toNat (UInt8.ofNat 0),()),(),a,(↑n.toNat:Int),(0:Int),())) fun r1 ((z2,_),_,n3,n4,n5,_)=>bif decide (n5<n4) then rb n5 z2.length <| req (decide (0+n5.toNat<z2.length)) <| o.letv (z2.set (0+n5.toNat) (UInt8.ofNat n3.toNat)) fun z6=>inc o n5 fun n7=>rs z2.length z6.length <| r1 (((z6,()),(),n3,n4,n7,())) else rs z2.length z2.length <| some z2
def qnt:DFn:={ro:=true,args:=(.int .i64 (.int .u8 .nil)),out:={slots:=(.dd 4 (.row 0 904 (.dd 15 .nil))),blks:=[(904,.row 0)],boxes:=[(4,904,0)]},T:=List (UInt8),to:=fun(v:(List (UInt8)×Unit)×(Unit)×(Unit))=>v.1.1,of:=fun x=>((x,()),(),())}
def qkY:=qvy DOps.ev
def q3u (o:DOps):qnt.In→Option qnt.T:=fun v=>qvy o v.2.2.1 v.2.2.2.1
def q3v:DSpec:=qae qnt Tryz.f153 (q3u DOps.ev)
theorem q5d:DH Tryz.prog 153 q3v:=qad (d:=qnt) (Fo:=q3u) ([]:DT) [(3,{slots:=(.dead (.int .u8 (.dd 3 (.row 0 2001 (.dd 4 (.int .i64 (.int .i64 (.dd 8 .nil)))))))),blks:=[(2001,.row 0)]})] [] [] (trivial:DTok Tryz.prog []) (by kernel_rfl) ⟨fun o v=>by kernel_rfl⟩ Tryz.func153 Tryz.call153
def q74 (o:DOps)(n:Int):Option (Int) :=
 o.letv (max n (-1073741824:Int)) fun n1=>o.letv (min n1 (1073741824:Int)) fun n2=>o.letv (wi (n2*65536)) fun n3=>some n3
def q3w:DFn:={ro:=true,args:=(.int .i64 .nil),out:={slots:=(.dd 2 (.int .i64 (.dd 4 .nil)))},T:=Int,to:=fun(v:(Unit)×(Unit)×(Int×Unit))=>v.2.2.1,of:=fun x=>((),(),(x,()))}
def fixOf:=q74 DOps.ev
def fixOfV (o:DOps):q3w.In→Option q3w.T:=fun v=>q74 o v.2.2.1
def fixOfS:DSpec:=qae q3w Tryz.f101 (fixOfV DOps.ev)
theorem fixOf_ok:DH Tryz.prog 101 fixOfS:=qad (d:=q3w) (Fo:=fixOfV) ([]:DT) [] [] [] (trivial:DTok Tryz.prog []) (by kernel_rfl) ⟨fun o v=>by kernel_rfl⟩ Tryz.func101 Tryz.call101
def qvz (o:DOps)(x:Int):Option (Int) :=
 o.letv (max x (-70368744177664:Int)) fun n1=>o.letv (min n1 (70368744177664:Int)) fun n2=>some n2
def qnu:DFn:={ro:=true,args:=(.int .i64 .nil),out:={slots:=(.dd 2 (.int .i64 (.dd 3 .nil)))},T:=Int,to:=fun(v:(Unit)×(Unit)×(Int×Unit))=>v.2.2.1,of:=fun x=>((),(),(x,()))}
def qkZ:=qvz DOps.ev
def q3x (o:DOps):qnu.In→Option qnu.T:=fun v=>qvz o v.2.2.1
def q3y:DSpec:=qae qnu Tryz.f166 (q3x DOps.ev)
theorem q5e:DH Tryz.prog 166 q3y:=qad (d:=qnu) (Fo:=q3x) ([]:DT) [] [] [] (trivial:DTok Tryz.prog []) (by kernel_rfl) ⟨fun o v=>by kernel_rfl⟩ Tryz.func166 Tryz.call166
def qla (o:DOps)(s:Int)(s2:Int)(s3:List Plan)(s4:List (List UInt8))(s5:Bool)(q:Int)(q2:Int)(q3:List Plan)(q4:List (List UInt8))(q5:Bool):Option (Bool×Int×Int×List Plan×List (List UInt8)×Bool×Int×Int×List Plan×List (List UInt8)×Bool) :=
 some ((bif s5 then !bif q5 then decide (q > s) else false else false,s,s2,s3,s4,s5,q,q2,q3,q4,q5))
def qg5:DFn:={ro:=false,own:=[false,false],args:=(.ptr 0 0 (.ptr 1 0 .nil)),B:=[.cells (.int .i64 (.int .u8 (.sl 10 (.sl 6 (.bool .nil))))),.cells (.int .i64 (.int .u8 (.sl 10 (.sl 6 (.bool .nil)))))],out:={slots:=(.dd 4 (.bool (.dd 24 .nil))),blks:=[(0,.cells (.int .i64 (.int .u8 (.sl 10 (.sl 6 (.bool .nil)))))),(1,.cells (.int .i64 (.int .u8 (.sl 10 (.sl 6 (.bool .nil))))))],fz:=true},T:=Bool×Int×Int×List Plan×List (List UInt8)×Bool×Int×Int×List Plan×List (List UInt8)×Bool,to:=fun(v:(Unit)×((Int×Int×List Plan×List (List UInt8)×Bool×Unit)×(Int×Int×List Plan×List (List UInt8)×Bool×Unit)×Unit)×(Bool×Unit))=>(v.2.2.1,v.2.1.1.1,v.2.1.1.2.1,v.2.1.1.2.2.1,v.2.1.1.2.2.2.1,v.2.1.1.2.2.2.2.1,v.2.1.2.1.1,v.2.1.2.1.2.1,v.2.1.2.1.2.2.1,v.2.1.2.1.2.2.2.1,v.2.1.2.1.2.2.2.2.1),of:=fun x=>((),((x.2.1,(x.2.2.1,(x.2.2.2.1,(x.2.2.2.2.1,(x.2.2.2.2.2.1,()))))),((x.2.2.2.2.2.2.1,(x.2.2.2.2.2.2.2.1,(x.2.2.2.2.2.2.2.2.1,(x.2.2.2.2.2.2.2.2.2.1,(x.2.2.2.2.2.2.2.2.2.2,()))))),())),(x.1,()))}
def qjs:=qla DOps.ev
def qs7 (o:DOps):qg5.In→Option qg5.T:=fun v=>qla o v.2.1.1.1 v.2.1.1.2.1 v.2.1.1.2.2.1 v.2.1.1.2.2.2.1 v.2.1.1.2.2.2.2.1 v.2.1.2.1.1 v.2.1.2.1.2.1 v.2.1.2.1.2.2.1 v.2.1.2.1.2.2.2.1 v.2.1.2.1.2.2.2.2.1
def qs8:DSpec:=qae qg5 Tryz.f177 (qs7 DOps.ev)
theorem qxM:DH Tryz.prog 177 qs8:=qad (d:=qg5) (Fo:=qs7) ([]:DT) [] [] [] (trivial:DTok Tryz.prog []) (by kernel_rfl) ⟨fun o v=>by kernel_rfl⟩ Tryz.func177 Tryz.call177
def qbx (o:DOps)(s:List UInt8):Option (List UInt8) :=
 bif s.isEmpty then sm o [some qam,req (decide ((0+s.length)*1≤140737488355328)) <| o.letv ([]++s) fun z2=>rs (0+s.length) z2.length <| some z2] (.n (.l 0) (.l 1)) else req (decide ((0+s.length)*1≤140737488355328)) <| o.letv ([]++s) fun z1=>rs (0+s.length) z1.length <| some z1
def qdp:DFn:={ro:=true,args:=(.sl 0 .nil),out:={slots:=(.dd 2 (.row 0 902 (.dd 5 .nil))),blks:=[(902,.row 0)],boxes:=[(2,902,0)]},T:=List (UInt8),to:=fun(v:(List (UInt8)×Unit)×(Unit)×(Unit))=>v.1.1,of:=fun x=>((x,()),(),())}
def qbR:=qbx DOps.ev
def qmo (o:DOps):qdp.In→Option qdp.T:=fun v=>qbx o v.2.2.1
def qmp:DSpec:=qae qdp Tryz.f62 (qmo DOps.ev)
theorem qrz (s:List UInt8):qbx DOps.std s=qbx DOps.ev s:=by cases s with|nil=>(unfold qbx;simp only[List.isEmpty_nil,cond_true,sm_l,sm_n,qdA,qdB];exact qaz (by kernel_rfl))|cons x l=>kernel_rfl
theorem qr0:DH Tryz.prog 62 qmp:=qad (d:=qdp) (Fo:=qmo) ([]:DT) [] [] [] (trivial:DTok Tryz.prog []) (funext fun v=>qrz _) ⟨fun o v=>by kernel_rfl⟩ Tryz.func62 Tryz.call62
def qbb (o:DOps)(s:List Pls):Option (List Pls) :=
 bif s.isEmpty then sm o [some nilL21,req (decide ((0+s.length)*16≤140737488355328)) <| o.letv ([]++s) fun z2=>rs (0+s.length) z2.length <| some z2] (.n (.l 0) (.l 1)) else req (decide ((0+s.length)*16≤140737488355328)) <| o.letv ([]++s) fun z1=>rs (0+s.length) z1.length <| some z1
def qcz:DFn:={ro:=true,args:=(.sl 21 .nil),out:={slots:=(.dd 2 (.row 21 902 (.dd 5 .nil))),blks:=[(902,.row 21)],boxes:=[(2,902,21)]},T:=List (Pls),to:=fun(v:(List (Pls)×Unit)×(Unit)×(Unit))=>v.1.1,of:=fun x=>((x,()),(),())}
def qdq:=qbb DOps.ev
def qjt (o:DOps):qcz.In→Option qcz.T:=fun v=>qbb o v.2.2.1
def qju:DSpec:=qae qcz Tryz.f75 (qjt DOps.ev)
theorem qpp (s:List Pls):qbb DOps.std s=qbb DOps.ev s:=by cases s with|nil=>(unfold qbb;simp only[List.isEmpty_nil,cond_true,sm_l,sm_n,qdA,qdB];exact qaz (by kernel_rfl))|cons x l=>kernel_rfl
theorem qpq:DH Tryz.prog 75 qju:=qad (d:=qcz) (Fo:=qjt) ([]:DT) [] [] [] (trivial:DTok Tryz.prog []) (funext fun v=>qpp _) ⟨fun o v=>by kernel_rfl⟩ Tryz.func75 Tryz.call75
def qaR (o:DOps)(s:List Gpd):Option (List Gpd) :=
 bif s.isEmpty then sm o [some nilL22,req (decide ((0+s.length)*40≤140737488355328)) <| o.letv ([]++s) fun z2=>rs (0+s.length) z2.length <| some z2] (.n (.l 0) (.l 1)) else req (decide ((0+s.length)*40≤140737488355328)) <| o.letv ([]++s) fun z1=>rs (0+s.length) z1.length <| some z1
def qbX:DFn:={ro:=true,args:=(.sl 22 .nil),out:={slots:=(.dd 2 (.row 22 902 (.dd 5 .nil))),blks:=[(902,.row 22)],boxes:=[(2,902,22)]},T:=List (Gpd),to:=fun(v:(List (Gpd)×Unit)×(Unit)×(Unit))=>v.1.1,of:=fun x=>((x,()),(),())}
def qe1:=qaR DOps.ev
def qhD (o:DOps):qbX.In→Option qbX.T:=fun v=>qaR o v.2.2.1
def qhE:DSpec:=qae qbX Tryz.f76 (qhD DOps.ev)
theorem qmV (s:List Gpd):qaR DOps.std s=qaR DOps.ev s:=by cases s with|nil=>(unfold qaR;simp only[List.isEmpty_nil,cond_true,sm_l,sm_n,qdA,qdB];exact qaz (by kernel_rfl))|cons x l=>kernel_rfl
theorem qmW:DH Tryz.prog 76 qhE:=qad (d:=qbX) (Fo:=qhD) ([]:DT) [] [] [] (trivial:DTok Tryz.prog []) (funext fun v=>qmV _) ⟨fun o v=>by kernel_rfl⟩ Tryz.func76 Tryz.call76
def qby (o:DOps)(s:List SeenT):Option (List SeenT) :=
 bif s.isEmpty then sm o [some qft,req (decide ((0+s.length)*24≤140737488355328)) <| o.letv ([]++s) fun z2=>rs (0+s.length) z2.length <| some z2] (.n (.l 0) (.l 1)) else req (decide ((0+s.length)*24≤140737488355328)) <| o.letv ([]++s) fun z1=>rs (0+s.length) z1.length <| some z1
def qdr:DFn:={ro:=true,args:=(.sl 20 .nil),out:={slots:=(.dd 2 (.row 20 902 (.dd 5 .nil))),blks:=[(902,.row 20)],boxes:=[(2,902,20)]},T:=List (SeenT),to:=fun(v:(List (SeenT)×Unit)×(Unit)×(Unit))=>v.1.1,of:=fun x=>((x,()),(),())}
def qcQ:=qby DOps.ev
def qmq (o:DOps):qdr.In→Option qdr.T:=fun v=>qby o v.2.2.1
def qmr:DSpec:=qae qdr Tryz.f96 (qmq DOps.ev)
theorem qr1 (s:List SeenT):qby DOps.std s=qby DOps.ev s:=by cases s with|nil=>(unfold qby;simp only[List.isEmpty_nil,cond_true,sm_l,sm_n,qdA,qdB];exact qaz (by kernel_rfl))|cons x l=>kernel_rfl
theorem qr2:DH Tryz.prog 96 qmr:=qad (d:=qdr) (Fo:=qmq) ([]:DT) [] [] [] (trivial:DTok Tryz.prog []) (funext fun v=>qr1 _) ⟨fun o v=>by kernel_rfl⟩ Tryz.func96 Tryz.call96
def qbS (o:DOps)(s:List Int):Option (List Int) :=
 bif s.isEmpty then sm o [some qfr,req (decide ((0+s.length)*8≤140737488355328)) <| o.letv ([]++s) fun z2=>rs (0+s.length) z2.length <| some z2] (.n (.l 0) (.l 1)) else req (decide ((0+s.length)*8≤140737488355328)) <| o.letv ([]++s) fun z1=>rs (0+s.length) z1.length <| some z1
def qe2:DFn:={ro:=true,args:=(.sl 1 .nil),out:={slots:=(.dd 2 (.row 1 902 (.dd 5 .nil))),blks:=[(902,.row 1)],boxes:=[(2,902,1)]},T:=List (Int),to:=fun(v:(List (Int)×Unit)×(Unit)×(Unit))=>v.1.1,of:=fun x=>((x,()),(),())}
def qdS:=qbS DOps.ev
def qpr (o:DOps):qe2.In→Option qe2.T:=fun v=>qbS o v.2.2.1
def qps:DSpec:=qae qe2 Tryz.f98 (qpr DOps.ev)
theorem qv0 (s:List Int):qbS DOps.std s=qbS DOps.ev s:=by cases s with|nil=>(unfold qbS;simp only[List.isEmpty_nil,cond_true,sm_l,sm_n,qdA,qdB];exact qaz (by kernel_rfl))|cons x l=>kernel_rfl
theorem qv1:DH Tryz.prog 98 qps:=qad (d:=qe2) (Fo:=qpr) ([]:DT) [] [] [] (trivial:DTok Tryz.prog []) (funext fun v=>qv0 _) ⟨fun o v=>by kernel_rfl⟩ Tryz.func98 Tryz.call98
def q1d (o:DOps)(s:List UInt8)(n:Int):Option (List UInt8) :=
 bif decide (n<0) then none else none
def qe3:DFn:={ro:=false,args:=(.sl 0 (.int .i64 .nil)),out:={slots:=(.dd 4 (.sl 0 (.dd 22 .nil))),fz:=true},T:=List UInt8,to:=fun(v:(Unit)×(Unit)×(List UInt8×Unit))=>v.2.2.1,of:=fun x=>((),(),(x,()))}
def qpt (o:DOps):qe3.In→Option qe3.T:=fun v=>q1d o v.2.2.1 v.2.2.2.1
def qpu:DSpec:=qae qe3 Tryz.f119 (qpt DOps.ev)
theorem qv2:DH Tryz.prog 119 qpu:=qad (d:=qe3) (Fo:=qpt) ([]:DT) [] [] [] (trivial:DTok Tryz.prog []) (by kernel_rfl) ⟨fun o v=>by kernel_rfl⟩ Tryz.func119 Tryz.call119
def q75 (o:DOps)(n:Int):Option (Nat×List UInt8) :=
 bif decide (n<0) then none else o.letv (wi ((0:Int)-0)) fun n1=>o.letv (wi (n-n1)) fun n2=>bif decide (n2 > 0) then req (decide (0≤n2)) <| req (decide (n2.toNat*1≤140737488355328)) <| o.letv (List.replicate n2.toNat (UInt8.ofNat 0)) fun z3=>some ((Int.toNat (0:Int),z3)) else some ((0,qam))
def q3z:DFn:={ro:=true,args:=(.nilsl (.int .i64 .nil)),out:={slots:=(.dd 4 (.rown 0 904 (.dd 22 .nil))),blks:=[(904,.row 0)],boxes:=[(4,904,0)]},T:=Nat×List (UInt8),to:=fun(v:(List (UInt8)×Unit)×(Unit)×(Nat×Unit))=>(v.2.2.1,v.1.1),of:=fun x=>((x.2,()),(),(x.1,()))}
def growN:=q75 DOps.ev
def growNV (o:DOps):q3z.In→Option q3z.T:=fun v=>q75 o v.2.2.1
def growNS:DSpec:=qae q3z Tryz.f119 (growNV DOps.ev)
theorem growN_ok:DH Tryz.prog 119 growNS:=qad (d:=q3z) (Fo:=growNV) ([]:DT) [] [] [] (trivial:DTok Tryz.prog []) (by kernel_rfl) ⟨fun o v=>by kernel_rfl⟩ Tryz.func119 Tryz.call119
def q5f (o:DOps)(x:Int)(y:Int):Option (Int×Int) :=
 o.letv (wu x) fun n1=>o.letv (wu y) fun n2=>o.letv (wu (n1*n2)) fun n3=>o.letv (n3.fdiv ((2:Int) ^ min (Int.toNat (32:Int)) IntKind.u64.bits)) fun n4=>o.letv (wq n4) fun n5=>o.letv (wq n3) fun n6=>some ((n5,n6))
def qg6:DFn:={ro:=true,args:=(.int .u32 (.int .u32 .nil)),out:={slots:=(.dd 4 (.int .u32 (.int .u32 (.dd 11 .nil))))},T:=Int×Int,to:=fun(v:(Unit)×(Unit)×(Int×Int×Unit))=>(v.2.2.1,v.2.2.2.1),of:=fun x=>((),(),(x.1,(x.2,())))}
def qs9 (o:DOps):qg6.In→Option qg6.T:=fun v=>q5f o v.2.2.1 v.2.2.2.1
def qsA:DSpec:=qae qg6 Tryz.f212 (qs9 DOps.ev)
theorem qxN:DH Tryz.prog 212 qsA:=qad (d:=qg6) (Fo:=qs9) ([]:DT) [] [] [] (trivial:DTok Tryz.prog []) (by kernel_rfl) ⟨fun o v=>by kernel_rfl⟩ Tryz.func212 Tryz.call212
def qsB (o:DOps)(x:Int)(y:Int):Option (Int×Int) :=
 o.letv (bits BinOp.and IntKind.u64 x (4294967295:Int)) fun n1=>o.letv (x.fdiv ((2:Int) ^ min (Int.toNat (32:Int)) IntKind.u64.bits)) fun n2=>o.letv (bits BinOp.and IntKind.u64 y (4294967295:Int)) fun n3=>o.letv (y.fdiv ((2:Int) ^ min (Int.toNat (32:Int)) IntKind.u64.bits)) fun n4=>o.letv (wu (n1*n3)) fun n5=>o.letv (wu (n2*n3)) fun n6=>o.letv (n5.fdiv ((2:Int) ^ min (Int.toNat (32:Int)) IntKind.u64.bits)) fun n7=>o.letv (wu (n6+n7)) fun n8=>o.letv (bits BinOp.and IntKind.u64 n8 (4294967295:Int)) fun n9=>o.letv (n8.fdiv ((2:Int) ^ min (Int.toNat (32:Int)) IntKind.u64.bits)) fun n10=>o.letv (wu (n1*n4)) fun n11=>o.letv (wu (n9+n11)) fun n12=>o.letv (wu (n2*n4)) fun n13=>o.letv (wu (n13+n10)) fun n14=>o.letv (n12.fdiv ((2:Int) ^ min (Int.toNat (32:Int)) IntKind.u64.bits)) fun n15=>o.letv (wu (n14+n15)) fun n16=>o.letv (wu (x*y)) fun n17=>some ((n16,n17))
def qg7:DFn:={ro:=true,args:=(.int .u64 (.int .u64 .nil)),out:={slots:=(.dd 4 (.int .u64 (.int .u64 (.dd 45 .nil))))},T:=Int×Int,to:=fun(v:(Unit)×(Unit)×(Int×Int×Unit))=>(v.2.2.1,v.2.2.2.1),of:=fun x=>((),(),(x.1,(x.2,())))}
def q76:=qsB DOps.ev
def qsC (o:DOps):qg7.In→Option qg7.T:=fun v=>qsB o v.2.2.1 v.2.2.2.1
def qsD:DSpec:=qae qg7 Tryz.f213 (qsC DOps.ev)
theorem qxO:DH Tryz.prog 213 qsD:=qad (d:=qg7) (Fo:=qsC) ([]:DT) [] [] [] (trivial:DTok Tryz.prog []) (by kernel_rfl) ⟨fun o v=>by kernel_rfl⟩ Tryz.func213 Tryz.call213
def qlb (o:DOps)(now:List SeenT)(now2:Int)(now3:Bool)(s:SiteT):Option (Int×List SeenT×Int×Bool×SiteT) :=
 bif (now.length:Int) != (s.groups.length:Int) then some (((8:Int),now,now2,now3,s)) else some (((0:Int),now,now2,now3,s))
def qg8:DFn:={ro:=false,own:=[false,false],args:=(.ptr 0 0 (.ptr 1 0 .nil)),B:=[.cells (.sl 20 (.int .i64 (.bool .nil))),.cells (.seg 25 .nil)],out:={slots:=(.dd 2 (.int .i64 (.dd 7 .nil))),blks:=[(0,.cells (.sl 20 (.int .i64 (.bool .nil)))),(1,.cells (.seg 25 .nil))],fz:=true},T:=Int×List SeenT×Int×Bool×SiteT,to:=fun(v:(Unit)×((List SeenT×Int×Bool×Unit)×(SiteT×Unit)×Unit)×(Int×Unit))=>(v.2.2.1,v.2.1.1.1,v.2.1.1.2.1,v.2.1.1.2.2.1,v.2.1.2.1.1),of:=fun x=>((),((x.2.1,(x.2.2.1,(x.2.2.2.1,()))),((x.2.2.2.2,()),())),(x.1,()))}
def qpv:=qlb DOps.ev
def qsE (o:DOps):qg8.In→Option qg8.T:=fun v=>qlb o v.2.1.1.1 v.2.1.1.2.1 v.2.1.1.2.2.1 v.2.1.2.1.1
def qsF:DSpec:=qae qg8 Tryz.f134 (qsE DOps.ev)
theorem qxP:DH Tryz.prog 134 qsF:=qad (d:=qg8) (Fo:=qsE) ([]:DT) [] [] [] (trivial:DTok Tryz.prog []) (by kernel_rfl) ⟨fun o v=>by kernel_rfl⟩ Tryz.func134 Tryz.call134
def qlc (o:DOps):Option (Int) :=
 some ((0:Int))
def qg9:DFn:={ro:=true,args:=.nil,out:={slots:=(.int .i64 .nil)},T:=Int,to:=fun(v:(Unit)×(Unit)×(Int×Unit))=>v.2.2.1,of:=fun x=>((),(),(x,()))}
def qpw:=qlc DOps.ev
def qsG (o:DOps):qg9.In→Option qg9.T:=fun v=>qlc o
def qsH:DSpec:=qae qg9 Tryz.f148 (qsG DOps.ev)
theorem qxQ:DH Tryz.prog 148 qsH:=qad (d:=qg9) (Fo:=qsG) ([]:DT) [] [] [] (trivial:DTok Tryz.prog []) (by kernel_rfl) ⟨fun o v=>by kernel_rfl⟩ Tryz.func148 Tryz.call148
def qii (o:DOps)(a:Int):Option (Bool) :=
 some (a != 4)
def qe4:DFn:={ro:=true,args:=(.int .u8 .nil),out:={slots:=(.dd 2 (.bool (.dd 2 .nil)))},T:=Bool,to:=fun(v:(Unit)×(Unit)×(Bool×Unit))=>v.2.2.1,of:=fun x=>((),(),(x,()))}
def qld:=qii DOps.ev
def qpx (o:DOps):qe4.In→Option qe4.T:=fun v=>qii o v.2.2.1
def qpy:DSpec:=qae qe4 Tryz.f198 (qpx DOps.ev)
theorem qv3:DH Tryz.prog 198 qpy:=qad (d:=qe4) (Fo:=qpx) ([]:DT) [] [] [] (trivial:DTok Tryz.prog []) (by kernel_rfl) ⟨fun o v=>by kernel_rfl⟩ Tryz.func198 Tryz.call198
def qij (o:DOps)(a:Int):Option (Bool) :=
 some (a != 4)
def qe5:DFn:={ro:=true,args:=(.int .u8 .nil),out:={slots:=(.dd 2 (.bool (.dd 2 .nil)))},T:=Bool,to:=fun(v:(Unit)×(Unit)×(Bool×Unit))=>v.2.2.1,of:=fun x=>((),(),(x,()))}
def qle:=qij DOps.ev
def qpz (o:DOps):qe5.In→Option qe5.T:=fun v=>qij o v.2.2.1
def qp0:DSpec:=qae qe5 Tryz.f152 (qpz DOps.ev)
theorem qv4:DH Tryz.prog 152 qp0:=qad (d:=qe5) (Fo:=qpz) ([]:DT) [] [] [] (trivial:DTok Tryz.prog []) (by kernel_rfl) ⟨fun o v=>by kernel_rfl⟩ Tryz.func152 Tryz.call152
def qlf (o:DOps)(now:List SeenT)(now2:Int)(now3:Bool)(g:SeenT):Option (Bool×List SeenT×Int×Bool) :=
 bif now3 then some ((g.aspectf != 4,now,now2,now3)) else some ((bif bif decide (g.aspectf<1) then true else decide (g.aspectf > 3) then true else bif decide (now2 > 0) then g.aspectf != 1 else false,now,now2,now3))
def qgA:DFn:={ro:=false,own:=[false],args:=(.agg (.seg 20 .nil) (.ptr 0 0 .nil)),B:=[.cells (.sl 20 (.int .i64 (.bool .nil)))],out:={slots:=(.dd 3 (.bool (.dd 23 .nil))),blks:=[(0,.cells (.sl 20 (.int .i64 (.bool .nil))))],fz:=true},T:=Bool×List SeenT×Int×Bool,to:=fun(v:(Unit)×((List SeenT×Int×Bool×Unit)×Unit)×(Bool×Unit))=>(v.2.2.1,v.2.1.1.1,v.2.1.1.2.1,v.2.1.1.2.2.1),of:=fun x=>((),((x.2.1,(x.2.2.1,(x.2.2.2,()))),()),(x.1,()))}
def qp1:=qlf DOps.ev
def qsI (o:DOps):qgA.In→Option qgA.T:=fun v=>qlf o v.2.1.1.1 v.2.1.1.2.1 v.2.1.1.2.2.1 v.2.2.1.1
def qsJ:DSpec:=qae qgA Tryz.f195 (qsI DOps.ev)
theorem qxR:DH Tryz.prog 195 qsJ:=qad (d:=qgA) (Fo:=qsI) ([]:DT) [] [] [] (trivial:DTok Tryz.prog []) (by kernel_rfl) ⟨fun o v=>by kernel_rfl⟩ Tryz.func195 Tryz.call195
def qik (o:DOps)(out:List UInt8)(now:List SeenT)(now2:Int)(now3:Bool)(s:SiteT)(i:Int):Option (Bool×List SeenT×Int×Bool×SiteT×List UInt8) :=
 rs out.length out.length <| o.fix (((out,()),((now,now2,now3,()),(s,()),(),()),i,now,(now.length:Int),(0:Int),())) fun r1 ((z2,_),((z3,n4,b5,_),(x6,_),_,_),n7,z8,n9,n10,_)=>bif decide (n10<n9) then ix o z8 n10 (dflt 20) fun x11=>ix o x6.apart n7 (0:UInt32) fun x12=>req (decide (0≤n10)) <| o.letv ((↑x12.toNat:Int).fdiv ((2:Int) ^ min n10.toNat IntKind.u32.bits)) fun n13=>o.letv (bits BinOp.and IntKind.u32 n13 (1:Int)) fun n14=>req (!n14==1||decide (0≤n10)&&decide (n10<z2.length)) <| req (!n14==1||decide (0+n10.toNat<z2.length)) <| o.letv ((↑(z2.getD (0+n10.toNat) (0:UInt8)).toNat:Int)) fun n15=>req (!!n15 != 1||(!n14==1||decide (0≤n10)&&decide (n10<x6.between.length))) <| o.letv (x6.between.getD n10.toNat (dflt 7)) fun z16=>req (!!n15 != 1||(!n14==1||decide (0≤n7)&&decide (n7<z16.length))) <| o.letv (z16.getD n7.toNat (0:Int)) fun n17=>bif bif n14==1 then bif n15 != 1 then true else decide (x11.endedf<n17) else false then rs z2.length z2.length <| some ((true,z3,n4,b5,x6,z2)) else inc o n10 fun n18=>rs z2.length z2.length <| r1 (((z2,()),((z3,n4,b5,()),(x6,()),(),()),n7,z8,n9,n18,())) else rs z2.length z2.length <| some ((false,z3,n4,b5,x6,z2))
def qe6:DFn:={ro:=false,own:=[false,false,false,false],args:=(.int .i64 (.ptr 0 0 (.ptr 1 0 (.ptr 2 0 .nil)))),B:=[.cells (.sl 20 (.int .i64 (.bool .nil))),.cells (.seg 25 .nil),.cells (.row 0 3 .nil),.row 0],out:={slots:=(.dd 5 (.bool (.dd 40 .nil))),blks:=[(0,.cells (.sl 20 (.int .i64 (.bool .nil)))),(1,.cells (.seg 25 .nil)),(2,.cells (.row 0 3 .nil)),(3,.row 0)],fz:=true},T:=Bool×List SeenT×Int×Bool×SiteT×List (UInt8),to:=fun(v:(List (UInt8)×Unit)×((List SeenT×Int×Bool×Unit)×(SiteT×Unit)×(Unit)×Unit)×(Bool×Unit))=>(v.2.2.1,v.2.1.1.1,v.2.1.1.2.1,v.2.1.1.2.2.1,v.2.1.2.1.1,v.1.1),of:=fun x=>((x.2.2.2.2.2,()),((x.2.1,(x.2.2.1,(x.2.2.2.1,()))),((x.2.2.2.2.1,()),((),()))),(x.1,()))}
def qgB:=qik DOps.ev
def qp2 (o:DOps):qe6.In→Option qe6.T:=fun v=>qik o v.1.1 v.2.1.1.1 v.2.1.1.2.1 v.2.1.1.2.2.1 v.2.1.2.1.1 v.2.2.1
def qp3:DSpec:=qae qe6 Tryz.f155 (qp2 DOps.ev)
theorem qv5:DH Tryz.prog 155 qp3:=qad (d:=qe6) (Fo:=qp2) ([]:DT) [(2,{slots:=(.int .i64 (.dead (.ptr 1 0 (.ptr 2 0 (.dd 5 (.sl 20 (.int .i64 (.int .i64 (.dd 34 .nil))))))))),blks:=[(0,.cells (.sl 20 (.int .i64 (.bool .nil)))),(1,.cells (.seg 25 .nil)),(2,.cells (.row 0 3 .nil)),(3,.row 0)]})] [] [] (trivial:DTok Tryz.prog []) (by kernel_rfl) ⟨fun o v=>by kernel_rfl⟩ Tryz.func155 Tryz.call155
def qxS (o:DOps)(s:SiteT)(a:Int)(b:Int):Option (Bool) :=
 ix o s.apart a (0:UInt32) fun x1=>o.letv (wu b) fun n2=>req (decide (0≤n2)) <| o.letv ((↑x1.toNat:Int).fdiv ((2:Int) ^ min n2.toNat IntKind.u32.bits)) fun n3=>o.letv (n3.tmod (2:Int)) fun n4=>some (n4==1)
def qjv:DFn:={ro:=true,args:=(.agg (.seg 25 .nil) (.int .i64 (.int .i64 .nil))),out:={slots:=(.dd 6 (.bool (.dd 10 .nil)))},T:=Bool,to:=fun(v:(Unit)×(Unit)×(Bool×Unit))=>v.2.2.1,of:=fun x=>((),(),(x,()))}
def topApart:=qxS DOps.ev
def qxT (o:DOps):qjv.In→Option qjv.T:=fun v=>qxS o v.2.2.1.1 v.2.2.2.1 v.2.2.2.2.1
def qxU:DSpec:=qae qjv Tryz.f46 (qxT DOps.ev)
theorem q1e:DH Tryz.prog 46 qxU:=qad (d:=qjv) (Fo:=qxT) ([]:DT) [] [] [] (trivial:DTok Tryz.prog []) (by kernel_rfl) ⟨fun o v=>by kernel_rfl⟩ Tryz.func46 Tryz.call46
def qxV (o:DOps)(s:SiteT):Option (Int) :=
 o.fix (((),((s,()),()),(0:Int),(0:Int),())) fun r1 (_,((x2,_),_),n3,n4,_)=>bif decide (n4<x2.between.length) then o.fix (((),((x2,()),()),n3,n4,(0:Int),())) fun r5 (_,((x6,_),_),n7,n8,n9,_)=>ix o x6.between n8 (dflt 7) fun z10=>bif decide (n9<z10.length) then ix o x6.between n8 (dflt 7) fun z12=>ix o z12 n9 (0:Int) fun n13=>o.letv (max n7 n13) fun n14=>inc o n9 fun n15=>r5 (((),((x6,()),()),n14,n8,n15,())) else inc o n8 fun n11=>r1 (((),((x6,()),()),n7,n11,())) else some n3
def qjw:DFn:={ro:=true,args:=(.agg (.seg 25 .nil) .nil),out:={slots:=(.dd 2 (.int .i64 (.dd 31 .nil)))},T:=Int,to:=fun(v:(Unit)×(Unit)×(Int×Unit))=>v.2.2.1,of:=fun x=>((),(),(x,()))}
def qv6:=qxV DOps.ev
def qxW (o:DOps):qjw.In→Option qjw.T:=fun v=>qxV o v.2.2.1.1
def qxX:DSpec:=qae qjw Tryz.f16 (qxW DOps.ev)
theorem q1f:DH Tryz.prog 16 qxX:=qad (d:=qjw) (Fo:=qxW) ([]:DT) [(3,{slots:=(.dead (.ptr 1000 0 (.dead (.int .i64 (.int .i64 (.dd 29 .nil)))))),blks:=[(1000,.cells (.seg 25 .nil))]}),(6,{slots:=(.dead (.ptr 1000 0 (.dead (.int .i64 (.int .i64 (.int .i64 (.dd 28 .nil))))))),blks:=[(1000,.cells (.seg 25 .nil))]})] [] [] (trivial:DTok Tryz.prog []) (by kernel_rfl) ⟨fun o v=>by kernel_rfl⟩ Tryz.func16 Tryz.call16
def qp4 (o:DOps)(l:List UInt8):Option (Int) :=
 o.fix (((),(),l,(0:Int),(0:Int),())) fun r1 (_,_,z2,n3,n4,_)=>bif decide (n4<z2.length) then ix o z2 n4 (0:UInt8) fun x5=>bif (↑x5.toNat:Int)==4 then inc o n3 fun n7=>inc o n4 fun n8=>r1 (((),(),z2,n7,n8,())) else inc o n4 fun n6=>r1 (((),(),z2,n3,n6,())) else some n3
def qe7:DFn:={ro:=true,args:=(.sl 0 .nil),out:={slots:=(.dd 2 (.int .i64 (.dd 16 .nil)))},T:=Int,to:=fun(v:(Unit)×(Unit)×(Int×Unit))=>v.2.2.1,of:=fun x=>((),(),(x,()))}
def qgC:=qp4 DOps.ev
def qp5 (o:DOps):qe7.In→Option qe7.T:=fun v=>qp4 o v.2.2.1
def qp6:DSpec:=qae qe7 Tryz.f15 (qp5 DOps.ev)
theorem qv7:DH Tryz.prog 15 qp6:=qad (d:=qe7) (Fo:=qp5) ([]:DT) [(3,{slots:=(.sl 0 (.dd 2 (.int .i64 (.int .i64 (.dd 14 .nil)))))})] [] [] (trivial:DTok Tryz.prog []) (by kernel_rfl) ⟨fun o v=>by kernel_rfl⟩ Tryz.func15 Tryz.call15
def qms (o:DOps)(g:Grp)(was:Int)(ran:Int)(now:Int):Option (Bool) :=
 bif was==1 then some (bif now==1 then true else now==2) else bif was==2 then some (bif now==2 then true else bif now==3 then decide (ran≥g.minf) else false) else bif was==3 then some (bif bif now==3 then decide (ran<g.yellowf) else false then true else bif now==1 then ran==g.yellowf else false) else some false
def qds:DFn:={ro:=true,args:=(.agg (.seg 17 .nil) (.int .u8 (.int .i64 (.int .u8 .nil)))),out:={slots:=(.dd 8 (.bool (.dd 43 .nil)))},T:=Bool,to:=fun(v:(Unit)×(Unit)×(Bool×Unit))=>v.2.2.1,of:=fun x=>((),(),(x,()))}
def qp7:=qms DOps.ev
def qmt (o:DOps):qds.In→Option qds.T:=fun v=>qms o v.2.2.1.1 v.2.2.2.1 v.2.2.2.2.1 v.2.2.2.2.2.1
def qmu:DSpec:=qae qds Tryz.f26 (qmt DOps.ev)
theorem qr3:DH Tryz.prog 26 qmu:=qad (d:=qds) (Fo:=qmt) ([]:DT) [] [] [] (trivial:DTok Tryz.prog []) (by kernel_rfl) ⟨fun o v=>by kernel_rfl⟩ Tryz.func26 Tryz.call26
def q77 (o:DOps):Option (SiteT) :=
 some ({id:=(1:Int),groups:={kindf:=(1:Int),minf:=(2:Int),yellowf:=(1:Int):Grp}::{kindf:=(1:Int),minf:=(2:Int),yellowf:=(1:Int):Grp}::nilL17,apart:=UInt32.ofNat (Int.toNat (2:Int))::UInt32.ofNat (Int.toNat (1:Int))::nilL2,between:=((0:Int)::(2:Int)::qfr)::((2:Int)::(0:Int)::qfr)::nilL7,phases:={groupsf:=(1:Int),minf:=(2:Int),maxf:=(5:Int),gapf:=(1:Int),alwaysf:=false:Phs}::{groupsf:=(2:Int),minf:=(2:Int),maxf:=(5:Int),gapf:=(1:Int),alwaysf:=false:Phs}::nilL18,eyes:=nilL19,watch:=(3:Int),feed:=(2:Int),heal:=(4:Int),low:=(8:Int),high:=(20:Int),plans:=qaP:SiteT})
def qv8:DFn:={ro:=false,args:=.nil,out:={slots:=(.ptr 1000 0 (.dd 13 .nil)),blks:=[(1000,.cells (.seg 25 .nil))],fz:=true},T:=SiteT,to:=fun(v:(Unit)×((SiteT×Unit)×Unit)×(Unit))=>v.2.1.1.1,of:=fun x=>((),((x,()),()),())}
def topTwo:=q77 DOps.ev
def q78 (o:DOps):qv8.In→Option qv8.T:=fun v=>q77 o
def q79:DSpec:=qae qv8 Tryz.f21 (q78 DOps.ev)
theorem q7A:DH Tryz.prog 21 q79:=qad (d:=qv8) (Fo:=q78) ([]:DT) [] [] [] (trivial:DTok Tryz.prog []) (by kernel_rfl) ⟨fun o v=>by kernel_rfl⟩ Tryz.func21 Tryz.call21
def q30 (o:DOps):Option (List UInt8) :=
 some (UInt8.ofNat 0::UInt8.ofNat 0::UInt8.ofNat 0::UInt8.ofNat 0::UInt8.ofNat 0::UInt8.ofNat 0::UInt8.ofNat 0::UInt8.ofNat 0::UInt8.ofNat 0::UInt8.ofNat 0::UInt8.ofNat 0::UInt8.ofNat 0::UInt8.ofNat 0::UInt8.ofNat 0::UInt8.ofNat 0::UInt8.ofNat 0::UInt8.ofNat 0::UInt8.ofNat 0::UInt8.ofNat 0::UInt8.ofNat 0::UInt8.ofNat 0::UInt8.ofNat 0::UInt8.ofNat 0::UInt8.ofNat 0::UInt8.ofNat 0::UInt8.ofNat 0::UInt8.ofNat 0::UInt8.ofNat 0::UInt8.ofNat 0::UInt8.ofNat 0::UInt8.ofNat 0::UInt8.ofNat 0::UInt8.ofNat 0::UInt8.ofNat 0::UInt8.ofNat 0::UInt8.ofNat 0::UInt8.ofNat 0::UInt8.ofNat 0::UInt8.ofNat 0::UInt8.ofNat 0::UInt8.ofNat 0::UInt8.ofNat 0::UInt8.ofNat 0::UInt8.ofNat 0::UInt8.ofNat 0::UInt8.ofNat 0::UInt8.ofNat 0::UInt8.ofNat 0::UInt8.ofNat 0::UInt8.ofNat 0::UInt8.ofNat 0::UInt8.ofNat 0::UInt8.ofNat 0::UInt8.ofNat 0::UInt8.ofNat 0::UInt8.ofNat 0::UInt8.ofNat 0::UInt8.ofNat 0::UInt8.ofNat 0::UInt8.ofNat 0::UInt8.ofNat 0::UInt8.ofNat 0::UInt8.ofNat 0::UInt8.ofNat 0::UInt8.ofNat 0::UInt8.ofNat 0::UInt8.ofNat 0::UInt8.ofNat 0::UInt8.ofNat 0::UInt8.ofNat 0::UInt8.ofNat 0::UInt8.ofNat 0::UInt8.ofNat 0::UInt8.ofNat 0::UInt8.ofNat 0::UInt8.ofNat 0::UInt8.ofNat 0::UInt8.ofNat 0::UInt8.ofNat 0::UInt8.ofNat 0::UInt8.ofNat 0::UInt8.ofNat 0::UInt8.ofNat 0::UInt8.ofNat 0::UInt8.ofNat 0::UInt8.ofNat 0::UInt8.ofNat 0::UInt8.ofNat 0::UInt8.ofNat 0::UInt8.ofNat 0::UInt8.ofNat 0::UInt8.ofNat 0::UInt8.ofNat 0::UInt8.ofNat 0::UInt8.ofNat 0::UInt8.ofNat 0::UInt8.ofNat 0::UInt8.ofNat 0::UInt8.ofNat 0::UInt8.ofNat 0::UInt8.ofNat 0::UInt8.ofNat 0::UInt8.ofNat 0::UInt8.ofNat 0::UInt8.ofNat 0::UInt8.ofNat 0::UInt8.ofNat 0::UInt8.ofNat 0::UInt8.ofNat 0::UInt8.ofNat 0::UInt8.ofNat 0::UInt8.ofNat 0::UInt8.ofNat 0::UInt8.ofNat 0::UInt8.ofNat 0::UInt8.ofNat 0::UInt8.ofNat 0::UInt8.ofNat 0::UInt8.ofNat 0::UInt8.ofNat 0::UInt8.ofNat 0::UInt8.ofNat 0::UInt8.ofNat 0::UInt8.ofNat 0::UInt8.ofNat 0::UInt8.ofNat 0::UInt8.ofNat 0::UInt8.ofNat 0::UInt8.ofNat 0::UInt8.ofNat 0::UInt8.ofNat 0::UInt8.ofNat 0::UInt8.ofNat 0::UInt8.ofNat 0::UInt8.ofNat 0::UInt8.ofNat 0::UInt8.ofNat 0::UInt8.ofNat 0::UInt8.ofNat 0::UInt8.ofNat 0::UInt8.ofNat 0::UInt8.ofNat 0::UInt8.ofNat 0::UInt8.ofNat 0::UInt8.ofNat 0::UInt8.ofNat 0::UInt8.ofNat 0::UInt8.ofNat 0::UInt8.ofNat 0::UInt8.ofNat 0::UInt8.ofNat 0::UInt8.ofNat 0::UInt8.ofNat 0::UInt8.ofNat 0::UInt8.ofNat 0::UInt8.ofNat 0::UInt8.ofNat 0::UInt8.ofNat 0::UInt8.ofNat 0::UInt8.ofNat 0::UInt8.ofNat 0::UInt8.ofNat 0::UInt8.ofNat 0::UInt8.ofNat 0::UInt8.ofNat 0::UInt8.ofNat 0::UInt8.ofNat 0::UInt8.ofNat 0::UInt8.ofNat 0::UInt8.ofNat 0::UInt8.ofNat 0::UInt8.ofNat 0::UInt8.ofNat 0::UInt8.ofNat 0::UInt8.ofNat 0::UInt8.ofNat 0::UInt8.ofNat 0::UInt8.ofNat 0::UInt8.ofNat 0::UInt8.ofNat 0::UInt8.ofNat 0::UInt8.ofNat 0::UInt8.ofNat 0::UInt8.ofNat 0::UInt8.ofNat 0::UInt8.ofNat 0::UInt8.ofNat 0::UInt8.ofNat 0::UInt8.ofNat 0::UInt8.ofNat 0::UInt8.ofNat 0::UInt8.ofNat 0::UInt8.ofNat 0::UInt8.ofNat 0::UInt8.ofNat 0::UInt8.ofNat 0::UInt8.ofNat 0::UInt8.ofNat 0::UInt8.ofNat 0::UInt8.ofNat 0::UInt8.ofNat 0::UInt8.ofNat 0::UInt8.ofNat 0::UInt8.ofNat 0::UInt8.ofNat 0::UInt8.ofNat 0::UInt8.ofNat 0::UInt8.ofNat 0::UInt8.ofNat 0::UInt8.ofNat 0::UInt8.ofNat 0::UInt8.ofNat 0::UInt8.ofNat 0::UInt8.ofNat 0::UInt8.ofNat 0::UInt8.ofNat 0::UInt8.ofNat 0::UInt8.ofNat 0::UInt8.ofNat 0::UInt8.ofNat 0::UInt8.ofNat 0::UInt8.ofNat 0::UInt8.ofNat 0::UInt8.ofNat 0::UInt8.ofNat 0::UInt8.ofNat 0::UInt8.ofNat 0::UInt8.ofNat 0::UInt8.ofNat 0::UInt8.ofNat 0::UInt8.ofNat 0::UInt8.ofNat 0::UInt8.ofNat 0::UInt8.ofNat 0::UInt8.ofNat 0::UInt8.ofNat 0::UInt8.ofNat 0::UInt8.ofNat 0::UInt8.ofNat 0::UInt8.ofNat 0::UInt8.ofNat 0::UInt8.ofNat 0::UInt8.ofNat 0::UInt8.ofNat 0::UInt8.ofNat 0::UInt8.ofNat 0::UInt8.ofNat 0::UInt8.ofNat 0::UInt8.ofNat 0::UInt8.ofNat 0::UInt8.ofNat 0::UInt8.ofNat 0::UInt8.ofNat 0::UInt8.ofNat 0::UInt8.ofNat 0::UInt8.ofNat 0::qam)
def qnv:DFn:={ro:=false,args:=.nil,out:={slots:=(.ptr 1000 0 (.dd 2 .nil)),blks:=[(1000,.cells (.sl 0 .nil))],fz:=true},T:=List UInt8,to:=fun(v:(Unit)×((List UInt8×Unit)×Unit)×(Unit))=>v.2.1.1.1,of:=fun x=>((),((x,()),()),())}
def q7B:=q30 DOps.ev
def q31 (o:DOps):qnv.In→Option qnv.T:=fun v=>q30 o
def q32:DSpec:=qae qnv Tryz.f22 (q31 DOps.ev)
theorem q5g:DH Tryz.prog 22 q32:=qad (d:=qnv) (Fo:=q31) ([]:DT) [] [] [] (trivial:DTok Tryz.prog []) (by kernel_rfl) ⟨fun o v=>by kernel_rfl⟩ Tryz.func22 Tryz.call22
def qv9 (o:DOps)(s:SiteT):Option (Bool) :=
 bif bif bif bif bif bif decide ((s.groups.length:Int) > 40) then true else decide ((s.apart.length:Int) > 40) then true else decide ((s.between.length:Int) > 40) then true else decide ((s.phases.length:Int) > 40) then true else decide ((s.eyes.length:Int) > 60) then true else decide ((s.plans.length:Int) > 40) then some true else o.fix (((),((s,()),()),(0:Int),())) fun r1 (_,((x2,_),_),n3,_)=>bif decide (n3<x2.between.length) then ix o x2.between n3 (dflt 7) fun z9=>bif decide ((z9.length:Int) > 40) then some true else inc o n3 fun n10=>r1 (((),((x2,()),()),n10,())) else o.fix (((),((x2,()),()),(0:Int),())) fun r4 (_,((x5,_),_),n6,_)=>bif decide (n6<x5.plans.length) then ix o x5.plans n6 (dflt 10) fun x7=>bif decide ((x7.splits.length:Int) > 40) then some true else inc o n6 fun n8=>r4 (((),((x5,()),()),n8,())) else some false
def qnw:DFn:={ro:=true,args:=(.agg (.seg 25 .nil) .nil),out:={slots:=(.dd 2 (.bool (.dd 65 .nil)))},T:=Bool,to:=fun(v:(Unit)×(Unit)×(Bool×Unit))=>v.2.2.1,of:=fun x=>((),(),(x,()))}
def q1g:=qv9 DOps.ev
def q33 (o:DOps):qnw.In→Option qnw.T:=fun v=>qv9 o v.2.2.1.1
def q34:DSpec:=qae qnw Tryz.f23 (q33 DOps.ev)
theorem q5h:DH Tryz.prog 23 q34:=qad (d:=qnw) (Fo:=q33) ([]:DT) [(4,{slots:=(.dead (.ptr 1000 0 (.dead (.int .i64 (.dd 64 .nil))))),blks:=[(1000,.cells (.seg 25 .nil))]}),(9,{slots:=(.dead (.ptr 1000 0 (.dd 2 (.int .i64 (.dd 63 .nil))))),blks:=[(1000,.cells (.seg 25 .nil))]})] [] [] (trivial:DTok Tryz.prog []) (by kernel_rfl) ⟨fun o v=>by kernel_rfl⟩ Tryz.func23 Tryz.call23
def qvA (o:DOps)(l:List Inp):Option (Int) :=
 o.fix (((),(),l,(l.length:Int),(0:Int),())) fun r1 (_,_,z2,n3,n4,_)=>bif decide (n4<z2.length) then ix o z2 n4 (dflt 24) fun x5=>ix o z2 n4 (dflt 24) fun x6=>o.letv (wi ((x5.bytesf.length:Int)+(x6.backf.length:Int))) fun n7=>o.letv (wi (n3+n7)) fun n8=>inc o n4 fun n9=>r1 (((),(),z2,n8,n9,())) else some n3
def qnx:DFn:={ro:=true,args:=(.sl 24 .nil),out:={slots:=(.dd 2 (.int .i64 (.dd 26 .nil)))},T:=Int,to:=fun(v:(Unit)×(Unit)×(Int×Unit))=>v.2.2.1,of:=fun x=>((),(),(x,()))}
def q1h:=qvA DOps.ev
def q35 (o:DOps):qnx.In→Option qnx.T:=fun v=>qvA o v.2.2.1
def q36:DSpec:=qae qnx Tryz.f24 (q35 DOps.ev)
theorem q5i:DH Tryz.prog 24 q36:=qad (d:=qnx) (Fo:=q35) ([]:DT) [(3,{slots:=(.sl 24 (.dd 2 (.int .i64 (.int .i64 (.dd 24 .nil)))))})] [] [] (trivial:DTok Tryz.prog []) (by kernel_rfl) ⟨fun o v=>by kernel_rfl⟩ Tryz.func24 Tryz.call24
def qvB (o:DOps)(a:List (List UInt8))(b:List (List UInt8))(many:Int):Option (Bool) :=
 bif bif decide ((a.length:Int)<many) then true else decide ((b.length:Int)<many) then some false else o.fix (((),(),a,b,many,(0:Int),())) fun r1 (_,_,z2,z3,n4,n5,_)=>bif decide (n5<n4) then ix o z2 n5 (dflt 6) fun z6=>ix o z3 n5 (dflt 6) fun z7=>bif !z6.toArray.toList==z7.toArray.toList then some false else inc o n5 fun n8=>r1 (((),(),z2,z3,n4,n8,())) else some true
def qny:DFn:={ro:=true,args:=(.sl 6 (.sl 6 (.int .i64 .nil))),out:={slots:=(.dd 6 (.bool (.dd 27 .nil)))},T:=Bool,to:=fun(v:(Unit)×(Unit)×(Bool×Unit))=>v.2.2.1,of:=fun x=>((),(),(x,()))}
def q1i:=qvB DOps.ev
def q37 (o:DOps):qny.In→Option qny.T:=fun v=>qvB o v.2.2.1 v.2.2.2.1 v.2.2.2.2.1
def q38:DSpec:=qae qny Tryz.f14 (q37 DOps.ev)
theorem q5j:DH Tryz.prog 14 q38:=qad (d:=qny) (Fo:=q37) ([]:DT) [(4,{slots:=(.sl 6 (.sl 6 (.int .i64 (.dd 4 (.int .i64 (.dd 26 .nil))))))})] [] [] (trivial:DTok Tryz.prog []) (by kernel_rfl) ⟨fun o v=>by kernel_rfl⟩ Tryz.func14 Tryz.call14
def q7C (o:DOps)(lit:List UInt8)(shown:List UInt8):Option (Bool) :=
 some (bif decide ((shown.length:Int) > 0) then !lit.toArray.toList==shown.toArray.toList else false)
def qjx:DFn:={ro:=true,args:=(.sl 0 (.sl 0 .nil)),out:={slots:=(.dd 4 (.bool (.dd 10 .nil)))},T:=Bool,to:=fun(v:(Unit)×(Unit)×(Bool×Unit))=>v.2.2.1,of:=fun x=>((),(),(x,()))}
def qxY (o:DOps):qjx.In→Option qjx.T:=fun v=>q7C o v.2.2.1 v.2.2.2.1
def qxZ:DSpec:=qae qjx Tryz.f19 (qxY DOps.ev)
theorem q1j:DH Tryz.prog 19 qxZ:=qad (d:=qjx) (Fo:=qxY) ([]:DT) [] [] [] (trivial:DTok Tryz.prog []) (by kernel_rfl) ⟨fun o v=>by kernel_rfl⟩ Tryz.func19 Tryz.call19
def tl0:DT:=(210,mnzD)::(51,q7p)::(171,q3m)::(172,tzD .u32 qax)::(173,qfi)::(59,qoL)::(74,q3o)::(73,qoN)::(211,q7s)::(105,q3q)::(170,qxu)::(50,qoQ)::(106,qsm)::(167,q7v)::(199,qso)::(203,qmh)::(63,qmj)::(123,qsq)::(99,qx0)::(168,q7y)::(104,qoU)::(206,qss)::(179,qci)::(120,qx3)::(147,qx5)::(45,qsu)::(125,qoZ)::(156,qsw)::(161,q3t)::(200,qjl)::(197,qx9)::(201,qxB)::(202,qml)::(191,tzD .u64 qay)::(184,qpg)::(129,qo9)::(209,qpi)::(130,qxE)::(186,q72)::(187,qfk)::(188,qsy)::(141,qmn)::(189,qxH)::(137,qs0)::(190,qpn)::(85,qs2)::(142,qs4)::(143,qs6)::(153,q3v)::(101,fixOfS)::(166,q3y)::(177,qs8)::(62,qmp)::(75,qju)::(76,qhE)::(96,qmr)::(98,qps)::(119,qpu)::(212,qsA)::(213,qsD)::(134,qsF)::(148,qsH)::(198,qpy)::(152,qp0)::(195,qsJ)::(155,qp3)::(46,qxU)::(16,qxX)::(15,qp6)::(26,qmu)::(21,q79)::(22,q32)::(23,q34)::(24,q36)::(14,q38)::(19,qxZ)::([]:DT)
theorem qap:DTok Tryz.prog tl0:=.cons mnz_dh <| .cons q7q <| .cons q4Z <| .cons tz32_dh <| .cons qje <| .cons qvf <| .cons q5a <| .cons qvi <| .cons q7t <| .cons q5b <| .cons q0Q <| .cons qvl <| .cons qxv <| .cons q7w <| .cons qxx <| .cons qrv <| .cons qrw <| .cons qxy <| .cons q0S <| .cons q7z <| .cons qvp <| .cons qx1 <| .cons qev <| .cons q0U <| .cons q0V <| .cons qx6 <| .cons qvr <| .cons qx7 <| .cons q5c <| .cons qpc <| .cons q0W <| .cons q0X <| .cons qrx <| .cons tz64_dh <| .cons qvt <| .cons q0I <| .cons qvu <| .cons q1a <| .cons q73 <| .cons qjp <| .cons qxF <| .cons qry <| .cons q1c <| .cons qxI <| .cons qvx <| .cons qxJ <| .cons qxK <| .cons qxL <| .cons q5d <| .cons fixOf_ok <| .cons q5e <| .cons qxM <| .cons qr0 <| .cons qpq <| .cons qmW <| .cons qr2 <| .cons qv1 <| .cons qv2 <| .cons qxN <| .cons qxO <| .cons qxP <| .cons qxQ <| .cons qv3 <| .cons qv4 <| .cons qxR <| .cons qv5 <| .cons q1e <| .cons q1f <| .cons qv7 <| .cons qr3 <| .cons q7A <| .cons q5g <| .cons q5h <| .cons q5i <| .cons q5j <| .cons q1j <| (trivial:DTok Tryz.prog [])
def qlg (o:DOps)(s:SiteT):Option (Bool) :=
 o.bind (qcv (s.groups.length:Int) (1:Int) (16:Int)) fun b1=>bif bif bif !b1 then true else (s.apart.length:Int) != (s.groups.length:Int) then true else (s.between.length:Int) != (s.groups.length:Int) then some false else o.bind (qcv (s.phases.length:Int) (1:Int) (8:Int)) fun b2=>bif bif bif !b2 then true else decide ((s.eyes.length:Int) > 24) then true else decide ((s.plans.length:Int) > 8) then some false else o.fix (((),((s,()),()),(s.groups.length:Int),s.between,(s.between.length:Int),(0:Int),())) fun r3 (_,((x4,_),_),n5,z6,n7,n8,_)=>bif decide (n8<n7) then ix o z6 n8 (dflt 7) fun z9=>req (!!(z9.length:Int) != n5||decide (0≤n8)&&decide (n8<x4.apart.length)) <| o.letv (x4.apart.getD n8.toNat (0:UInt32)) fun x10=>req (!!(z9.length:Int) != n5||decide (0≤n5)) <| o.letv ((↑x10.toNat:Int).fdiv ((2:Int) ^ min n5.toNat IntKind.u32.bits)) fun n11=>bif bif (z9.length:Int) != n5 then true else n11 != 0 then some false else inc o n8 fun n12=>r3 (((),((x4,()),()),n5,z6,n7,n12,())) else some true
def qgD:DFn:={ro:=true,args:=(.agg (.seg 25 .nil) .nil),out:={slots:=(.dd 2 (.bool (.dd 65 .nil)))},T:=Bool,to:=fun(v:(Unit)×(Unit)×(Bool×Unit))=>v.2.2.1,of:=fun x=>((),(),(x,()))}
def qp8:=qlg DOps.ev
def qsK (o:DOps):qgD.In→Option qgD.T:=fun v=>qlg o v.2.2.1.1
def qsL:DSpec:=qae qgD Tryz.f52 (qsK DOps.ev)
theorem qya:DH Tryz.prog 52 qsL:=qad (d:=qgD) (Fo:=qsK) tl0 [(5,{slots:=(.dead (.ptr 1000 0 (.dead (.int .i64 (.dd 42 (.sl 7 (.int .i64 (.int .i64 (.dd 19 .nil))))))))),blks:=[(1000,.cells (.seg 25 .nil))]})] [] [] qap (by kernel_rfl) ⟨fun o v=>by kernel_rfl⟩ Tryz.func52 Tryz.call52
def qlh (o:DOps)(l:List Int):Option (Bool) :=
 o.fix (((),(),l,(l.length:Int),(0:Int),())) fun r1 (_,_,z2,n3,n4,_)=>bif decide (n4<n3) then ix o z2 n4 (0:Int) fun n5=>o.bind (qcv n5 (1:Int) (1048576:Int)) fun b6=>bif !b6 then some false else inc o n4 fun n7=>r1 (((),(),z2,n3,n7,())) else some true
def qgE:DFn:={ro:=true,args:=(.sl 1 .nil),out:={slots:=(.dd 2 (.bool (.dd 12 .nil)))},T:=Bool,to:=fun(v:(Unit)×(Unit)×(Bool×Unit))=>v.2.2.1,of:=fun x=>((),(),(x,()))}
def qcR:=qlh DOps.ev
def qsM (o:DOps):qgE.In→Option qgE.T:=fun v=>qlh o v.2.2.1
def qsN:DSpec:=qae qgE Tryz.f109 (qsM DOps.ev)
theorem qyb:DH Tryz.prog 109 qsN:=qad (d:=qgE) (Fo:=qsM) tl0 [(2,{slots:=(.dd 5 (.sl 1 (.int .i64 (.int .i64 (.dd 7 .nil)))))})] [] [] qap (by kernel_rfl) ⟨fun o v=>by kernel_rfl⟩ Tryz.func109 Tryz.call109
def qvC (o:DOps)(s:Int)(i:Int):Option (Bool) :=
 o.bind (qoJ i) fun n1=>o.letv (bits BinOp.and IntKind.u32 s n1) fun n2=>some (n2 != 0)
def qnz:DFn:={ro:=true,args:=(.int .u32 (.int .i64 .nil)),out:={slots:=(.dd 4 (.bool (.dd 5 .nil)))},T:=Bool,to:=fun(v:(Unit)×(Unit)×(Bool×Unit))=>v.2.2.1,of:=fun x=>((),(),(x,()))}
def qli:=qvC DOps.ev
def q39 (o:DOps):qnz.In→Option qnz.T:=fun v=>qvC o v.2.2.1 v.2.2.2.1
def q3A:DSpec:=qae qnz Tryz.f110 (q39 DOps.ev)
theorem q5k:DH Tryz.prog 110 q3A:=qad (d:=qnz) (Fo:=q39) tl0 [] [] [] qap (by kernel_rfl) ⟨fun o v=>by kernel_rfl⟩ Tryz.func110 Tryz.call110
def qlj (o:DOps)(s:Int):Option (Int) :=
 bif s==0 then some ((-1:Int)) else o.bind (qax s) fun n1=>some n1
def qgF:DFn:={ro:=true,args:=(.int .u32 .nil),out:={slots:=(.dd 2 (.int .i64 (.dd 4 .nil)))},T:=Int,to:=fun(v:(Unit)×(Unit)×(Int×Unit))=>v.2.2.1,of:=fun x=>((),(),(x,()))}
def qjy:=qlj DOps.ev
def qsO (o:DOps):qgF.In→Option qgF.T:=fun v=>qlj o v.2.2.1
def qsP:DSpec:=qae qgF Tryz.f111 (qsO DOps.ev)
theorem qyc:DH Tryz.prog 111 qsP:=qad (d:=qgF) (Fo:=qsO) tl0 [] [] [] qap (by kernel_rfl) ⟨fun o v=>by kernel_rfl⟩ Tryz.func111 Tryz.call111
def qfJ (o:DOps)(s:Int)(i:Int):Option (Int) :=
 o.bind (qoJ i) fun n1=>o.letv (bits BinOp.andNot IntKind.u32 s n1) fun n2=>some n2
def qdt:DFn:={ro:=true,args:=(.int .u32 (.int .i64 .nil)),out:={slots:=(.dd 4 (.int .u32 (.dd 4 .nil)))},T:=Int,to:=fun(v:(Unit)×(Unit)×(Int×Unit))=>v.2.2.1,of:=fun x=>((),(),(x,()))}
def qcS:=qfJ DOps.ev
def qmv (o:DOps):qdt.In→Option qdt.T:=fun v=>qfJ o v.2.2.1 v.2.2.2.1
def qmw:DSpec:=qae qdt Tryz.f112 (qmv DOps.ev)
theorem qr4:DH Tryz.prog 112 qmw:=qad (d:=qdt) (Fo:=qmv) tl0 [] [] [] qap (by kernel_rfl) ⟨fun o v=>by kernel_rfl⟩ Tryz.func112 Tryz.call112
def qlk (o:DOps)(s:Int):Option (Int) :=
 o.bind (qcP s) fun n1=>some n1
def qgG:DFn:={ro:=true,args:=(.int .u32 .nil),out:={slots:=(.dd 2 (.int .i64 (.dd 2 .nil)))},T:=Int,to:=fun(v:(Unit)×(Unit)×(Int×Unit))=>v.2.2.1,of:=fun x=>((),(),(x,()))}
def qp9:=qlk DOps.ev
def qsQ (o:DOps):qgG.In→Option qgG.T:=fun v=>qlk o v.2.2.1
def qsR:DSpec:=qae qgG Tryz.f113 (qsQ DOps.ev)
theorem qyd:DH Tryz.prog 113 qsR:=qad (d:=qgG) (Fo:=qsQ) tl0 [] [] [] qap (by kernel_rfl) ⟨fun o v=>by kernel_rfl⟩ Tryz.func113 Tryz.call113
def qll (o:DOps)(d:List UInt8):Option (Int×Int) :=
 o.bind (qdO d) fun n1=>bif n1 != 0 then some (((0:Int),n1)) else o.letv (wi ((d.length:Int).tdiv (64:Int))) fun n2=>some ((n2,(0:Int)))
def qgH:DFn:={ro:=true,args:=(.agg (.sl 0 .nil) .nil),out:={slots:=(.dd 2 (.int .i64 (.int .i64 (.dd 10 .nil))))},T:=Int×Int,to:=fun(v:(Unit)×(Unit)×(Int×Int×Unit))=>(v.2.2.1,v.2.2.2.1),of:=fun x=>((),(),(x.1,(x.2,())))}
def qdT:=qll DOps.ev
def qsS (o:DOps):qgH.In→Option qgH.T:=fun v=>qll o v.2.2.1.1
def qsT:DSpec:=qae qgH Tryz.f58 (qsS DOps.ev)
theorem qye:DH Tryz.prog 58 qsT:=qad (d:=qgH) (Fo:=qsS) tl0 [] [] [] qap (by kernel_rfl) ⟨fun o v=>by kernel_rfl⟩ Tryz.func58 Tryz.call58
def qfK (o:DOps)(b:List UInt8):Option (Int) :=
 o.bind (qxs b) fun(n1,n2)=>some n1
def qdu:DFn:={ro:=true,args:=(.sl 0 .nil),out:={slots:=(.dd 2 (.int .u64 (.dd 8 .nil)))},T:=Int,to:=fun(v:(Unit)×(Unit)×(Int×Unit))=>v.2.2.1,of:=fun x=>((),(),(x,()))}
def qcT:=qfK DOps.ev
def qmx (o:DOps):qdu.In→Option qdu.T:=fun v=>qfK o v.2.2.1
def qmy:DSpec:=qae qdu Tryz.f182 (qmx DOps.ev)
theorem qr5:DH Tryz.prog 182 qmy:=qad (d:=qdu) (Fo:=qmx) tl0 [] [] [] qap (by kernel_rfl) ⟨fun o v=>by kernel_rfl⟩ Tryz.func182 Tryz.call182
def qpA (o:DOps)(l:List Int):Option (List UInt8) :=
 o.fix (((qam,()),(),l,(l.length:Int),(0:Int),())) fun r1 ((z2,_),_,z3,n4,n5,_)=>bif decide (n5<n4) then ix o z3 n5 (0:Int) fun n6=>o.letv (wu n6) fun n7=>o.bind (qdk n7) fun z8=>rm (z2.length+z8.length) 1 <| o.letv (List.take z2.length z2++List.take z8.length z8) fun z9=>inc o n5 fun n10=>rs (z2.length+z8.length) z9.length <| r1 (((z9,()),(),z3,n4,n10,())) else rs z2.length z2.length <| some z2
def qjz:DFn:={ro:=true,own:=[true],lend:=fun j=>Nat.beq j 0,args:=(.nilsl (.sl 1 .nil)),out:={slots:=(.dd 4 (.row 0 900 (.dd 15 .nil))),blks:=[(900,.row 0)],boxes:=[(4,900,0)]},T:=List (UInt8),to:=fun(v:(List (UInt8)×Unit)×(Unit)×(Unit))=>v.1.1,of:=fun x=>((x,()),(),())}
def qvD:=qpA DOps.ev
def qyf (o:DOps):qjz.In→Option qjz.T:=fun v=>qpA o v.2.2.1
def qyg:DSpec:=qae qjz Tryz.f169 (qyf DOps.ev)
theorem q1k:DH Tryz.prog 169 qyg:=qad (d:=qjz) (Fo:=qyf) tl0 [(2,{slots:=(.row 0 900 (.dd 6 (.sl 1 (.int .i64 (.int .i64 (.dd 10 .nil)))))),blks:=[(900,.row 0)],boxes:=[(0,900,0)]})] [] [] qap (by kernel_rfl) ⟨fun o v=>by kernel_rfl⟩ Tryz.func169 Tryz.call169
def qil (o:DOps)(r:List UInt8)(r2:Bool)(r3:SiteT)(most:Int):Option (Int×List UInt8×Bool×SiteT) :=
 o.bind (qkI r) fun(n1,n2,n3)=>o.letv (wu most) fun n4=>bif bif n3 != 0 then true else decide (n1 > n4) then some (((0:Int),r,true,r3)) else req (decide (0≤n2)) <| req (decide (n2≤r.length)) <| o.letv (wi n1) fun n5=>some ((n5,List.drop n2.toNat r,r2,r3))
def qe8:DFn:={ro:=false,own:=[false],args:=(.ptr 0 0 (.int .i64 .nil)),B:=[.cells (.sl 0 (.bool (.seg 25 .nil)))],out:={slots:=(.dd 4 (.int .i64 (.dd 34 .nil))),blks:=[(0,.cells (.sl 0 (.bool (.seg 25 .nil))))],fz:=true},T:=Int×List UInt8×Bool×SiteT,to:=fun(v:(Unit)×((List UInt8×Bool×SiteT×Unit)×Unit)×(Int×Unit))=>(v.2.2.1,v.2.1.1.1,v.2.1.1.2.1,v.2.1.1.2.2.1),of:=fun x=>((),((x.2.1,(x.2.2.1,(x.2.2.2,()))),()),(x.1,()))}
def qbc:=qil DOps.ev
def qpB (o:DOps):qe8.In→Option qe8.T:=fun v=>qil o v.2.1.1.1 v.2.1.1.2.1 v.2.1.1.2.2.1 v.2.2.1
def qpC:DSpec:=qae qe8 Tryz.f218 (qpB DOps.ev)
theorem qvE:DH Tryz.prog 218 qpC:=qad (d:=qe8) (Fo:=qpB) tl0 [] [] [] qap (by kernel_rfl) ⟨fun o v=>by kernel_rfl⟩ Tryz.func218 Tryz.call218
def qvF (o:DOps)(r:List UInt8)(r2:Bool)(most:Int):Option (Int×List UInt8×Bool) :=
 o.bind (qkI r) fun(n1,n2,n3)=>o.letv (wu most) fun n4=>bif bif n3 != 0 then true else decide (n1 > n4) then some (((0:Int),r,true)) else req (decide (0≤n2)) <| req (decide (n2≤r.length)) <| o.letv (wi n1) fun n5=>some ((n5,List.drop n2.toNat r,r2))
def qn0:DFn:={ro:=false,own:=[false],args:=(.ptr 0 0 (.int .i64 .nil)),B:=[.cells (.sl 0 (.bool .nil))],out:={slots:=(.dd 4 (.int .i64 (.dd 34 .nil))),blks:=[(0,.cells (.sl 0 (.bool .nil)))],fz:=true},T:=Int×List UInt8×Bool,to:=fun(v:(Unit)×((List UInt8×Bool×Unit)×Unit)×(Int×Unit))=>(v.2.2.1,v.2.1.1.1,v.2.1.1.2.1),of:=fun x=>((),((x.2.1,(x.2.2,())),()),(x.1,()))}
def qim:=qvF DOps.ev
def q3B (o:DOps):qn0.In→Option qn0.T:=fun v=>qvF o v.2.1.1.1 v.2.1.1.2.1 v.2.2.1
def q3C:DSpec:=qae qn0 Tryz.f48 (q3B DOps.ev)
theorem q5l:DH Tryz.prog 48 q3C:=qad (d:=qn0) (Fo:=q3B) tl0 [] [] [] qap (by kernel_rfl) ⟨fun o v=>by kernel_rfl⟩ Tryz.func48 Tryz.call48
def qpD (o:DOps)(l:List Int):Option (List UInt8) :=
 o.fix (((qam,()),(),l,(l.length:Int),(0:Int),())) fun r1 ((z2,_),_,z3,n4,n5,_)=>bif decide (n5<n4) then ix o z3 n5 (0:Int) fun n6=>o.letv (wu n6) fun n7=>o.bind (qdk n7) fun z8=>rm (z2.length+z8.length) 1 <| o.letv (List.take z2.length z2++List.take z8.length z8) fun z9=>inc o n5 fun n10=>rs (z2.length+z8.length) z9.length <| r1 (((z9,()),(),z3,n4,n10,())) else rs z2.length z2.length <| some z2
def qj0:DFn:={ro:=true,own:=[true],lend:=fun j=>Nat.beq j 0,args:=(.nilsl (.sl 1 .nil)),out:={slots:=(.dd 4 (.row 0 900 (.dd 15 .nil))),blks:=[(900,.row 0)],boxes:=[(4,900,0)]},T:=List (UInt8),to:=fun(v:(List (UInt8)×Unit)×(Unit)×(Unit))=>v.1.1,of:=fun x=>((x,()),(),())}
def qe9:=qpD DOps.ev
def qyh (o:DOps):qj0.In→Option qj0.T:=fun v=>qpD o v.2.2.1
def qyi:DSpec:=qae qj0 Tryz.f108 (qyh DOps.ev)
theorem q1l:DH Tryz.prog 108 qyi:=qad (d:=qj0) (Fo:=qyh) tl0 [(2,{slots:=(.row 0 900 (.dd 6 (.sl 1 (.int .i64 (.int .i64 (.dd 10 .nil)))))),blks:=[(900,.row 0)],boxes:=[(0,900,0)]})] [] [] qap (by kernel_rfl) ⟨fun o v=>by kernel_rfl⟩ Tryz.func108 Tryz.call108
def qeA (o:DOps)(s:SiteT):Option (Int) :=
 o.fix (((),((s,()),()),(0:Int),(s.groups.length:Int),(0:Int),())) fun r1 (_,((x2,_),_),n3,n4,n5,_)=>bif decide (n5<n4) then o.fix (((),((x2,()),()),n3,n5,n4,n5,(x2.groups.length:Int),(0:Int),())) fun r6 (_,((x7,_),_),n8,n9,n10,n11,n12,n13,_)=>bif decide (n13<n12) then o.bind (qfD x7 n9 n13) fun b15=>bif b15 then o.bind (qes x7 n9 n13) fun n17=>o.letv (max n8 n17) fun n18=>inc o n13 fun n19=>r6 (((),((x7,()),()),n18,n9,n10,n11,n12,n19,())) else inc o n13 fun n16=>r6 (((),((x7,()),()),n8,n9,n10,n11,n12,n16,())) else inc o n11 fun n14=>r1 (((),((x7,()),()),n8,n10,n14,())) else some n3
def qc0:DFn:={ro:=true,args:=(.agg (.seg 25 .nil) .nil),out:={slots:=(.dd 2 (.int .i64 (.dd 28 .nil)))},T:=Int,to:=fun(v:(Unit)×(Unit)×(Int×Unit))=>v.2.2.1,of:=fun x=>((),(),(x,()))}
def qcj:=qeA DOps.ev
def qj1 (o:DOps):qc0.In→Option qc0.T:=fun v=>qeA o v.2.2.1.1
def qj2:DSpec:=qae qc0 Tryz.f165 (qj1 DOps.ev)
theorem qpE:DH Tryz.prog 165 qj2:=qad (d:=qc0) (Fo:=qj1) tl0 [(3,{slots:=(.dead (.ptr 1000 0 (.dead (.int .i64 (.dd 4 (.int .i64 (.int .i64 (.dd 21 .nil)))))))),blks:=[(1000,.cells (.seg 25 .nil))]}),(6,{slots:=(.dead (.ptr 1000 0 (.dead (.int .i64 (.int .i64 (.dd 3 (.int .i64 (.int .i64 (.dd 4 (.int .i64 (.int .i64 (.dd 15 .nil)))))))))))),blks:=[(1000,.cells (.seg 25 .nil))]})] [] [] qap (by kernel_rfl) ⟨fun o v=>by kernel_rfl⟩ Tryz.func165 Tryz.call165
def qbz (o:DOps)(m:Msg):Option (List UInt8×Int) :=
 bif decide ((m.body.length:Int) > 512) then some ((qam,(3:Int))) else o.letv (wu (↑m.seq.toNat:Int)) fun n1=>o.bind (qxw n1 (4:Int)) fun(z2,n3)=>o.join (fun J4=>sm o [req (decide ((1+z2.length)*1≤140737488355328)) <| o.letv (UInt8.ofNat (↑m.kind.toNat:Int).toNat::List.append._f [] PUnit.unit (List.take z2.length z2)) fun z5=>req (decide ((1+z2.length+m.body.length)*1≤140737488355328)) <| o.letv (List.take (1+z2.length) z5++m.body) fun z6=>rs (1+z2.length+m.body.length) z6.length <| J4 (((z6,()),(),()))] (.n (.n (.l 0) (.n (.l 0) (.l 0))) (.n (.n (.l 0) (.l 0)) (.l 0)))) fun((z17,_),_,_)=>o.bind (q3r (List.take z17.length z17)) fun n18=>o.letv (wu n18) fun n19=>o.bind (qxw n19 (4:Int)) fun(z20,n21)=>rm (z17.length+z20.length) 1 <| o.letv (List.take z17.length z17++List.take z20.length z20) fun z22=>rs (z17.length+z20.length) z22.length <| some ((z22,(0:Int)))
def qdv:DFn:={ro:=true,args:=(.agg (.seg 8 .nil) .nil),out:={slots:=(.dd 2 (.row 0 902 (.int .i64 (.dd 34 .nil)))),blks:=[(902,.row 0)],boxes:=[(2,902,0)]},T:=List (UInt8)×Int,to:=fun(v:(List (UInt8)×Unit)×(Unit)×(Int×Unit))=>(v.1.1,v.2.2.1),of:=fun x=>((x.1,()),(),(x.2,()))}
def qin:=qbz DOps.ev
def qmz (o:DOps):qdv.In→Option qdv.T:=fun v=>qbz o v.2.2.1.1
def qm0:DSpec:=qae qdv Tryz.f103 (qmz DOps.ev)
theorem qr6 (m:Msg):qbz DOps.std m=qbz DOps.ev m:=by unfold qbz;simp (disch:=first|rfl|(simp only[qaL];exact req5 _ _ _ _ _ _)|(simp only[mks];first|exact qaK _ _ _|exact qcB _ _ _ _|exact qcC _ _ _ _|exact qcD _ _ _ _|exact qcE _ _ _ _|exact qcF _ _ _ _)) only[sm_l,sm_n,qdA,qdB,qhM,qaz,qbo];kernel_rfl
theorem qr7:DH Tryz.prog 103 qm0:=qad (d:=qdv) (Fo:=qmz) tl0 [] [(4,{slots:=(.dd 6 (.row 0 906 (.dd 31 .nil))),blks:=[(906,.row 0)],boxes:=[(6,906,0)]})] [] qap (funext fun v=>qr6 _) ⟨fun o v=>by kernel_rfl⟩ Tryz.func103 Tryz.call103
def qlm (o:DOps)(b:List UInt8):Option (Int×Int×Int×List UInt8) :=
 o.letv (wi ((b.length:Int)-4)) fun n1=>bif bif decide (n1<5) then true else decide (n1 > 517) then some (((8:Int),(0:Int),(0:Int),qam)) else req (decide ((5:Int)≤b.length)) <| o.bind (qxs (List.drop (Int.toNat (1:Int)) (List.take (Int.toNat (5:Int)) b))) fun(n2,n3)=>req (decide (0≤n1)) <| req (decide (n1≤b.length)) <| o.bind (qxs (List.drop n1.toNat b)) fun(n4,n5)=>req (decide (0≤n1)) <| req (decide (n1≤b.length)) <| o.bind (q3r (List.take n1.toNat b)) fun n6=>o.letv (wu n6) fun n7=>bif n7 != n4 then some (((8:Int),(0:Int),(0:Int),qam)) else req (decide ((0:Int)<b.length)) <| o.letv (b.getD (Int.toNat (0:Int)) (0:UInt8)) fun x8=>o.letv (wq n2) fun n9=>req (decide (5≤n1)) <| req (decide (n1≤b.length)) <| o.bind (qc6 (List.drop (Int.toNat (5:Int)) (List.take n1.toNat b))) fun z10=>rs z10.length z10.length <| some (((0:Int),(↑x8.toNat:Int),n9,z10))
def qgI:DFn:={ro:=true,args:=(.sl 0 .nil),out:={slots:=(.dd 2 (.ptr 1000 0 (.int .i64 (.dd 46 .nil)))),blks:=[(1000,.cells (.int .u8 (.int .u32 (.row 0 950 .nil)))),(950,.row 0)],boxes:=[(1000202,950,0)]},T:=Int×Int×Int×List (UInt8),to:=fun(v:(List (UInt8)×Unit)×((Int×Int×Unit)×Unit)×(Int×Unit))=>(v.2.2.1,v.2.1.1.1,v.2.1.1.2.1,v.1.1),of:=fun x=>((x.2.2.2,()),((x.2.1,(x.2.2.1,())),()),(x.1,()))}
def qpF:=qlm DOps.ev
def qsU (o:DOps):qgI.In→Option qgI.T:=fun v=>qlm o v.2.2.1
def qsV:DSpec:=qae qgI Tryz.f207 (qsU DOps.ev)
theorem qyj:DH Tryz.prog 207 qsV:=qad (d:=qgI) (Fo:=qsU) tl0 [] [] [] qap (by kernel_rfl) ⟨fun o v=>by kernel_rfl⟩ Tryz.func207 Tryz.call207
end
end Go.Proofs.YtcdppfnjidlknaaGreatDoor
