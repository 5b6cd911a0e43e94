import Derived.Test.YtcdppfnjidlknaaGreatDoorOaw
set_option linter.unusedVariables false
set_option linter.unusedSimpArgs false
namespace Go.Proofs.YtcdppfnjidlknaaGreatDoor
open Go Go.Eng Go.Proofs
set_option maxRecDepth 8000
noncomputable section
def q0O (o:DOps)(x:Int)(from0:Int)(to:Int):Option (Bool) :=
 some (bif decide (x≥from0) then decide (x≤to) else false)
def qve:DFn:={ro:=true,args:=(.int .i64 (.int .i64 (.int .i64 .nil))),out:={slots:=(.dd 6 (.bool (.dd 8 .nil)))},T:=Bool,to:=fun(v:(Unit)×(Unit)×(Bool×Unit))=>v.2.2.1,of:=fun x=>((),(),(x,()))}
def qcx:=q0O DOps.ev
def q7q (o:DOps):qve.In→Option qve.T:=fun v=>q0O o v.2.2.1 v.2.2.2.1 v.2.2.2.2.1
def q7r:DSpec:=qae qve Tryz.f51 (q7q DOps.ev)
theorem q7s:DH Tryz.prog 51 q7r:=qad (d:=qve) (Fo:=q7q) ([]:DT) [] [] [] (trivial:DTok Tryz.prog []) (by kernel_rfl) ⟨fun o v=>by kernel_rfl⟩ Tryz.func51 Tryz.call51
def qvf (o:DOps)(i:Int):Option (Int) :=
 bif bif decide (i<0) then true else decide (i > 31) then some ((0:Int)) else req (decide (0≤i)) <| o.letv (wq ((1:Int)*2 ^ min i.toNat IntKind.u32.bits)) fun n1=>some n1
def qnl:DFn:={ro:=true,args:=(.int .i64 .nil),out:={slots:=(.dd 2 (.int .u32 (.dd 8 .nil)))},T:=Int,to:=fun(v:(Unit)×(Unit)×(Int×Unit))=>v.2.2.1,of:=fun x=>((),(),(x,()))}
def qoH:=qvf DOps.ev
def q3m (o:DOps):qnl.In→Option qnl.T:=fun v=>qvf o v.2.2.1
def q3n:DSpec:=qae qnl Tryz.f171 (q3m DOps.ev)
theorem q5e:DH Tryz.prog 171 q3n:=qad (d:=qnl) (Fo:=q3m) ([]:DT) [] [] [] (trivial:DTok Tryz.prog []) (by kernel_rfl) ⟨fun o v=>by kernel_rfl⟩ Tryz.func171 Tryz.call171
def tab0:ByteArray:={data:=(([(0:UInt8),(1:UInt8),(1:UInt8),(2:UInt8),(1:UInt8),(2:UInt8),(2:UInt8),(3:UInt8),(1:UInt8),(2:UInt8),(2:UInt8),(3:UInt8),(2:UInt8),(3:UInt8),(3:UInt8),(4:UInt8),(1:UInt8),(2:UInt8),(2:UInt8),(3:UInt8),(2:UInt8),(3:UInt8),(3:UInt8),(4:UInt8),(2:UInt8),(3:UInt8),(3:UInt8),(4:UInt8),(3:UInt8),(4:UInt8),(4:UInt8),(5:UInt8),(1:UInt8),(2:UInt8),(2:UInt8),(3:UInt8),(2:UInt8),(3:UInt8),(3:UInt8),(4:UInt8),(2:UInt8),(3:UInt8),(3:UInt8),(4:UInt8),(3:UInt8),(4:UInt8),(4:UInt8),(5:UInt8),(2:UInt8),(3:UInt8),(3:UInt8),(4:UInt8),(3:UInt8),(4:UInt8),(4:UInt8),(5:UInt8),(3:UInt8),(4:UInt8),(4:UInt8),(5:UInt8),(4:UInt8),(5:UInt8),(5:UInt8),(6:UInt8)].append [(1:UInt8),(2:UInt8),(2:UInt8),(3:UInt8),(2:UInt8),(3:UInt8),(3:UInt8),(4:UInt8),(2:UInt8),(3:UInt8),(3:UInt8),(4:UInt8),(3:UInt8),(4:UInt8),(4:UInt8),(5:UInt8),(2:UInt8),(3:UInt8),(3:UInt8),(4:UInt8),(3:UInt8),(4:UInt8),(4:UInt8),(5:UInt8),(3:UInt8),(4:UInt8),(4:UInt8),(5:UInt8),(4:UInt8),(5:UInt8),(5:UInt8),(6:UInt8),(2:UInt8),(3:UInt8),(3:UInt8),(4:UInt8),(3:UInt8),(4:UInt8),(4:UInt8),(5:UInt8),(3:UInt8),(4:UInt8),(4:UInt8),(5:UInt8),(4:UInt8),(5:UInt8),(5:UInt8),(6:UInt8),(3:UInt8),(4:UInt8),(4:UInt8),(5:UInt8),(4:UInt8),(5:UInt8),(5:UInt8),(6:UInt8),(4:UInt8),(5:UInt8),(5:UInt8),(6:UInt8),(5:UInt8),(6:UInt8),(6:UInt8),(7:UInt8)]).append ([(1:UInt8),(2:UInt8),(2:UInt8),(3:UInt8),(2:UInt8),(3:UInt8),(3:UInt8),(4:UInt8),(2:UInt8),(3:UInt8),(3:UInt8),(4:UInt8),(3:UInt8),(4:UInt8),(4:UInt8),(5:UInt8),(2:UInt8),(3:UInt8),(3:UInt8),(4:UInt8),(3:UInt8),(4:UInt8),(4:UInt8),(5:UInt8),(3:UInt8),(4:UInt8),(4:UInt8),(5:UInt8),(4:UInt8),(5:UInt8),(5:UInt8),(6:UInt8),(2:UInt8),(3:UInt8),(3:UInt8),(4:UInt8),(3:UInt8),(4:UInt8),(4:UInt8),(5:UInt8),(3:UInt8),(4:UInt8),(4:UInt8),(5:UInt8),(4:UInt8),(5:UInt8),(5:UInt8),(6:UInt8),(3:UInt8),(4:UInt8),(4:UInt8),(5:UInt8),(4:UInt8),(5:UInt8),(5:UInt8),(6:UInt8),(4:UInt8),(5:UInt8),(5:UInt8),(6:UInt8),(5:UInt8),(6:UInt8),(6:UInt8),(7:UInt8)].append [(2:UInt8),(3:UInt8),(3:UInt8),(4:UInt8),(3:UInt8),(4:UInt8),(4:UInt8),(5:UInt8),(3:UInt8),(4:UInt8),(4:UInt8),(5:UInt8),(4:UInt8),(5:UInt8),(5:UInt8),(6:UInt8),(3:UInt8),(4:UInt8),(4:UInt8),(5:UInt8),(4:UInt8),(5:UInt8),(5:UInt8),(6:UInt8),(4:UInt8),(5:UInt8),(5:UInt8),(6:UInt8),(5:UInt8),(6:UInt8),(6:UInt8),(7:UInt8),(3:UInt8),(4:UInt8),(4:UInt8),(5:UInt8),(4:UInt8),(5:UInt8),(5:UInt8),(6:UInt8),(4:UInt8),(5:UInt8),(5:UInt8),(6:UInt8),(5:UInt8),(6:UInt8),(6:UInt8),(7:UInt8),(4:UInt8),(5:UInt8),(5:UInt8),(6:UInt8),(5:UInt8),(6:UInt8),(6:UInt8),(7:UInt8),(5:UInt8),(6:UInt8),(6:UInt8),(7:UInt8),(6:UInt8),(7:UInt8),(7:UInt8),(8:UInt8)])).toArray:ByteArray}
def qct (o:DOps)(x:Int):Option (Int) :=
 o.letv (x.fdiv ((2:Int) ^ min (Int.toNat (24:Int)) IntKind.u32.bits)) fun n1=>req (decide (0≤n1)) <| req (decide (n1<(↑tab0.size:Int))) <| o.letv (qwO tab0 n1) fun n2=>o.letv (x.fdiv ((2:Int) ^ min (Int.toNat (16:Int)) IntKind.u32.bits)) fun n3=>o.letv (bits BinOp.and IntKind.u32 n3 (255:Int)) fun n4=>req (decide (0≤n4)) <| req (decide (n4<(↑tab0.size:Int))) <| o.letv (qwO tab0 n4) fun n5=>o.letv (wb (n2+n5)) fun n6=>o.letv (x.fdiv ((2:Int) ^ min (Int.toNat (8:Int)) IntKind.u32.bits)) fun n7=>o.letv (bits BinOp.and IntKind.u32 n7 (255:Int)) fun n8=>req (decide (0≤n8)) <| req (decide (n8<(↑tab0.size:Int))) <| o.letv (qwO tab0 n8) fun n9=>o.letv (wb (n6+n9)) fun n10=>o.letv (bits BinOp.and IntKind.u32 x (255:Int)) fun n11=>req (decide (0≤n11)) <| req (decide (n11<(↑tab0.size:Int))) <| o.letv (qwO tab0 n11) fun n12=>o.letv (wb (n10+n12)) fun n13=>o.letv (wi n13) fun n14=>some n14
def qbo:DFn:={ro:=true,args:=(.int .u32 .nil),out:={slots:=(.dd 2 (.int .i64 (.dd 18 .nil)))},T:=Int,to:=fun(v:(Unit)×(Unit)×(Int×Unit))=>v.2.2.1,of:=fun x=>((),(),(x,()))}
def qcR:=qct DOps.ev
def qfj (o:DOps):qbo.In→Option qbo.T:=fun v=>qct o v.2.2.1
def qfk:DSpec:=qae qbo Tryz.f173 (qfj DOps.ev)
theorem qje:DH Tryz.prog 173 qfk:=qad (d:=qbo) (Fo:=qfj) ([]:DT) [] [] [] (trivial:DTok Tryz.prog []) (by kernel_rfl) ⟨fun o v=>by kernel_rfl⟩ Tryz.func173 Tryz.call173
def qhZ (o:DOps)(d:List UInt8):Option (Int) :=
 req ((!!bif decide ((d.length:Int)<64) then true else decide ((d.length:Int) > 4096))||decide ((64:Int)≠(0:Int))) <| o.letv ((d.length:Int).tmod (64:Int)) fun n1=>bif bif bif decide ((d.length:Int)<64) then true else decide ((d.length:Int) > 4096) then true else n1 != 0 then some ((180:Int)) else some ((0:Int))
def qer:DFn:={ro:=true,args:=(.agg (.sl 0 .nil) .nil),out:={slots:=(.dd 2 (.int .i64 (.dd 15 .nil)))},T:=Int,to:=fun(v:(Unit)×(Unit)×(Int×Unit))=>v.2.2.1,of:=fun x=>((),(),(x,()))}
def qdQ:=qhZ DOps.ev
def qoI (o:DOps):qer.In→Option qer.T:=fun v=>qhZ o v.2.2.1.1
def qoJ:DSpec:=qae qer Tryz.f59 (qoI DOps.ev)
theorem qvg:DH Tryz.prog 59 qoJ:=qad (d:=qer) (Fo:=qoI) ([]:DT) [] [] [] (trivial:DTok Tryz.prog []) (by kernel_rfl) ⟨fun o v=>by kernel_rfl⟩ Tryz.func59 Tryz.call59
def qvh (o:DOps)(d:List UInt8)(n:Int):Option (List UInt8) :=
 o.letv (wi (n*64)) fun n1=>req (decide (0≤n1)) <| req (decide (n1≤d.length)) <| req (decide ((64:Int)≤(↑(List.drop n1.toNat d).length:Int))) <| some (List.take (Int.toNat (64:Int)) (List.drop n1.toNat d))
def qnm:DFn:={ro:=false,args:=(.agg (.sl 0 .nil) (.int .i64 .nil)),out:={slots:=(.dd 4 (.sl 0 (.dd 6 .nil))),fz:=true},T:=List UInt8,to:=fun(v:(Unit)×(Unit)×(List UInt8×Unit))=>v.2.2.1,of:=fun x=>((),(),(x,()))}
def q0P:=qvh DOps.ev
def q3o (o:DOps):qnm.In→Option qnm.T:=fun v=>qvh o v.2.2.1.1 v.2.2.2.1
def q3p:DSpec:=qae qnm Tryz.f74 (q3o DOps.ev)
theorem q5f:DH Tryz.prog 74 q3p:=qad (d:=qnm) (Fo:=q3o) ([]:DT) [] [] [] (trivial:DTok Tryz.prog []) (by kernel_rfl) ⟨fun o v=>by kernel_rfl⟩ Tryz.func74 Tryz.call74
def qbR (o:DOps)(b:List UInt8):Option (List UInt8) :=
 bif b.isEmpty then sm o [some qan,req (decide ((0+b.length)*1≤140737488355328)) <| o.letv ([]++b) fun z2=>rs (0+b.length) z2.length <| some z2] (.n (.l 0) (.l 1)) else req (decide ((0+b.length)*1≤140737488355328)) <| o.letv ([]++b) fun z1=>rs (0+b.length) z1.length <| some z1
def qes:DFn:={ro:=true,args:=(.sl 0 .nil),out:={slots:=(.dd 2 (.row 0 902 (.dd 5 .nil))),blks:=[(902,.row 0)],boxes:=[(2,902,0)]},T:=List (UInt8),to:=fun(v:(List (UInt8)×Unit)×(Unit)×(Unit))=>v.1.1,of:=fun x=>((x,()),(),())}
def qc8:=qbR DOps.ev
def qoK (o:DOps):qes.In→Option qes.T:=fun v=>qbR o v.2.2.1
def qoL:DSpec:=qae qes Tryz.f73 (qoK DOps.ev)
theorem qvi (b:List UInt8):qbR DOps.std b=qbR DOps.ev b:=by cases b with|nil=>(unfold qbR;simp only[List.isEmpty_nil,cond_true,sm_l,sm_n,qdC,qdD];exact qa0 (by kernel_rfl))|cons x l=>kernel_rfl
theorem qvj:DH Tryz.prog 73 qoL:=qad (d:=qes) (Fo:=qoK) ([]:DT) [] [] [] (trivial:DTok Tryz.prog []) (funext fun v=>qvi _) ⟨fun o v=>by kernel_rfl⟩ Tryz.func73 Tryz.call73
def q0Q (o:DOps)(b:List UInt8):Option (Int×Int) :=
 bif bif decide ((b.length:Int)<1) then true else decide ((b.length:Int) > 8) then some (((0:Int),(8:Int))) else o.fix (((),(),(0:Int),b,(b.length:Int),(0:Int),())) fun r1 (_,_,n2,z3,n4,n5,_)=>bif decide (n5<n4) then ix o z3 n5 (0:UInt8) fun x6=>o.letv (wu (↑x6.toNat:Int)) fun n7=>o.letv (wi ((8:Int)*n5)) fun n8=>req (decide (0≤n8)) <| o.letv (wu (n7*2 ^ min n8.toNat IntKind.u64.bits)) fun n9=>o.letv (bits BinOp.or IntKind.u64 n2 n9) fun n10=>inc o n5 fun n11=>r1 (((),(),n10,z3,n4,n11,())) else some ((n2,(0:Int)))
def qvk:DFn:={ro:=true,args:=(.sl 0 .nil),out:={slots:=(.dd 2 (.int .u64 (.int .i64 (.dd 26 .nil))))},T:=Int×Int,to:=fun(v:(Unit)×(Unit)×(Int×Int×Unit))=>(v.2.2.1,v.2.2.2.1),of:=fun x=>((),(),(x.1,(x.2,())))}
def qxt:=q0Q DOps.ev
def q7t (o:DOps):qvk.In→Option qvk.T:=fun v=>q0Q o v.2.2.1
def q7u:DSpec:=qae qvk Tryz.f211 (q7t DOps.ev)
theorem q7v:DH Tryz.prog 211 q7u:=qad (d:=qvk) (Fo:=q7t) ([]:DT) [(4,{slots:=(.dd 2 (.int .u64 (.dd 11 (.sl 0 (.int .i64 (.int .i64 (.dd 13 .nil)))))))})] [] [] (trivial:DTok Tryz.prog []) (by kernel_rfl) ⟨fun o v=>by kernel_rfl⟩ Tryz.func211 Tryz.call211
def qvl (o:DOps)(b:List UInt8):Option (Int×Int×Int) :=
 o.fix (((),(),(0:Int),b,(b.length:Int),(0:Int),())) fun r1 (_,_,n2,z3,n4,n5,_)=>bif decide (n5<n4) then ix o z3 n5 (0:UInt8) fun x6=>bif bif n5==9 then decide ((↑x6.toNat:Int) > 1) else false then some (((0:Int),(0:Int),(8:Int))) else o.letv (bits BinOp.and IntKind.u8 (↑x6.toNat:Int) (127:Int)) fun n7=>o.letv (wu n7) fun n8=>o.letv (wi ((7:Int)*n5)) fun n9=>req (decide (0≤n9)) <| o.letv (wu (n8*2 ^ min n9.toNat IntKind.u64.bits)) fun n10=>o.letv (bits BinOp.or IntKind.u64 n2 n10) fun n11=>bif decide ((↑x6.toNat:Int)<128) then bif bif (↑x6.toNat:Int)==0 then decide (n5 > 0) else false then some (((0:Int),(0:Int),(8:Int))) else inc o n5 fun n13=>some ((n11,n13,(0:Int))) else inc o n5 fun n12=>r1 (((),(),n11,z3,n4,n12,())) else some (((0:Int),(0:Int),(8:Int)))
def qnn:DFn:={ro:=true,args:=(.sl 0 .nil),out:={slots:=(.dd 2 (.int .u64 (.int .i64 (.int .i64 (.dd 36 .nil)))))},T:=Int×Int×Int,to:=fun(v:(Unit)×(Unit)×(Int×Int×Int×Unit))=>(v.2.2.1,v.2.2.2.1,v.2.2.2.2.1),of:=fun x=>((),(),(x.1,(x.2.1,(x.2.2,()))))}
def qkG:=qvl DOps.ev
def q3q (o:DOps):qnn.In→Option qnn.T:=fun v=>qvl o v.2.2.1
def q3r:DSpec:=qae qnn Tryz.f105 (q3q DOps.ev)
theorem q5g:DH Tryz.prog 105 q3r:=qad (d:=qnn) (Fo:=q3q) ([]:DT) [(3,{slots:=(.dd 5 (.int .u64 (.dd 2 (.sl 0 (.int .i64 (.int .i64 (.dd 30 .nil)))))))})] [] [] (trivial:DTok Tryz.prog []) (by kernel_rfl) ⟨fun o v=>by kernel_rfl⟩ Tryz.func105 Tryz.call105
def qoM (o:DOps)(n:Int):Option (List UInt8) :=
 o.fix (((qan,()),(),n,())) fun r1 ((z2,_),_,n3,_)=>bif decide (n3 > 127) then o.letv (wb n3) fun n6=>o.letv (bits BinOp.or IntKind.u8 n6 (128:Int)) fun n7=>rm (z2.length+1) 1 <| o.letv (List.take z2.length z2++[UInt8.ofNat n7.toNat]) fun z8=>o.letv (n3.fdiv ((2:Int) ^ min (Int.toNat (7:Int)) IntKind.u64.bits)) fun n9=>rs (z2.length+1) z8.length <| r1 (((z8,()),(),n9,())) else o.letv (wb n3) fun n4=>rm (z2.length+1) 1 <| o.letv (List.take z2.length z2++[UInt8.ofNat n4.toNat]) fun z5=>rs (z2.length+1) z5.length <| some z5
def qjf:DFn:={ro:=true,args:=(.int .u64 .nil),out:={slots:=(.dd 2 (.row 0 902 (.dd 16 .nil))),blks:=[(902,.row 0)],boxes:=[(2,902,0)]},T:=List (UInt8),to:=fun(v:(List (UInt8)×Unit)×(Unit)×(Unit))=>v.1.1,of:=fun x=>((x,()),(),())}
def qdm:=qoM DOps.ev
def qxu (o:DOps):qjf.In→Option qjf.T:=fun v=>qoM o v.2.2.1
def qxv:DSpec:=qae qjf Tryz.f170 (qxu DOps.ev)
theorem q0R:DH Tryz.prog 170 qxv:=qad (d:=qjf) (Fo:=qxu) ([]:DT) [(2,{slots:=(.int .u64 (.dd 2 (.row 0 903 (.dd 15 .nil)))),blks:=[(903,.row 0)],boxes:=[(3,903,0)]})] [] [] (trivial:DTok Tryz.prog []) (by kernel_rfl) ⟨fun o v=>by kernel_rfl⟩ Tryz.func170 Tryz.call170
def qia (o:DOps)(a:List UInt8)(b:List UInt8):Option (Bool) :=
 some (a.toArray.toList==b.toArray.toList)
def qet:DFn:={ro:=true,args:=(.sl 0 (.sl 0 .nil)),out:={slots:=(.dd 4 (.bool (.dd 5 .nil)))},T:=Bool,to:=fun(v:(Unit)×(Unit)×(Bool×Unit))=>v.2.2.1,of:=fun x=>((),(),(x,()))}
def qdR:=qia DOps.ev
def qoN (o:DOps):qet.In→Option qet.T:=fun v=>qia o v.2.2.1 v.2.2.2.1
def qoO:DSpec:=qae qet Tryz.f50 (qoN DOps.ev)
theorem qvm:DH Tryz.prog 50 qoO:=qad (d:=qet) (Fo:=qoN) ([]:DT) [] [] [] (trivial:DTok Tryz.prog []) (by kernel_rfl) ⟨fun o v=>by kernel_rfl⟩ Tryz.func50 Tryz.call50
def qkH (o:DOps)(n:Int):Option (Bool) :=
 some (bif decide (n≥0) then decide (n≤65535) else false)
def qgs:DFn:={ro:=true,args:=(.int .i64 .nil),out:={slots:=(.dd 2 (.bool (.dd 6 .nil)))},T:=Bool,to:=fun(v:(Unit)×(Unit)×(Bool×Unit))=>v.2.2.1,of:=fun x=>((),(),(x,()))}
def qjg:=qkH DOps.ev
def qsl (o:DOps):qgs.In→Option qgs.T:=fun v=>qkH o v.2.2.1
def qsm:DSpec:=qae qgs Tryz.f106 (qsl DOps.ev)
theorem qxw:DH Tryz.prog 106 qsm:=qad (d:=qgs) (Fo:=qsl) ([]:DT) [] [] [] (trivial:DTok Tryz.prog []) (by kernel_rfl) ⟨fun o v=>by kernel_rfl⟩ Tryz.func106 Tryz.call106
def q0S (o:DOps)(n:Int)(width:Int):Option (List UInt8×Int) :=
 o.letv (wi ((8:Int)*width)) fun n1=>req (!decide (width<8)||((!!bif decide (width<1) then true else decide (width > 8))||decide (0≤n1))) <| o.letv (n.fdiv ((2:Int) ^ min n1.toNat IntKind.u64.bits)) fun n2=>bif bif bif decide (width<1) then true else decide (width > 8) then true else bif decide (width<8) then n2 != 0 else false then some ((qan,(2:Int))) else req (decide (0≤width∧width≤width∧width*(↑1:Int)≤140737488355328)) <| rs width.toNat (List.replicate width.toNat (UInt8.ofNat 0)).length <| o.fix (((List.replicate width.toNat (UInt8.ofNat 0),()),(),n,(↑width.toNat:Int),(0:Int),())) fun r3 ((z4,_),_,n5,n6,n7,_)=>bif decide (n7<n6) then o.letv (wi ((8:Int)*n7)) fun n8=>req (decide (0≤n8)) <| o.letv (n5.fdiv ((2:Int) ^ min n8.toNat IntKind.u64.bits)) fun n9=>o.letv (wb n9) fun n10=>rb n7 z4.length <| req (decide (0+n7.toNat<z4.length)) <| o.letv (z4.set (0+n7.toNat) (UInt8.ofNat n10.toNat)) fun z11=>inc o n7 fun n12=>rs z4.length z11.length <| r3 (((z11,()),(),n5,n6,n12,())) else rs z4.length z4.length <| some ((z4,(0:Int)))
def qvn:DFn:={ro:=true,args:=(.int .u64 (.int .i64 .nil)),out:={slots:=(.dd 4 (.row 0 904 (.int .i64 (.dd 36 .nil)))),blks:=[(904,.row 0)],boxes:=[(4,904,0)]},T:=List (UInt8)×Int,to:=fun(v:(List (UInt8)×Unit)×(Unit)×(Int×Unit))=>(v.1.1,v.2.2.1),of:=fun x=>((x.1,()),(),(x.2,()))}
def qxx:=q0S DOps.ev
def q7w (o:DOps):qvn.In→Option qvn.T:=fun v=>q0S o v.2.2.1 v.2.2.2.1
def q7x:DSpec:=qae qvn Tryz.f167 (q7w DOps.ev)
theorem q7y:DH Tryz.prog 167 q7x:=qad (d:=qvn) (Fo:=q7w) ([]:DT) [(5,{slots:=(.int .u64 (.dd 5 (.row 0 4001 (.dd 21 (.int .i64 (.int .i64 (.dd 12 .nil))))))),blks:=[(4001,.row 0)]})] [] [] (trivial:DTok Tryz.prog []) (by kernel_rfl) ⟨fun o v=>by kernel_rfl⟩ Tryz.func167 Tryz.call167
def qkI (o:DOps)(s:SiteT)(a:Int)(b:Int):Option (Bool) :=
 ix o s.apart a (0:UInt32) fun x1=>req (decide (0≤b)) <| o.letv ((↑x1.toNat:Int).fdiv ((2:Int) ^ min b.toNat IntKind.u32.bits)) fun n2=>o.letv (bits BinOp.and IntKind.u32 n2 (1:Int)) fun n3=>some (n3==1)
def qgt:DFn:={ro:=true,args:=(.agg (.seg 25 .nil) (.int .i64 (.int .i64 .nil))),out:={slots:=(.dd 6 (.bool (.dd 9 .nil)))},T:=Bool,to:=fun(v:(Unit)×(Unit)×(Bool×Unit))=>v.2.2.1,of:=fun x=>((),(),(x,()))}
def qfF:=qkI DOps.ev
def qsn (o:DOps):qgt.In→Option qgt.T:=fun v=>qkI o v.2.2.1.1 v.2.2.2.1 v.2.2.2.2.1
def qso:DSpec:=qae qgt Tryz.f199 (qsn DOps.ev)
theorem qxy:DH Tryz.prog 199 qso:=qad (d:=qgt) (Fo:=qsn) ([]:DT) [] [] [] (trivial:DTok Tryz.prog []) (by kernel_rfl) ⟨fun o v=>by kernel_rfl⟩ Tryz.func199 Tryz.call199
def qfG (o:DOps)(s:SiteT)(a:Int)(b:Int):Option (Int) :=
 ix o s.between a (dflt 7) fun z1=>ix o z1 b (0:Int) fun n2=>some n2
def qdn:DFn:={ro:=true,args:=(.agg (.seg 25 .nil) (.int .i64 (.int .i64 .nil))),out:={slots:=(.dd 6 (.int .i64 (.dd 8 .nil)))},T:=Int,to:=fun(v:(Unit)×(Unit)×(Int×Unit))=>v.2.2.1,of:=fun x=>((),(),(x,()))}
def qeu:=qfG DOps.ev
def qmg (o:DOps):qdn.In→Option qdn.T:=fun v=>qfG o v.2.2.1.1 v.2.2.2.1 v.2.2.2.2.1
def qmh:DSpec:=qae qdn Tryz.f203 (qmg DOps.ev)
theorem qrv:DH Tryz.prog 203 qmh:=qad (d:=qdn) (Fo:=qmg) ([]:DT) [] [] [] (trivial:DTok Tryz.prog []) (by kernel_rfl) ⟨fun o v=>by kernel_rfl⟩ Tryz.func203 Tryz.call203
def qfH (o:DOps)(kept:Int):Option (Int×Int×Bool) :=
 bif bif kept==2 then true else kept==3 then some (((2:Int),(0:Int),false)) else some (((1:Int),(0:Int),false))
def qdo:DFn:={ro:=true,args:=(.int .u8 .nil),out:={slots:=(.dd 2 (.ptr 1000 0 (.dd 10 .nil))),blks:=[(1000,.cells (.int .u8 (.int .i64 (.bool .nil))))]},T:=Int×Int×Bool,to:=fun(v:(Unit)×((Int×Int×Bool×Unit)×Unit)×(Unit))=>(v.2.1.1.1,v.2.1.1.2.1,v.2.1.1.2.2.1),of:=fun x=>((),((x.1,(x.2.1,(x.2.2,()))),()),())}
def qev:=qfH DOps.ev
def qmi (o:DOps):qdo.In→Option qdo.T:=fun v=>qfH o v.2.2.1
def qmj:DSpec:=qae qdo Tryz.f63 (qmi DOps.ev)
theorem qrw:DH Tryz.prog 63 qmj:=qad (d:=qdo) (Fo:=qmi) ([]:DT) [] [] [] (trivial:DTok Tryz.prog []) (by kernel_rfl) ⟨fun o v=>by kernel_rfl⟩ Tryz.func63 Tryz.call63
def qkJ (o:DOps)(l:Bool)(l2:Int)(l3:Int):Option (Int) :=
 bif bif bif decide (l3<0) then true else decide (l3 > 1048576) then true else bif !l then l2 != 0 else false then some ((8:Int)) else some ((0:Int))
def qgu:DFn:={ro:=true,args:=(.agg (.bool (.int .u32 (.int .i64 .nil))) .nil),out:={slots:=(.dd 2 (.int .i64 (.dd 18 .nil)))},T:=Int,to:=fun(v:(Unit)×(Unit)×(Int×Unit))=>v.2.2.1,of:=fun x=>((),(),(x,()))}
def qoP:=qkJ DOps.ev
def qsp (o:DOps):qgu.In→Option qgu.T:=fun v=>qkJ o v.2.2.1.1 v.2.2.1.2.1 v.2.2.1.2.2.1
def qsq:DSpec:=qae qgu Tryz.f123 (qsp DOps.ev)
theorem qxz:DH Tryz.prog 123 qsq:=qad (d:=qgu) (Fo:=qsp) ([]:DT) [] [] [] (trivial:DTok Tryz.prog []) (by kernel_rfl) ⟨fun o v=>by kernel_rfl⟩ Tryz.func123 Tryz.call123
def qoQ (o:DOps)(last:Int):Option (Int×Int) :=
 bif last==4294967295 then some (((0:Int),(2:Int))) else o.letv (wq (last+1)) fun n1=>some ((n1,(0:Int)))
def qjh:DFn:={ro:=true,args:=(.int .u32 .nil),out:={slots:=(.dd 2 (.int .u32 (.int .i64 (.dd 4 .nil))))},T:=Int×Int,to:=fun(v:(Unit)×(Unit)×(Int×Int×Unit))=>(v.2.2.1,v.2.2.2.1),of:=fun x=>((),(),(x.1,(x.2,())))}
def qvo:=qoQ DOps.ev
def qx0 (o:DOps):qjh.In→Option qjh.T:=fun v=>qoQ o v.2.2.1
def qx1:DSpec:=qae qjh Tryz.f99 (qx0 DOps.ev)
theorem q0T:DH Tryz.prog 99 qx1:=qad (d:=qjh) (Fo:=qx0) ([]:DT) [] [] [] (trivial:DTok Tryz.prog []) (by kernel_rfl) ⟨fun o v=>by kernel_rfl⟩ Tryz.func99 Tryz.call99
def q0U (o:DOps)(b:List UInt8):Option (Int) :=
 o.fix (((UInt32.ofNat (Int.toNat (0:Int))::UInt32.ofNat (Int.toNat (498536548:Int))::UInt32.ofNat (Int.toNat (997073096:Int))::UInt32.ofNat (Int.toNat (651767980:Int))::UInt32.ofNat (Int.toNat (1994146192:Int))::UInt32.ofNat (Int.toNat (1802195444:Int))::UInt32.ofNat (Int.toNat (1303535960:Int))::UInt32.ofNat (Int.toNat (1342533948:Int))::UInt32.ofNat (Int.toNat (3988292384:Int))::UInt32.ofNat (Int.toNat (4027552580:Int))::UInt32.ofNat (Int.toNat (3604390888:Int))::UInt32.ofNat (Int.toNat (3412177804:Int))::UInt32.ofNat (Int.toNat (2607071920:Int))::UInt32.ofNat (Int.toNat (2262029012:Int))::UInt32.ofNat (Int.toNat (2685067896:Int))::UInt32.ofNat (Int.toNat (3183342108:Int))::nilL2,()),(),(4294967295:Int),b,(b.length:Int),(0:Int),())) fun r1 ((z2,_),_,n3,z4,n5,n6,_)=>bif decide (n6<n5) then ix o z4 n6 (0:UInt8) fun x8=>o.letv (n3.fdiv ((2:Int) ^ min (Int.toNat (4:Int)) IntKind.u32.bits)) fun n9=>o.letv (wq (↑x8.toNat:Int)) fun n10=>o.letv (bits BinOp.xor IntKind.u32 n3 n10) fun n11=>o.letv (bits BinOp.and IntKind.u32 n11 (15:Int)) fun n12=>req (decide (0≤n12)) <| req (decide (n12<(↑16:Int))) <| req (decide (n12.toNat<z2.length)) <| o.letv ((↑(z2.getD n12.toNat (0:UInt32)).toNat:Int)) fun n13=>o.letv (bits BinOp.xor IntKind.u32 n9 n13) fun n14=>o.letv (n14.fdiv ((2:Int) ^ min (Int.toNat (4:Int)) IntKind.u32.bits)) fun n15=>o.letv ((↑x8.toNat:Int).fdiv ((2:Int) ^ min (Int.toNat (4:Int)) IntKind.u8.bits)) fun n16=>o.letv (wq n16) fun n17=>o.letv (bits BinOp.xor IntKind.u32 n14 n17) fun n18=>o.letv (bits BinOp.and IntKind.u32 n18 (15:Int)) fun n19=>req (decide (0≤n19)) <| req (decide (n19<(↑16:Int))) <| req (decide (n19.toNat<z2.length)) <| o.letv ((↑(z2.getD n19.toNat (0:UInt32)).toNat:Int)) fun n20=>o.letv (bits BinOp.xor IntKind.u32 n15 n20) fun n21=>inc o n6 fun n22=>r1 (((z2,()),(),n21,z4,n5,n22,())) else o.letv (bits BinOp.xor IntKind.u32 (4294967295:Int) n3) fun n7=>some n7
def qvp:DFn:={ro:=true,args:=(.sl 0 .nil),out:={slots:=(.dd 2 (.int .u32 (.dd 35 .nil)))},T:=Int,to:=fun(v:(Unit)×(Unit)×(Int×Unit))=>v.2.2.1,of:=fun x=>((),(),(x,()))}
def q3s:=q0U DOps.ev
def q7z (o:DOps):qvp.In→Option qvp.T:=fun v=>q0U o v.2.2.1
def q70:DSpec:=qae qvp Tryz.f168 (q7z DOps.ev)
theorem q71:DH Tryz.prog 168 q70:=qad (d:=qvp) (Fo:=q7z) ([]:DT) [(4,{slots:=(.dd 3 (.ptr 2001 0 (.int .u32 (.dd 3 (.sl 0 (.int .i64 (.int .i64 (.dd 27 .nil)))))))),blks:=[(2001,.row 2)]})] [] [] (trivial:DTok Tryz.prog []) (by kernel_rfl) ⟨fun o v=>by kernel_rfl⟩ Tryz.func168 Tryz.call168
def qib (o:DOps)(b:List UInt8):Option (List UInt8) :=
 req (decide ((0:Int)≤0∧(0:Int)≤b.length∧(b.length:Int)*(↑1:Int)≤140737488355328)) <| o.fix (((qan,()),(),b,(b.length:Int),(0:Int),())) fun r1 ((z2,_),_,z3,n4,n5,_)=>bif decide (n5<n4) then ix o z3 n5 (0:UInt8) fun x6=>bif bif (↑x6.toNat:Int)==125 then true else (↑x6.toNat:Int)==126 then rm (z2.length+1) 1 <| o.letv (List.take z2.length z2++[UInt8.ofNat 125]) fun z9=>o.letv (wb ((↑x6.toNat:Int)-32)) fun n10=>req (decide ((z2.length+1+1)*1≤140737488355328)) <| o.letv (List.take (z2.length+1) z9++[UInt8.ofNat n10.toNat]) fun z11=>inc o n5 fun n12=>rs (z2.length+1+1) z11.length <| r1 (((z11,()),(),z3,n4,n12,())) else rm (z2.length+1) 1 <| o.letv (List.take z2.length z2++[UInt8.ofNat (↑x6.toNat:Int).toNat]) fun z7=>inc o n5 fun n8=>rs (z2.length+1) z7.length <| r1 (((z7,()),(),z3,n4,n8,())) else rs z2.length z2.length <| some z2
def qew:DFn:={ro:=true,args:=(.sl 0 .nil),out:={slots:=(.dd 2 (.row 0 902 (.dd 29 .nil))),blks:=[(902,.row 0)],boxes:=[(2,902,0)]},T:=List (UInt8),to:=fun(v:(List (UInt8)×Unit)×(Unit)×(Unit))=>v.1.1,of:=fun x=>((x,()),(),())}
def qkK:=qib DOps.ev
def qoR (o:DOps):qew.In→Option qew.T:=fun v=>qib o v.2.2.1
def qoS:DSpec:=qae qew Tryz.f104 (qoR DOps.ev)
theorem qvq:DH Tryz.prog 104 qoS:=qad (d:=qew) (Fo:=qoR) ([]:DT) [(3,{slots:=(.dd 3 (.row 0 903 (.dd 5 (.sl 0 (.int .i64 (.int .i64 (.dd 20 .nil))))))),blks:=[(903,.row 0)],boxes:=[(3,903,0)]})] [] [] (trivial:DTok Tryz.prog []) (by kernel_rfl) ⟨fun o v=>by kernel_rfl⟩ Tryz.func104 Tryz.call104
def qkL (o:DOps)(b:List UInt8):Option (List UInt8×Int) :=
 req (decide ((0:Int)≤0∧(0:Int)≤b.length∧(b.length:Int)*(↑1:Int)≤140737488355328)) <| o.fix (((qan,()),(),false,b,(b.length:Int),(0:Int),())) fun r1 ((z2,_),_,b3,z4,n5,n6,_)=>bif decide (n6<n5) then ix o z4 n6 (0:UInt8) fun x7=>bif bif bif b3 then (↑x7.toNat:Int) != 93 else false then (↑x7.toNat:Int) != 94 else false then bif bif bif b3 then (↑x7.toNat:Int) != 93 else false then (↑x7.toNat:Int) != 94 else false then some ((qan,(8:Int))) else bif b3 then o.letv (wb ((↑x7.toNat:Int)+32)) fun n17=>rm (z2.length+1) 1 <| o.letv (List.take z2.length z2++[UInt8.ofNat n17.toNat]) fun z18=>inc o n6 fun n19=>rs (z2.length+1) z18.length <| r1 (((z18,()),(),false,z4,n5,n19,())) else bif (↑x7.toNat:Int)==125 then inc o n6 fun n16=>rs z2.length z2.length <| r1 (((z2,()),(),true,z4,n5,n16,())) else rm (z2.length+1) 1 <| o.letv (List.take z2.length z2++[UInt8.ofNat (↑x7.toNat:Int).toNat]) fun z14=>inc o n6 fun n15=>rs (z2.length+1) z14.length <| r1 (((z14,()),(),b3,z4,n5,n15,())) else bif (↑x7.toNat:Int)==126 then some ((qan,(8:Int))) else bif b3 then o.letv (wb ((↑x7.toNat:Int)+32)) fun n11=>rm (z2.length+1) 1 <| o.letv (List.take z2.length z2++[UInt8.ofNat n11.toNat]) fun z12=>inc o n6 fun n13=>rs (z2.length+1) z12.length <| r1 (((z12,()),(),false,z4,n5,n13,())) else bif (↑x7.toNat:Int)==125 then inc o n6 fun n10=>rs z2.length z2.length <| r1 (((z2,()),(),true,z4,n5,n10,())) else rm (z2.length+1) 1 <| o.letv (List.take z2.length z2++[UInt8.ofNat (↑x7.toNat:Int).toNat]) fun z8=>inc o n6 fun n9=>rs (z2.length+1) z8.length <| r1 (((z8,()),(),b3,z4,n5,n9,())) else bif b3 then some ((qan,(8:Int))) else rs z2.length z2.length <| some ((z2,(0:Int)))
def qgv:DFn:={ro:=true,args:=(.sl 0 .nil),out:={slots:=(.dd 2 (.row 0 902 (.int .i64 (.dd 42 .nil)))),blks:=[(902,.row 0)],boxes:=[(2,902,0)]},T:=List (UInt8)×Int,to:=fun(v:(List (UInt8)×Unit)×(Unit)×(Int×Unit))=>(v.1.1,v.2.2.1),of:=fun x=>((x.1,()),(),(x.2,()))}
def qoT:=qkL DOps.ev
def qsr (o:DOps):qgv.In→Option qgv.T:=fun v=>qkL o v.2.2.1
def qss:DSpec:=qae qgv Tryz.f206 (qsr DOps.ev)
theorem qx2:DH Tryz.prog 206 qss:=qad (d:=qgv) (Fo:=qsr) ([]:DT) [(4,{slots:=(.dd 4 (.row 0 904 (.bool (.dd 5 (.sl 0 (.int .i64 (.int .i64 (.dd 32 .nil)))))))),blks:=[(904,.row 0)],boxes:=[(4,904,0)]})] [] [] (trivial:DTok Tryz.prog []) (by kernel_rfl) ⟨fun o v=>by kernel_rfl⟩ Tryz.func206 Tryz.call206
def qbb (o:DOps)(s:List UInt8)(c:Int):Option (Int) :=
 o.letv (wi ((s.length:Int)-1)) fun n1=>o.fix (((),(),s,c,n1,())) fun r2 (_,_,z3,n4,n5,_)=>bif decide (n5≥0) then ix o z3 n5 (0:UInt8) fun x6=>bif (↑x6.toNat:Int)==n4 then some n5 else o.letv (wi (n5-1)) fun n7=>r2 (((),(),z3,n4,n7,())) else some ((-1:Int))
def qaG:DFn:={ro:=true,args:=(.sl 0 (.int .u8 .nil)),out:={slots:=(.dd 4 (.int .i64 (.dd 15 .nil)))},T:=Int,to:=fun(v:(Unit)×(Unit)×(Int×Unit))=>v.2.2.1,of:=fun x=>((),(),(x,()))}
def qbi:=qbb DOps.ev
def qci (o:DOps):qaG.In→Option qaG.T:=fun v=>qbb o v.2.2.1 v.2.2.2.1
def qcj:DSpec:=qae qaG Tryz.f179 (qci DOps.ev)
theorem qex:DH Tryz.prog 179 qcj:=qad (d:=qaG) (Fo:=qci) ([]:DT) [(2,{slots:=(.sl 0 (.int .u8 (.dd 3 (.int .i64 (.dd 14 .nil)))))})] [] [] (trivial:DTok Tryz.prog []) (by kernel_rfl) ⟨fun o v=>by kernel_rfl⟩ Tryz.func179 Tryz.call179
def qoU (o:DOps):Option (Bool×Bool×Bool) :=
 some ((false,false,true))
def qji:DFn:={ro:=true,args:=.nil,out:={slots:=(.ptr 2001 0 (.dd 2 .nil)),blks:=[(2001,.cells (.nilsl (.bool (.bool (.bool .nil)))))]},T:=Bool×Bool×Bool,to:=fun(v:(Unit)×((Bool×Bool×Bool×Unit)×Unit)×(Unit))=>(v.2.1.1.1,v.2.1.1.2.1,v.2.1.1.2.2.1),of:=fun x=>((),((x.1,(x.2.1,(x.2.2,()))),()),())}
def qvr:=qoU DOps.ev
def qx3 (o:DOps):qji.In→Option qji.T:=fun v=>qoU o
def qx4:DSpec:=qae qji Tryz.f120 (qx3 DOps.ev)
theorem q0V:DH Tryz.prog 120 qx4:=qad (d:=qji) (Fo:=qx3) ([]:DT) [] [] [] (trivial:DTok Tryz.prog []) (by kernel_rfl) ⟨fun o v=>by kernel_rfl⟩ Tryz.func120 Tryz.call120
def qoV (o:DOps)(s:SiteT)(phase:Int):Option (Int) :=
 inc o phase fun n1=>req (decide ((s.phases.length:Int)≠(0:Int))) <| o.letv (n1.tmod (s.phases.length:Int)) fun n2=>some n2
def qjj:DFn:={ro:=true,args:=(.agg (.seg 25 .nil) (.int .i64 .nil)),out:={slots:=(.dd 4 (.int .i64 (.dd 6 .nil)))},T:=Int,to:=fun(v:(Unit)×(Unit)×(Int×Unit))=>v.2.2.1,of:=fun x=>((),(),(x,()))}
def qno:=qoV DOps.ev
def qx5 (o:DOps):qjj.In→Option qjj.T:=fun v=>qoV o v.2.2.1.1 v.2.2.2.1
def qx6:DSpec:=qae qjj Tryz.f147 (qx5 DOps.ev)
theorem q0W:DH Tryz.prog 147 qx6:=qad (d:=qjj) (Fo:=qx5) ([]:DT) [] [] [] (trivial:DTok Tryz.prog []) (by kernel_rfl) ⟨fun o v=>by kernel_rfl⟩ Tryz.func147 Tryz.call147
def qkM (o:DOps)(n:Int)(most:Int):Option (Int) :=
 inc o n fun n1=>o.letv (min n1 most) fun n2=>some n2
def qgw:DFn:={ro:=true,args:=(.int .i64 (.int .i64 .nil)),out:={slots:=(.dd 4 (.int .i64 (.dd 4 .nil)))},T:=Int,to:=fun(v:(Unit)×(Unit)×(Int×Unit))=>v.2.2.1,of:=fun x=>((),(),(x,()))}
def qa2:=qkM DOps.ev
def qst (o:DOps):qgw.In→Option qgw.T:=fun v=>qkM o v.2.2.1 v.2.2.2.1
def qsu:DSpec:=qae qgw Tryz.f45 (qst DOps.ev)
theorem qx7:DH Tryz.prog 45 qsu:=qad (d:=qgw) (Fo:=qst) ([]:DT) [] [] [] (trivial:DTok Tryz.prog []) (by kernel_rfl) ⟨fun o v=>by kernel_rfl⟩ Tryz.func45 Tryz.call45
def qic (o:DOps)(s1:List Int)(s2:List Int):Option (Bool) :=
 bif (s1.length:Int) != (s2.length:Int) then some false else o.fix (((),(),s1,s2,(s1.length:Int),(0:Int),())) fun r1 (_,_,z2,z3,n4,n5,_)=>bif decide (n5<n4) then ix o z2 n5 (0:Int) fun n6=>ix o z3 n5 (0:Int) fun n7=>bif n6 != n7 then some false else inc o n5 fun n8=>r1 (((),(),z2,z3,n4,n8,())) else some true
def qey:DFn:={ro:=true,args:=(.sl 1 (.sl 1 .nil)),out:={slots:=(.dd 4 (.bool (.dd 21 .nil)))},T:=Bool,to:=fun(v:(Unit)×(Unit)×(Bool×Unit))=>v.2.2.1,of:=fun x=>((),(),(x,()))}
def qkN:=qic DOps.ev
def qoW (o:DOps):qey.In→Option qey.T:=fun v=>qic o v.2.2.1 v.2.2.2.1
def qoX:DSpec:=qae qey Tryz.f125 (qoW DOps.ev)
theorem qvs:DH Tryz.prog 125 qoX:=qad (d:=qey) (Fo:=qoW) ([]:DT) [(4,{slots:=(.sl 1 (.sl 1 (.dd 10 (.int .i64 (.int .i64 (.dd 12 .nil))))))})] [] [] (trivial:DTok Tryz.prog []) (by kernel_rfl) ⟨fun o v=>by kernel_rfl⟩ Tryz.func125 Tryz.call125
def qkO (o:DOps)(now:List SeenT)(now2:Int)(now3:Bool):Option (List UInt8) :=
 mks (now.length:Int) 1 <| rs (now.length:Int).toNat (List.replicate (now.length:Int).toNat (UInt8.ofNat 0)).length <| o.fix (((List.replicate (now.length:Int).toNat (UInt8.ofNat 0),()),(),now,(now.length:Int),(0:Int),())) fun r1 ((z2,_),_,z3,n4,n5,_)=>bif decide (n5<n4) then ix o z3 n5 (dflt 20) fun x6=>rb n5 z2.length <| req (decide (0+n5.toNat<z2.length)) <| o.letv (z2.set (0+n5.toNat) (UInt8.ofNat x6.aspectf.toNat)) fun z7=>inc o n5 fun n8=>rs z2.length z7.length <| r1 (((z7,()),(),z3,n4,n8,())) else rs z2.length z2.length <| some z2
def qgx:DFn:={ro:=true,args:=(.agg (.sl 20 (.int .i64 (.bool .nil))) .nil),out:={slots:=(.dd 2 (.row 0 902 (.dd 22 .nil))),blks:=[(902,.row 0)],boxes:=[(2,902,0)]},T:=List (UInt8),to:=fun(v:(List (UInt8)×Unit)×(Unit)×(Unit))=>v.1.1,of:=fun x=>((x,()),(),())}
def qoY:=qkO DOps.ev
def qsv (o:DOps):qgx.In→Option qgx.T:=fun v=>qkO o v.2.2.1.1 v.2.2.1.2.1 v.2.2.1.2.2.1
def qsw:DSpec:=qae qgx Tryz.f156 (qsv DOps.ev)
theorem qx8:DH Tryz.prog 156 qsw:=qad (d:=qgx) (Fo:=qsv) ([]:DT) [(3,{slots:=(.dd 3 (.row 0 2003 (.dd 7 (.sl 20 (.int .i64 (.int .i64 (.dd 11 .nil))))))),blks:=[(2003,.row 0)]})] [] [] (trivial:DTok Tryz.prog []) (by kernel_rfl) ⟨fun o v=>by kernel_rfl⟩ Tryz.func156 Tryz.call156
def qvt (o:DOps)(a:Int):Option (Bool) :=
 some (a==1)
def qnp:DFn:={ro:=true,args:=(.int .u8 .nil),out:={slots:=(.dd 2 (.bool (.dd 2 .nil)))},T:=Bool,to:=fun(v:(Unit)×(Unit)×(Bool×Unit))=>v.2.2.1,of:=fun x=>((),(),(x,()))}
def qoZ:=qvt DOps.ev
def q3t (o:DOps):qnp.In→Option qnp.T:=fun v=>qvt o v.2.2.1
def q3u:DSpec:=qae qnp Tryz.f161 (q3t DOps.ev)
theorem q5h:DH Tryz.prog 161 q3u:=qad (d:=qnp) (Fo:=q3t) ([]:DT) [] [] [] (trivial:DTok Tryz.prog []) (by kernel_rfl) ⟨fun o v=>by kernel_rfl⟩ Tryz.func161 Tryz.call161
def qez (o:DOps)(s:List UInt8)(v0:Int):Option (Int) :=
 o.fix (((),(),s,v0,(s.length:Int),(0:Int),())) fun r1 (_,_,z2,n3,n4,n5,_)=>bif decide (n5<n4) then ix o z2 n5 (0:UInt8) fun x6=>bif n3==(↑x6.toNat:Int) then some n5 else inc o n5 fun n7=>r1 (((),(),z2,n3,n4,n7,())) else some ((-1:Int))
def qc0:DFn:={ro:=true,args:=(.sl 0 (.int .u8 .nil)),out:={slots:=(.dd 4 (.int .i64 (.dd 14 .nil)))},T:=Int,to:=fun(v:(Unit)×(Unit)×(Int×Unit))=>v.2.2.1,of:=fun x=>((),(),(x,()))}
def qfI:=qez DOps.ev
def qjk (o:DOps):qc0.In→Option qc0.T:=fun v=>qez o v.2.2.1 v.2.2.2.1
def qjl:DSpec:=qae qc0 Tryz.f200 (qjk DOps.ev)
theorem qpa:DH Tryz.prog 200 qjl:=qad (d:=qc0) (Fo:=qjk) ([]:DT) [(2,{slots:=(.sl 0 (.int .u8 (.dd 5 (.int .i64 (.int .i64 (.dd 10 .nil))))))})] [] [] (trivial:DTok Tryz.prog []) (by kernel_rfl) ⟨fun o v=>by kernel_rfl⟩ Tryz.func200 Tryz.call200
def qpb (o:DOps)(n:Int):Option (Int) :=
 o.letv (max n (0:Int)) fun n1=>o.letv (min n1 (1048576:Int)) fun n2=>some n2
def qjm:DFn:={ro:=true,args:=(.int .i64 .nil),out:={slots:=(.dd 2 (.int .i64 (.dd 3 .nil)))},T:=Int,to:=fun(v:(Unit)×(Unit)×(Int×Unit))=>v.2.2.1,of:=fun x=>((),(),(x,()))}
def qgy:=qpb DOps.ev
def qx9 (o:DOps):qjm.In→Option qjm.T:=fun v=>qpb o v.2.2.1
def qxA:DSpec:=qae qjm Tryz.f197 (qx9 DOps.ev)
theorem q0X:DH Tryz.prog 197 qxA:=qad (d:=qjm) (Fo:=qx9) ([]:DT) [] [] [] (trivial:DTok Tryz.prog []) (by kernel_rfl) ⟨fun o v=>by kernel_rfl⟩ Tryz.func197 Tryz.call197
def qpc (o:DOps)(a:Int):Option (Bool) :=
 some (bif decide (a≥1) then decide (a≤3) else false)
def qjn:DFn:={ro:=true,args:=(.int .u8 .nil),out:={slots:=(.dd 2 (.bool (.dd 6 .nil)))},T:=Bool,to:=fun(v:(Unit)×(Unit)×(Bool×Unit))=>v.2.2.1,of:=fun x=>((),(),(x,()))}
def qnq:=qpc DOps.ev
def qxB (o:DOps):qjn.In→Option qjn.T:=fun v=>qpc o v.2.2.1
def qxC:DSpec:=qae qjn Tryz.f201 (qxB DOps.ev)
theorem q0Y:DH Tryz.prog 201 qxC:=qad (d:=qjn) (Fo:=qxB) ([]:DT) [] [] [] (trivial:DTok Tryz.prog []) (by kernel_rfl) ⟨fun o v=>by kernel_rfl⟩ Tryz.func201 Tryz.call201
def qfJ (o:DOps)(a:Int)(b:Int):Option (Bool) :=
 some (bif bif a==1&&b==2 then true else a==2&&b==3 then true else a==3&&b==1)
def qdp:DFn:={ro:=true,args:=(.int .u8 (.int .u8 .nil)),out:={slots:=(.dd 4 (.bool (.dd 17 .nil)))},T:=Bool,to:=fun(v:(Unit)×(Unit)×(Bool×Unit))=>v.2.2.1,of:=fun x=>((),(),(x,()))}
def qid:=qfJ DOps.ev
def qmk (o:DOps):qdp.In→Option qdp.T:=fun v=>qfJ o v.2.2.1 v.2.2.2.1
def qml:DSpec:=qae qdp Tryz.f202 (qmk DOps.ev)
theorem qrx:DH Tryz.prog 202 qml:=holdsD0 (d:=qdp) (Fo:=qmk) ([]:DT) [] [] [] (trivial:DTok Tryz.prog []) (by kernel_rfl) ⟨fun o v=>by kernel_rfl⟩ Tryz.func202 Tryz.call202
def q0Z (o:DOps)(p:Pls)(many:Int)(hold:Int):Option (Int) :=
 bif bif decide (p.sincef<0) then true else decide (p.sincef > 1048576) then some ((8:Int)) else bif decide (many > 4096) then some ((4:Int)) else bif bif decide (hold<1) then true else decide (hold > 1048576) then some ((2:Int)) else some ((0:Int))
def qe0:DFn:={ro:=true,args:=(.agg (.seg 21 .nil) (.int .i64 (.int .i64 .nil))),out:={slots:=(.dd 6 (.int .i64 (.dd 19 .nil)))},T:=Int,to:=fun(v:(Unit)×(Unit)×(Int×Unit))=>v.2.2.1,of:=fun x=>((),(),(x,()))}
def qpd (o:DOps):qe0.In→Option qe0.T:=fun v=>q0Z o v.2.2.1.1 v.2.2.2.1 v.2.2.2.2.1
def qpe:DSpec:=qae qe0 Tryz.f184 (qpd DOps.ev)
theorem qvu:DH Tryz.prog 184 qpe:=qad (d:=qe0) (Fo:=qpd) ([]:DT) [] [] [] (trivial:DTok Tryz.prog []) (by kernel_rfl) ⟨fun o v=>by kernel_rfl⟩ Tryz.func184 Tryz.call184
def qie (o:DOps)(s:SiteT):Option (Int×SiteT) :=
 some (((s.phases.length:Int),s))
def qe1:DFn:={ro:=false,own:=[false],args:=(.ptr 0 0 .nil),B:=[.cells (.seg 25 .nil)],out:={slots:=(.dead (.int .i64 (.dd 3 .nil))),blks:=[(0,.cells (.seg 25 .nil))],fz:=true},T:=Int×SiteT,to:=fun(v:(Unit)×((SiteT×Unit)×Unit)×(Int×Unit))=>(v.2.2.1,v.2.1.1.1),of:=fun x=>((),((x.2,()),()),(x.1,()))}
def qkP:=qie DOps.ev
def qpf (o:DOps):qe1.In→Option qe1.T:=fun v=>qie o v.2.1.1.1
def qpg:DSpec:=qae qe1 Tryz.f209 (qpf DOps.ev)
theorem qvv:DH Tryz.prog 209 qpg:=qad (d:=qe1) (Fo:=qpf) ([]:DT) [] [] [] (trivial:DTok Tryz.prog []) (by kernel_rfl) ⟨fun o v=>by kernel_rfl⟩ Tryz.func209 Tryz.call209
def qxD:DSpec:=inlS (mkDC Tryz.prog tyC ([]:DT) [] [] [] []) true [false] (fun _=>true) Tryz.f74
theorem q1a:DH Tryz.prog 74 qxD:=q6l (enV:=mkDC Tryz.prog tyC ([]:DT) [] [] [] []) rfl (qgk (trivial:DTok Tryz.prog [])) Tryz.func74 Tryz.call74
def qph (o:DOps)(g:Gpd):Option (Int) :=
 o.letv (min (min g.heldf g.openf) g.camef) fun n1=>o.letv (max g.heldf g.openf) fun n2=>bif bif bif decide (n1<0) then true else decide (n2 > 1048576) then true else decide (g.camef > 1073741824) then some ((8:Int)) else bif bif g.upf then g.openf != 0 else false then bif bif g.upf then g.openf != 0 else false then some ((8:Int)) else some ((0:Int)) else bif bif !g.upf then g.heldf != 0 else false then bif bif !g.upf then g.heldf != 0 else false then some ((8:Int)) else some ((0:Int)) else o.letv (bits BinOp.and IntKind.u64 g.lastf (1:Int)) fun n3=>bif !g.upf==(n3==1) then some ((8:Int)) else some ((0:Int))
def qjo:DFn:={ro:=true,args:=(.agg (.seg 22 .nil) .nil),out:={slots:=(.dd 2 (.int .i64 (.dd 45 .nil)))},T:=Int,to:=fun(v:(Unit)×(Unit)×(Int×Unit))=>v.2.2.1,of:=fun x=>((),(),(x,()))}
def qnr:=qph DOps.ev
def qxE (o:DOps):qjo.In→Option qjo.T:=fun v=>qph o v.2.2.1.1
def qxF:DSpec:=qae qjo Tryz.f130 (qxE DOps.ev)
theorem q1b:DH Tryz.prog 130 qxF:=qad (d:=qjo) (Fo:=qxE) ([]:DT) [] [] [] (trivial:DTok Tryz.prog []) (by kernel_rfl) ⟨fun o v=>by kernel_rfl⟩ Tryz.func130 Tryz.call130
def q1c (o:DOps)(x:Lkd):Option (Bool) :=
 o.letv (min x.samef x.wellf) fun n1=>o.letv (max x.samef x.wellf) fun n2=>some (bif bif decide (n1≥0) then decide (n2≤1048576) else false then bif x.badf then true else x.wellf==0 else false)
def qvw:DFn:={ro:=true,args:=(.agg (.seg 23 .nil) .nil),out:={slots:=(.dd 2 (.bool (.dd 23 .nil)))},T:=Bool,to:=fun(v:(Unit)×(Unit)×(Bool×Unit))=>v.2.2.1,of:=fun x=>((),(),(x,()))}
def q72:=q1c DOps.ev
def q73 (o:DOps):qvw.In→Option qvw.T:=fun v=>q1c o v.2.2.1.1
def q74:DSpec:=qae qvw Tryz.f186 (q73 DOps.ev)
theorem q75:DH Tryz.prog 186 q74:=qad (d:=qvw) (Fo:=q73) ([]:DT) [] [] [] (trivial:DTok Tryz.prog []) (by kernel_rfl) ⟨fun o v=>by kernel_rfl⟩ Tryz.func186 Tryz.call186
def qcu (o:DOps)(x:Int):Option (Int) :=
 o.letv (x.fdiv ((2:Int) ^ min (Int.toNat (1:Int)) IntKind.u64.bits)) fun n1=>o.letv (bits BinOp.and IntKind.u64 n1 (6148914691236517205:Int)) fun n2=>o.letv (bits BinOp.and IntKind.u64 x (6148914691236517205:Int)) fun n3=>o.letv (wu (n2+n3)) fun n4=>o.letv (n4.fdiv ((2:Int) ^ min (Int.toNat (2:Int)) IntKind.u64.bits)) fun n5=>o.letv (bits BinOp.and IntKind.u64 n5 (3689348814741910323:Int)) fun n6=>o.letv (bits BinOp.and IntKind.u64 n4 (3689348814741910323:Int)) fun n7=>o.letv (wu (n6+n7)) fun n8=>o.letv (n8.fdiv ((2:Int) ^ min (Int.toNat (4:Int)) IntKind.u64.bits)) fun n9=>o.letv (wu (n9+n8)) fun n10=>o.letv (bits BinOp.and IntKind.u64 n10 (1085102592571150095:Int)) fun n11=>o.letv (n11.fdiv ((2:Int) ^ min (Int.toNat (8:Int)) IntKind.u64.bits)) fun n12=>o.letv (wu (n11+n12)) fun n13=>o.letv (n13.fdiv ((2:Int) ^ min (Int.toNat (16:Int)) IntKind.u64.bits)) fun n14=>o.letv (wu (n13+n14)) fun n15=>o.letv (n15.fdiv ((2:Int) ^ min (Int.toNat (32:Int)) IntKind.u64.bits)) fun n16=>o.letv (wu (n15+n16)) fun n17=>o.letv (wi n17) fun n18=>o.letv (bits BinOp.and IntKind.i64 n18 (127:Int)) fun n19=>some n19
def qbp:DFn:={ro:=true,args:=(.int .u64 .nil),out:={slots:=(.dd 2 (.int .i64 (.dd 32 .nil)))},T:=Int,to:=fun(v:(Unit)×(Unit)×(Int×Unit))=>v.2.2.1,of:=fun x=>((),(),(x,()))}
def qbG:=qcu DOps.ev
def qfl (o:DOps):qbp.In→Option qbp.T:=fun v=>qcu o v.2.2.1
def qfm:DSpec:=qae qbp Tryz.f187 (qfl DOps.ev)
theorem qjp:DH Tryz.prog 187 qfm:=qad (d:=qbp) (Fo:=qfl) ([]:DT) [] [] [] (trivial:DTok Tryz.prog []) (by kernel_rfl) ⟨fun o v=>by kernel_rfl⟩ Tryz.func187 Tryz.call187
def qkQ (o:DOps)(s:SiteT)(phase:Int)(group:Int):Option (Bool) :=
 ix o s.phases phase (dflt 18) fun x1=>req (decide (0≤group)) <| o.letv (x1.groupsf.fdiv ((2:Int) ^ min group.toNat IntKind.u32.bits)) fun n2=>o.letv (bits BinOp.and IntKind.u32 n2 (1:Int)) fun n3=>some (n3==1)
def qgz:DFn:={ro:=true,args:=(.agg (.seg 25 .nil) (.int .i64 (.int .i64 .nil))),out:={slots:=(.dd 6 (.bool (.dd 10 .nil)))},T:=Bool,to:=fun(v:(Unit)×(Unit)×(Bool×Unit))=>v.2.2.1,of:=fun x=>((),(),(x,()))}
def qjq:=qkQ DOps.ev
def qsx (o:DOps):qgz.In→Option qgz.T:=fun v=>qkQ o v.2.2.1.1 v.2.2.2.1 v.2.2.2.2.1
def qsy:DSpec:=qae qgz Tryz.f188 (qsx DOps.ev)
theorem qxG:DH Tryz.prog 188 qsy:=qad (d:=qgz) (Fo:=qsx) ([]:DT) [] [] [] (trivial:DTok Tryz.prog []) (by kernel_rfl) ⟨fun o v=>by kernel_rfl⟩ Tryz.func188 Tryz.call188
def qfK (o:DOps)(x:Lkd):Option (Bool) :=
 some (!x.badf)
def qdq:DFn:={ro:=true,args:=(.agg (.seg 23 .nil) .nil),out:={slots:=(.dd 2 (.bool (.dd 3 .nil)))},T:=Bool,to:=fun(v:(Unit)×(Unit)×(Bool×Unit))=>v.2.2.1,of:=fun x=>((),(),(x,()))}
def qif:=qfK DOps.ev
def qmm (o:DOps):qdq.In→Option qdq.T:=fun v=>qfK o v.2.2.1.1
def qmn:DSpec:=qae qdq Tryz.f141 (qmm DOps.ev)
theorem qry:DH Tryz.prog 141 qmn:=qad (d:=qdq) (Fo:=qmm) ([]:DT) [] [] [] (trivial:DTok Tryz.prog []) (by kernel_rfl) ⟨fun o v=>by kernel_rfl⟩ Tryz.func141 Tryz.call141
def qpi (o:DOps)(x:Lkd):Option (Bool) :=
 some (bif x.upf then true else x.badf)
def qjr:DFn:={ro:=true,args:=(.agg (.seg 23 .nil) .nil),out:={slots:=(.dd 2 (.bool (.dd 6 .nil)))},T:=Bool,to:=fun(v:(Unit)×(Unit)×(Bool×Unit))=>v.2.2.1,of:=fun x=>((),(),(x,()))}
def qvx:=qpi DOps.ev
def qxH (o:DOps):qjr.In→Option qjr.T:=fun v=>qpi o v.2.2.1.1
def qxI:DSpec:=qae qjr Tryz.f189 (qxH DOps.ev)
theorem q1d:DH Tryz.prog 189 qxI:=qad (d:=qjr) (Fo:=qxH) ([]:DT) [] [] [] (trivial:DTok Tryz.prog []) (by kernel_rfl) ⟨fun o v=>by kernel_rfl⟩ Tryz.func189 Tryz.call189
def qkR (o:DOps)(s:SiteT)(c:Int)(phase:Int):Option (Int) :=
 o.letv (c.fdiv ((2:Int) ^ min (s.phases.length:Int).toNat IntKind.u32.bits)) fun n1=>bif n1 != 0 then some ((8:Int)) else bif bif decide (phase<(-1:Int)) then true else decide (phase≥s.phases.length) then some ((2:Int)) else some ((0:Int))
def qg0:DFn:={ro:=true,args:=(.agg (.seg 25 .nil) (.int .u32 (.int .i64 .nil))),out:={slots:=(.dd 6 (.int .i64 (.dd 17 .nil)))},T:=Int,to:=fun(v:(Unit)×(Unit)×(Int×Unit))=>v.2.2.1,of:=fun x=>((),(),(x,()))}
def qpj:=qkR DOps.ev
def qsz (o:DOps):qg0.In→Option qg0.T:=fun v=>qkR o v.2.2.1.1 v.2.2.2.1 v.2.2.2.2.1
def qs0:DSpec:=qae qg0 Tryz.f137 (qsz DOps.ev)
theorem qxJ:DH Tryz.prog 137 qs0:=qad (d:=qg0) (Fo:=qsz) ([]:DT) [] [] [] (trivial:DTok Tryz.prog []) (by kernel_rfl) ⟨fun o v=>by kernel_rfl⟩ Tryz.func137 Tryz.call137
def qig (o:DOps)(s:SiteT)(l:List UInt8):Option (Int) :=
 bif (l.length:Int) != (s.groups.length:Int) then some ((4:Int)) else o.fix (((),(),l,(l.length:Int),(0:Int),())) fun r1 (_,_,z2,n3,n4,_)=>bif decide (n4<n3) then ix o z2 n4 (0:UInt8) fun x5=>bif decide ((↑x5.toNat:Int) > 4) then some ((2:Int)) else inc o n4 fun n6=>r1 (((),(),z2,n3,n6,())) else some ((0:Int))
def qe2:DFn:={ro:=true,args:=(.agg (.seg 25 .nil) (.sl 0 .nil)),out:={slots:=(.dd 4 (.int .i64 (.dd 17 .nil)))},T:=Int,to:=fun(v:(Unit)×(Unit)×(Int×Unit))=>v.2.2.1,of:=fun x=>((),(),(x,()))}
def qkS:=qig DOps.ev
def qpk (o:DOps):qe2.In→Option qe2.T:=fun v=>qig o v.2.2.1.1 v.2.2.2.1
def qpl:DSpec:=qae qe2 Tryz.f190 (qpk DOps.ev)
theorem qvy:DH Tryz.prog 190 qpl:=qad (d:=qe2) (Fo:=qpk) ([]:DT) [(4,{slots:=(.dd 13 (.sl 0 (.int .i64 (.int .i64 (.dd 6 .nil)))))})] [] [] (trivial:DTok Tryz.prog []) (by kernel_rfl) ⟨fun o v=>by kernel_rfl⟩ Tryz.func190 Tryz.call190
def qkT (o:DOps)(p:Plan):Option (Bool) :=
 some (bif bif p.cycle==0 then p.offset==0 else false then (p.splits.length:Int)==0 else false)
def qg1:DFn:={ro:=true,args:=(.agg (.seg 10 .nil) .nil),out:={slots:=(.dd 2 (.bool (.dd 14 .nil)))},T:=Bool,to:=fun(v:(Unit)×(Unit)×(Bool×Unit))=>v.2.2.1,of:=fun x=>((),(),(x,()))}
def qdS:=qkT DOps.ev
def qs1 (o:DOps):qg1.In→Option qg1.T:=fun v=>qkT o v.2.2.1.1
def qs2:DSpec:=qae qg1 Tryz.f85 (qs1 DOps.ev)
theorem qxK:DH Tryz.prog 85 qs2:=qad (d:=qg1) (Fo:=qs1) ([]:DT) [] [] [] (trivial:DTok Tryz.prog []) (by kernel_rfl) ⟨fun o v=>by kernel_rfl⟩ Tryz.func85 Tryz.call85
def qkU (o:DOps)(r:Int)(r2:Int)(r3:Bool)(f:Bool)(f2:Bool)(f3:Bool)(f4:Bool):Option (Int) :=
 bif bif r3 then true else !f4 then some ((0:Int)) else bif bif bif f then f2 else false then f3 else false then some ((3:Int)) else bif f2 then some ((2:Int)) else some ((1:Int))
def qg2:DFn:={ro:=true,args:=(.agg (.int .u8 (.int .i64 (.bool .nil))) (.agg (.bool (.bool (.bool (.bool .nil)))) .nil)),out:={slots:=(.dd 4 (.int .u8 (.dd 22 .nil)))},T:=Int,to:=fun(v:(Unit)×(Unit)×(Int×Unit))=>v.2.2.1,of:=fun x=>((),(),(x,()))}
def qpm:=qkU DOps.ev
def qs3 (o:DOps):qg2.In→Option qg2.T:=fun v=>qkU o v.2.2.1.1 v.2.2.1.2.1 v.2.2.1.2.2.1 v.2.2.2.1.1 v.2.2.2.1.2.1 v.2.2.2.1.2.2.1 v.2.2.2.1.2.2.2.1
def qs4:DSpec:=qae qg2 Tryz.f142 (qs3 DOps.ev)
theorem qxL:DH Tryz.prog 142 qs4:=qad (d:=qg2) (Fo:=qs3) ([]:DT) [] [] [] (trivial:DTok Tryz.prog []) (by kernel_rfl) ⟨fun o v=>by kernel_rfl⟩ Tryz.func142 Tryz.call142
def qkV (o:DOps)(s:SiteT)(calls:Int):Option (Int) :=
 o.fix (((),(),calls,(0:Int),s.phases,(s.phases.length:Int),(0:Int),())) fun r1 (_,_,n2,n3,z4,n5,n6,_)=>bif decide (n6<n5) then ix o z4 n6 (dflt 18) fun x7=>req (!!x7.alwaysf||decide (0≤n6)) <| o.letv (n2.fdiv ((2:Int) ^ min n6.toNat IntKind.u32.bits)) fun n8=>o.letv (bits BinOp.and IntKind.u32 n8 (1:Int)) fun n9=>bif bif x7.alwaysf then true else n9==1 then req (decide (0≤n6)) <| o.letv (wq ((1:Int)*2 ^ min n6.toNat IntKind.u32.bits)) fun n11=>o.letv (bits BinOp.or IntKind.u32 n3 n11) fun n12=>inc o n6 fun n13=>r1 (((),(),n2,n12,z4,n5,n13,())) else inc o n6 fun n10=>r1 (((),(),n2,n3,z4,n5,n10,())) else some n3
def qg3:DFn:={ro:=true,args:=(.agg (.seg 25 .nil) (.int .u32 .nil)),out:={slots:=(.dd 4 (.int .u32 (.dd 26 .nil)))},T:=Int,to:=fun(v:(Unit)×(Unit)×(Int×Unit))=>v.2.2.1,of:=fun x=>((),(),(x,()))}
def qdT:=qkV DOps.ev
def qs5 (o:DOps):qg3.In→Option qg3.T:=fun v=>qkV o v.2.2.1.1 v.2.2.2.1
def qs6:DSpec:=qae qg3 Tryz.f143 (qs5 DOps.ev)
theorem qxM:DH Tryz.prog 143 qs6:=qad (d:=qg3) (Fo:=qs5) ([]:DT) [(3,{slots:=(.dead (.int .u32 (.dd 3 (.int .u32 (.dd 3 (.sl 18 (.int .i64 (.int .i64 (.dd 19 .nil)))))))))})] [] [] (trivial:DTok Tryz.prog []) (by kernel_rfl) ⟨fun o v=>by kernel_rfl⟩ Tryz.func143 Tryz.call143
def qvz (o:DOps)(n:Int)(a:Int):Option (List UInt8) :=
 req (decide (0≤n∧n≤n∧n*(↑1:Int)≤140737488355328)) <| rs n.toNat (List.replicate n.toNat (UInt8.ofNat 0)).length <| o.fix (((List.replicate n.toNat (UInt8.ofNat 0),()),(),a,(↑n.toNat:Int),(0:Int),())) fun r1 ((z2,_),_,n3,n4,n5,_)=>bif decide (n5<n4) then rb n5 z2.length <| req (decide (0+n5.toNat<z2.length)) <| o.letv (z2.set (0+n5.toNat) (UInt8.ofNat n3.toNat)) fun z6=>inc o n5 fun n7=>rs z2.length z6.length <| r1 (((z6,()),(),n3,n4,n7,())) else rs z2.length z2.length <| some z2
def qns:DFn:={ro:=true,args:=(.int .i64 (.int .u8 .nil)),out:={slots:=(.dd 4 (.row 0 904 (.dd 15 .nil))),blks:=[(904,.row 0)],boxes:=[(4,904,0)]},T:=List (UInt8),to:=fun(v:(List (UInt8)×Unit)×(Unit)×(Unit))=>v.1.1,of:=fun x=>((x,()),(),())}
def qkW:=qvz DOps.ev
def q3v (o:DOps):qns.In→Option qns.T:=fun v=>qvz o v.2.2.1 v.2.2.2.1
def q3w:DSpec:=qae qns Tryz.f153 (q3v DOps.ev)
theorem q5i:DH Tryz.prog 153 q3w:=qad (d:=qns) (Fo:=q3v) ([]:DT) [(3,{slots:=(.dead (.int .u8 (.dd 3 (.row 0 2001 (.dd 4 (.int .i64 (.int .i64 (.dd 8 .nil)))))))),blks:=[(2001,.row 0)]})] [] [] (trivial:DTok Tryz.prog []) (by kernel_rfl) ⟨fun o v=>by kernel_rfl⟩ Tryz.func153 Tryz.call153
def q76 (o:DOps)(n:Int):Option (Int) :=
 o.letv (max n (-1073741824:Int)) fun n1=>o.letv (min n1 (1073741824:Int)) fun n2=>o.letv (wi (n2*65536)) fun n3=>some n3
def q3x:DFn:={ro:=true,args:=(.int .i64 .nil),out:={slots:=(.dd 2 (.int .i64 (.dd 4 .nil)))},T:=Int,to:=fun(v:(Unit)×(Unit)×(Int×Unit))=>v.2.2.1,of:=fun x=>((),(),(x,()))}
def fixOf:=q76 DOps.ev
def fixOfV (o:DOps):q3x.In→Option q3x.T:=fun v=>q76 o v.2.2.1
def fixOfS:DSpec:=qae q3x Tryz.f101 (fixOfV DOps.ev)
theorem fixOf_ok:DH Tryz.prog 101 fixOfS:=qad (d:=q3x) (Fo:=fixOfV) ([]:DT) [] [] [] (trivial:DTok Tryz.prog []) (by kernel_rfl) ⟨fun o v=>by kernel_rfl⟩ Tryz.func101 Tryz.call101
def qv0 (o:DOps)(x:Int):Option (Int) :=
 o.letv (max x (-70368744177664:Int)) fun n1=>o.letv (min n1 (70368744177664:Int)) fun n2=>some n2
def qnt:DFn:={ro:=true,args:=(.int .i64 .nil),out:={slots:=(.dd 2 (.int .i64 (.dd 3 .nil)))},T:=Int,to:=fun(v:(Unit)×(Unit)×(Int×Unit))=>v.2.2.1,of:=fun x=>((),(),(x,()))}
def qkX:=qv0 DOps.ev
def q3y (o:DOps):qnt.In→Option qnt.T:=fun v=>qv0 o v.2.2.1
def q3z:DSpec:=qae qnt Tryz.f166 (q3y DOps.ev)
theorem q5j:DH Tryz.prog 166 q3z:=qad (d:=qnt) (Fo:=q3y) ([]:DT) [] [] [] (trivial:DTok Tryz.prog []) (by kernel_rfl) ⟨fun o v=>by kernel_rfl⟩ Tryz.func166 Tryz.call166
def qkY (o:DOps)(s:Int)(s2:Int)(s3:List Plan)(s4:List (List UInt8))(s5:Bool)(q:Int)(q2:Int)(q3:List Plan)(q4:List (List UInt8))(q5:Bool):Option (Bool×Int×Int×List Plan×List (List UInt8)×Bool×Int×Int×List Plan×List (List UInt8)×Bool) :=
 some ((bif s5 then !bif q5 then decide (q > s) else false else false,s,s2,s3,s4,s5,q,q2,q3,q4,q5))
def qg4:DFn:={ro:=false,own:=[false,false],args:=(.ptr 0 0 (.ptr 1 0 .nil)),B:=[.cells (.int .i64 (.int .u8 (.sl 10 (.sl 6 (.bool .nil))))),.cells (.int .i64 (.int .u8 (.sl 10 (.sl 6 (.bool .nil)))))],out:={slots:=(.dd 4 (.bool (.dd 24 .nil))),blks:=[(0,.cells (.int .i64 (.int .u8 (.sl 10 (.sl 6 (.bool .nil)))))),(1,.cells (.int .i64 (.int .u8 (.sl 10 (.sl 6 (.bool .nil))))))],fz:=true},T:=Bool×Int×Int×List Plan×List (List UInt8)×Bool×Int×Int×List Plan×List (List UInt8)×Bool,to:=fun(v:(Unit)×((Int×Int×List Plan×List (List UInt8)×Bool×Unit)×(Int×Int×List Plan×List (List UInt8)×Bool×Unit)×Unit)×(Bool×Unit))=>(v.2.2.1,v.2.1.1.1,v.2.1.1.2.1,v.2.1.1.2.2.1,v.2.1.1.2.2.2.1,v.2.1.1.2.2.2.2.1,v.2.1.2.1.1,v.2.1.2.1.2.1,v.2.1.2.1.2.2.1,v.2.1.2.1.2.2.2.1,v.2.1.2.1.2.2.2.2.1),of:=fun x=>((),((x.2.1,(x.2.2.1,(x.2.2.2.1,(x.2.2.2.2.1,(x.2.2.2.2.2.1,()))))),((x.2.2.2.2.2.2.1,(x.2.2.2.2.2.2.2.1,(x.2.2.2.2.2.2.2.2.1,(x.2.2.2.2.2.2.2.2.2.1,(x.2.2.2.2.2.2.2.2.2.2,()))))),())),(x.1,()))}
def qjs:=qkY DOps.ev
def qs7 (o:DOps):qg4.In→Option qg4.T:=fun v=>qkY o v.2.1.1.1 v.2.1.1.2.1 v.2.1.1.2.2.1 v.2.1.1.2.2.2.1 v.2.1.1.2.2.2.2.1 v.2.1.2.1.1 v.2.1.2.1.2.1 v.2.1.2.1.2.2.1 v.2.1.2.1.2.2.2.1 v.2.1.2.1.2.2.2.2.1
def qs8:DSpec:=qae qg4 Tryz.f177 (qs7 DOps.ev)
theorem qxN:DH Tryz.prog 177 qs8:=qad (d:=qg4) (Fo:=qs7) ([]:DT) [] [] [] (trivial:DTok Tryz.prog []) (by kernel_rfl) ⟨fun o v=>by kernel_rfl⟩ Tryz.func177 Tryz.call177
def qb0 (o:DOps)(s:List UInt8):Option (List UInt8) :=
 bif s.isEmpty then sm o [some qan,req (decide ((0+s.length)*1≤140737488355328)) <| o.letv ([]++s) fun z2=>rs (0+s.length) z2.length <| some z2] (.n (.l 0) (.l 1)) else req (decide ((0+s.length)*1≤140737488355328)) <| o.letv ([]++s) fun z1=>rs (0+s.length) z1.length <| some z1
def qdr:DFn:={ro:=true,args:=(.sl 0 .nil),out:={slots:=(.dd 2 (.row 0 902 (.dd 5 .nil))),blks:=[(902,.row 0)],boxes:=[(2,902,0)]},T:=List (UInt8),to:=fun(v:(List (UInt8)×Unit)×(Unit)×(Unit))=>v.1.1,of:=fun x=>((x,()),(),())}
def qbS:=qb0 DOps.ev
def qmo (o:DOps):qdr.In→Option qdr.T:=fun v=>qb0 o v.2.2.1
def qmp:DSpec:=qae qdr Tryz.f62 (qmo DOps.ev)
theorem qrz (s:List UInt8):qb0 DOps.std s=qb0 DOps.ev s:=by cases s with|nil=>(unfold qb0;simp only[List.isEmpty_nil,cond_true,sm_l,sm_n,qdC,qdD];exact qa0 (by kernel_rfl))|cons x l=>kernel_rfl
theorem qr0:DH Tryz.prog 62 qmp:=qad (d:=qdr) (Fo:=qmo) ([]:DT) [] [] [] (trivial:DTok Tryz.prog []) (funext fun v=>qrz _) ⟨fun o v=>by kernel_rfl⟩ Tryz.func62 Tryz.call62
def qbd (o:DOps)(s:List Pls):Option (List Pls) :=
 bif s.isEmpty then sm o [some nilL21,req (decide ((0+s.length)*16≤140737488355328)) <| o.letv ([]++s) fun z2=>rs (0+s.length) z2.length <| some z2] (.n (.l 0) (.l 1)) else req (decide ((0+s.length)*16≤140737488355328)) <| o.letv ([]++s) fun z1=>rs (0+s.length) z1.length <| some z1
def qc1:DFn:={ro:=true,args:=(.sl 21 .nil),out:={slots:=(.dd 2 (.row 21 902 (.dd 5 .nil))),blks:=[(902,.row 21)],boxes:=[(2,902,21)]},T:=List (Pls),to:=fun(v:(List (Pls)×Unit)×(Unit)×(Unit))=>v.1.1,of:=fun x=>((x,()),(),())}
def qds:=qbd DOps.ev
def qjt (o:DOps):qc1.In→Option qc1.T:=fun v=>qbd o v.2.2.1
def qju:DSpec:=qae qc1 Tryz.f75 (qjt DOps.ev)
theorem qpn (s:List Pls):qbd DOps.std s=qbd DOps.ev s:=by cases s with|nil=>(unfold qbd;simp only[List.isEmpty_nil,cond_true,sm_l,sm_n,qdC,qdD];exact qa0 (by kernel_rfl))|cons x l=>kernel_rfl
theorem qpo:DH Tryz.prog 75 qju:=qad (d:=qc1) (Fo:=qjt) ([]:DT) [] [] [] (trivial:DTok Tryz.prog []) (funext fun v=>qpn _) ⟨fun o v=>by kernel_rfl⟩ Tryz.func75 Tryz.call75
def qaS (o:DOps)(s:List Gpd):Option (List Gpd) :=
 bif s.isEmpty then sm o [some nilL22,req (decide ((0+s.length)*40≤140737488355328)) <| o.letv ([]++s) fun z2=>rs (0+s.length) z2.length <| some z2] (.n (.l 0) (.l 1)) else req (decide ((0+s.length)*40≤140737488355328)) <| o.letv ([]++s) fun z1=>rs (0+s.length) z1.length <| some z1
def qbY:DFn:={ro:=true,args:=(.sl 22 .nil),out:={slots:=(.dd 2 (.row 22 902 (.dd 5 .nil))),blks:=[(902,.row 22)],boxes:=[(2,902,22)]},T:=List (Gpd),to:=fun(v:(List (Gpd)×Unit)×(Unit)×(Unit))=>v.1.1,of:=fun x=>((x,()),(),())}
def qe3:=qaS DOps.ev
def qhC (o:DOps):qbY.In→Option qbY.T:=fun v=>qaS o v.2.2.1
def qhD:DSpec:=qae qbY Tryz.f76 (qhC DOps.ev)
theorem qmV (s:List Gpd):qaS DOps.std s=qaS DOps.ev s:=by cases s with|nil=>(unfold qaS;simp only[List.isEmpty_nil,cond_true,sm_l,sm_n,qdC,qdD];exact qa0 (by kernel_rfl))|cons x l=>kernel_rfl
theorem qmW:DH Tryz.prog 76 qhD:=qad (d:=qbY) (Fo:=qhC) ([]:DT) [] [] [] (trivial:DTok Tryz.prog []) (funext fun v=>qmV _) ⟨fun o v=>by kernel_rfl⟩ Tryz.func76 Tryz.call76
def qb1 (o:DOps)(s:List SeenT):Option (List SeenT) :=
 bif s.isEmpty then sm o [some qfv,req (decide ((0+s.length)*24≤140737488355328)) <| o.letv ([]++s) fun z2=>rs (0+s.length) z2.length <| some z2] (.n (.l 0) (.l 1)) else req (decide ((0+s.length)*24≤140737488355328)) <| o.letv ([]++s) fun z1=>rs (0+s.length) z1.length <| some z1
def qdt:DFn:={ro:=true,args:=(.sl 20 .nil),out:={slots:=(.dd 2 (.row 20 902 (.dd 5 .nil))),blks:=[(902,.row 20)],boxes:=[(2,902,20)]},T:=List (SeenT),to:=fun(v:(List (SeenT)×Unit)×(Unit)×(Unit))=>v.1.1,of:=fun x=>((x,()),(),())}
def qcS:=qb1 DOps.ev
def qmq (o:DOps):qdt.In→Option qdt.T:=fun v=>qb1 o v.2.2.1
def qmr:DSpec:=qae qdt Tryz.f96 (qmq DOps.ev)
theorem qr1 (s:List SeenT):qb1 DOps.std s=qb1 DOps.ev s:=by cases s with|nil=>(unfold qb1;simp only[List.isEmpty_nil,cond_true,sm_l,sm_n,qdC,qdD];exact qa0 (by kernel_rfl))|cons x l=>kernel_rfl
theorem qr2:DH Tryz.prog 96 qmr:=qad (d:=qdt) (Fo:=qmq) ([]:DT) [] [] [] (trivial:DTok Tryz.prog []) (funext fun v=>qr1 _) ⟨fun o v=>by kernel_rfl⟩ Tryz.func96 Tryz.call96
def qbT (o:DOps)(s:List Int):Option (List Int) :=
 bif s.isEmpty then sm o [some qft,req (decide ((0+s.length)*8≤140737488355328)) <| o.letv ([]++s) fun z2=>rs (0+s.length) z2.length <| some z2] (.n (.l 0) (.l 1)) else req (decide ((0+s.length)*8≤140737488355328)) <| o.letv ([]++s) fun z1=>rs (0+s.length) z1.length <| some z1
def qe4:DFn:={ro:=true,args:=(.sl 1 .nil),out:={slots:=(.dd 2 (.row 1 902 (.dd 5 .nil))),blks:=[(902,.row 1)],boxes:=[(2,902,1)]},T:=List (Int),to:=fun(v:(List (Int)×Unit)×(Unit)×(Unit))=>v.1.1,of:=fun x=>((x,()),(),())}
def qdU:=qbT DOps.ev
def qpp (o:DOps):qe4.In→Option qe4.T:=fun v=>qbT o v.2.2.1
def qpq:DSpec:=qae qe4 Tryz.f98 (qpp DOps.ev)
theorem qv1 (s:List Int):qbT DOps.std s=qbT DOps.ev s:=by cases s with|nil=>(unfold qbT;simp only[List.isEmpty_nil,cond_true,sm_l,sm_n,qdC,qdD];exact qa0 (by kernel_rfl))|cons x l=>kernel_rfl
theorem qv2:DH Tryz.prog 98 qpq:=qad (d:=qe4) (Fo:=qpp) ([]:DT) [] [] [] (trivial:DTok Tryz.prog []) (funext fun v=>qv1 _) ⟨fun o v=>by kernel_rfl⟩ Tryz.func98 Tryz.call98
def q1e (o:DOps)(s:List UInt8)(n:Int):Option (List UInt8) :=
 bif decide (n<0) then none else none
def qe5:DFn:={ro:=false,args:=(.sl 0 (.int .i64 .nil)),out:={slots:=(.dd 4 (.sl 0 (.dd 22 .nil))),fz:=true},T:=List UInt8,to:=fun(v:(Unit)×(Unit)×(List UInt8×Unit))=>v.2.2.1,of:=fun x=>((),(),(x,()))}
def qpr (o:DOps):qe5.In→Option qe5.T:=fun v=>q1e o v.2.2.1 v.2.2.2.1
def qps:DSpec:=qae qe5 Tryz.f119 (qpr DOps.ev)
theorem qv3:DH Tryz.prog 119 qps:=qad (d:=qe5) (Fo:=qpr) ([]:DT) [] [] [] (trivial:DTok Tryz.prog []) (by kernel_rfl) ⟨fun o v=>by kernel_rfl⟩ Tryz.func119 Tryz.call119
def q77 (o:DOps)(n:Int):Option (Nat×List UInt8) :=
 bif decide (n<0) then none else o.letv (wi ((0:Int)-0)) fun n1=>o.letv (wi (n-n1)) fun n2=>bif decide (n2 > 0) then req (decide (0≤n2)) <| req (decide (n2.toNat*1≤140737488355328)) <| o.letv (List.replicate n2.toNat (UInt8.ofNat 0)) fun z3=>some ((Int.toNat (0:Int),z3)) else some ((0,qan))
def q30:DFn:={ro:=true,args:=(.nilsl (.int .i64 .nil)),out:={slots:=(.dd 4 (.rown 0 904 (.dd 22 .nil))),blks:=[(904,.row 0)],boxes:=[(4,904,0)]},T:=Nat×List (UInt8),to:=fun(v:(List (UInt8)×Unit)×(Unit)×(Nat×Unit))=>(v.2.2.1,v.1.1),of:=fun x=>((x.2,()),(),(x.1,()))}
def growN:=q77 DOps.ev
def growNV (o:DOps):q30.In→Option q30.T:=fun v=>q77 o v.2.2.1
def growNS:DSpec:=qae q30 Tryz.f119 (growNV DOps.ev)
theorem growN_ok:DH Tryz.prog 119 growNS:=qad (d:=q30) (Fo:=growNV) ([]:DT) [] [] [] (trivial:DTok Tryz.prog []) (by kernel_rfl) ⟨fun o v=>by kernel_rfl⟩ Tryz.func119 Tryz.call119
def q5k (o:DOps)(x:Int)(y:Int):Option (Int×Int) :=
 o.letv (wu x) fun n1=>o.letv (wu y) fun n2=>o.letv (wu (n1*n2)) fun n3=>o.letv (n3.fdiv ((2:Int) ^ min (Int.toNat (32:Int)) IntKind.u64.bits)) fun n4=>o.letv (wq n4) fun n5=>o.letv (wq n3) fun n6=>some ((n5,n6))
def qg5:DFn:={ro:=true,args:=(.int .u32 (.int .u32 .nil)),out:={slots:=(.dd 4 (.int .u32 (.int .u32 (.dd 11 .nil))))},T:=Int×Int,to:=fun(v:(Unit)×(Unit)×(Int×Int×Unit))=>(v.2.2.1,v.2.2.2.1),of:=fun x=>((),(),(x.1,(x.2,())))}
def qs9 (o:DOps):qg5.In→Option qg5.T:=fun v=>q5k o v.2.2.1 v.2.2.2.1
def qsA:DSpec:=qae qg5 Tryz.f212 (qs9 DOps.ev)
theorem qxO:DH Tryz.prog 212 qsA:=qad (d:=qg5) (Fo:=qs9) ([]:DT) [] [] [] (trivial:DTok Tryz.prog []) (by kernel_rfl) ⟨fun o v=>by kernel_rfl⟩ Tryz.func212 Tryz.call212
def qsB (o:DOps)(x:Int)(y:Int):Option (Int×Int) :=
 o.letv (bits BinOp.and IntKind.u64 x (4294967295:Int)) fun n1=>o.letv (x.fdiv ((2:Int) ^ min (Int.toNat (32:Int)) IntKind.u64.bits)) fun n2=>o.letv (bits BinOp.and IntKind.u64 y (4294967295:Int)) fun n3=>o.letv (y.fdiv ((2:Int) ^ min (Int.toNat (32:Int)) IntKind.u64.bits)) fun n4=>o.letv (wu (n1*n3)) fun n5=>o.letv (wu (n2*n3)) fun n6=>o.letv (n5.fdiv ((2:Int) ^ min (Int.toNat (32:Int)) IntKind.u64.bits)) fun n7=>o.letv (wu (n6+n7)) fun n8=>o.letv (bits BinOp.and IntKind.u64 n8 (4294967295:Int)) fun n9=>o.letv (n8.fdiv ((2:Int) ^ min (Int.toNat (32:Int)) IntKind.u64.bits)) fun n10=>o.letv (wu (n1*n4)) fun n11=>o.letv (wu (n9+n11)) fun n12=>o.letv (wu (n2*n4)) fun n13=>o.letv (wu (n13+n10)) fun n14=>o.letv (n12.fdiv ((2:Int) ^ min (Int.toNat (32:Int)) IntKind.u64.bits)) fun n15=>o.letv (wu (n14+n15)) fun n16=>o.letv (wu (x*y)) fun n17=>some ((n16,n17))
def qg6:DFn:={ro:=true,args:=(.int .u64 (.int .u64 .nil)),out:={slots:=(.dd 4 (.int .u64 (.int .u64 (.dd 45 .nil))))},T:=Int×Int,to:=fun(v:(Unit)×(Unit)×(Int×Int×Unit))=>(v.2.2.1,v.2.2.2.1),of:=fun x=>((),(),(x.1,(x.2,())))}
def q78:=qsB DOps.ev
def qsC (o:DOps):qg6.In→Option qg6.T:=fun v=>qsB o v.2.2.1 v.2.2.2.1
def qsD:DSpec:=qae qg6 Tryz.f213 (qsC DOps.ev)
theorem qxP:DH Tryz.prog 213 qsD:=qad (d:=qg6) (Fo:=qsC) ([]:DT) [] [] [] (trivial:DTok Tryz.prog []) (by kernel_rfl) ⟨fun o v=>by kernel_rfl⟩ Tryz.func213 Tryz.call213
def qkZ (o:DOps)(now:List SeenT)(now2:Int)(now3:Bool)(s:SiteT):Option (Int×List SeenT×Int×Bool×SiteT) :=
 bif (now.length:Int) != (s.groups.length:Int) then some (((8:Int),now,now2,now3,s)) else some (((0:Int),now,now2,now3,s))
def qg7:DFn:={ro:=false,own:=[false,false],args:=(.ptr 0 0 (.ptr 1 0 .nil)),B:=[.cells (.sl 20 (.int .i64 (.bool .nil))),.cells (.seg 25 .nil)],out:={slots:=(.dd 2 (.int .i64 (.dd 7 .nil))),blks:=[(0,.cells (.sl 20 (.int .i64 (.bool .nil)))),(1,.cells (.seg 25 .nil))],fz:=true},T:=Int×List SeenT×Int×Bool×SiteT,to:=fun(v:(Unit)×((List SeenT×Int×Bool×Unit)×(SiteT×Unit)×Unit)×(Int×Unit))=>(v.2.2.1,v.2.1.1.1,v.2.1.1.2.1,v.2.1.1.2.2.1,v.2.1.2.1.1),of:=fun x=>((),((x.2.1,(x.2.2.1,(x.2.2.2.1,()))),((x.2.2.2.2,()),())),(x.1,()))}
def qpt:=qkZ DOps.ev
def qsE (o:DOps):qg7.In→Option qg7.T:=fun v=>qkZ o v.2.1.1.1 v.2.1.1.2.1 v.2.1.1.2.2.1 v.2.1.2.1.1
def qsF:DSpec:=qae qg7 Tryz.f134 (qsE DOps.ev)
theorem qxQ:DH Tryz.prog 134 qsF:=qad (d:=qg7) (Fo:=qsE) ([]:DT) [] [] [] (trivial:DTok Tryz.prog []) (by kernel_rfl) ⟨fun o v=>by kernel_rfl⟩ Tryz.func134 Tryz.call134
def qla (o:DOps):Option (Int) :=
 some ((0:Int))
def qg8:DFn:={ro:=true,args:=.nil,out:={slots:=(.int .i64 .nil)},T:=Int,to:=fun(v:(Unit)×(Unit)×(Int×Unit))=>v.2.2.1,of:=fun x=>((),(),(x,()))}
def qpu:=qla DOps.ev
def qsG (o:DOps):qg8.In→Option qg8.T:=fun v=>qla o
def qsH:DSpec:=qae qg8 Tryz.f148 (qsG DOps.ev)
theorem qxR:DH Tryz.prog 148 qsH:=qad (d:=qg8) (Fo:=qsG) ([]:DT) [] [] [] (trivial:DTok Tryz.prog []) (by kernel_rfl) ⟨fun o v=>by kernel_rfl⟩ Tryz.func148 Tryz.call148
def qih (o:DOps)(a:Int):Option (Bool) :=
 some (a != 4)
def qe6:DFn:={ro:=true,args:=(.int .u8 .nil),out:={slots:=(.dd 2 (.bool (.dd 2 .nil)))},T:=Bool,to:=fun(v:(Unit)×(Unit)×(Bool×Unit))=>v.2.2.1,of:=fun x=>((),(),(x,()))}
def qlb:=qih DOps.ev
def qpv (o:DOps):qe6.In→Option qe6.T:=fun v=>qih o v.2.2.1
def qpw:DSpec:=qae qe6 Tryz.f198 (qpv DOps.ev)
theorem qv4:DH Tryz.prog 198 qpw:=qad (d:=qe6) (Fo:=qpv) ([]:DT) [] [] [] (trivial:DTok Tryz.prog []) (by kernel_rfl) ⟨fun o v=>by kernel_rfl⟩ Tryz.func198 Tryz.call198
def qii (o:DOps)(a:Int):Option (Bool) :=
 some (a != 4)
def qe7:DFn:={ro:=true,args:=(.int .u8 .nil),out:={slots:=(.dd 2 (.bool (.dd 2 .nil)))},T:=Bool,to:=fun(v:(Unit)×(Unit)×(Bool×Unit))=>v.2.2.1,of:=fun x=>((),(),(x,()))}
def qlc:=qii DOps.ev
def qpx (o:DOps):qe7.In→Option qe7.T:=fun v=>qii o v.2.2.1
def qpy:DSpec:=qae qe7 Tryz.f152 (qpx DOps.ev)
theorem qv5:DH Tryz.prog 152 qpy:=qad (d:=qe7) (Fo:=qpx) ([]:DT) [] [] [] (trivial:DTok Tryz.prog []) (by kernel_rfl) ⟨fun o v=>by kernel_rfl⟩ Tryz.func152 Tryz.call152
def qld (o:DOps)(now:List SeenT)(now2:Int)(now3:Bool)(g:SeenT):Option (Bool×List SeenT×Int×Bool) :=
 bif now3 then some ((g.aspectf != 4,now,now2,now3)) else some ((bif bif decide (g.aspectf<1) then true else decide (g.aspectf > 3) then true else bif decide (now2 > 0) then g.aspectf != 1 else false,now,now2,now3))
def qg9:DFn:={ro:=false,own:=[false],args:=(.agg (.seg 20 .nil) (.ptr 0 0 .nil)),B:=[.cells (.sl 20 (.int .i64 (.bool .nil)))],out:={slots:=(.dd 3 (.bool (.dd 23 .nil))),blks:=[(0,.cells (.sl 20 (.int .i64 (.bool .nil))))],fz:=true},T:=Bool×List SeenT×Int×Bool,to:=fun(v:(Unit)×((List SeenT×Int×Bool×Unit)×Unit)×(Bool×Unit))=>(v.2.2.1,v.2.1.1.1,v.2.1.1.2.1,v.2.1.1.2.2.1),of:=fun x=>((),((x.2.1,(x.2.2.1,(x.2.2.2,()))),()),(x.1,()))}
def qpz:=qld DOps.ev
def qsI (o:DOps):qg9.In→Option qg9.T:=fun v=>qld o v.2.1.1.1 v.2.1.1.2.1 v.2.1.1.2.2.1 v.2.2.1.1
def qsJ:DSpec:=qae qg9 Tryz.f195 (qsI DOps.ev)
theorem qxS:DH Tryz.prog 195 qsJ:=qad (d:=qg9) (Fo:=qsI) ([]:DT) [] [] [] (trivial:DTok Tryz.prog []) (by kernel_rfl) ⟨fun o v=>by kernel_rfl⟩ Tryz.func195 Tryz.call195
def qij (o:DOps)(out:List UInt8)(now:List SeenT)(now2:Int)(now3:Bool)(s:SiteT)(i:Int):Option (Bool×List SeenT×Int×Bool×SiteT×List UInt8) :=
 rs out.length out.length <| o.fix (((out,()),((now,now2,now3,()),(s,()),(),()),i,now,(now.length:Int),(0:Int),())) fun r1 ((z2,_),((z3,n4,b5,_),(x6,_),_,_),n7,z8,n9,n10,_)=>bif decide (n10<n9) then ix o z8 n10 (dflt 20) fun x11=>ix o x6.apart n7 (0:UInt32) fun x12=>req (decide (0≤n10)) <| o.letv ((↑x12.toNat:Int).fdiv ((2:Int) ^ min n10.toNat IntKind.u32.bits)) fun n13=>o.letv (bits BinOp.and IntKind.u32 n13 (1:Int)) fun n14=>req (!n14==1||decide (0≤n10)&&decide (n10<z2.length)) <| req (!n14==1||decide (0+n10.toNat<z2.length)) <| o.letv ((↑(z2.getD (0+n10.toNat) (0:UInt8)).toNat:Int)) fun n15=>req (!!n15 != 1||(!n14==1||decide (0≤n10)&&decide (n10<x6.between.length))) <| o.letv (x6.between.getD n10.toNat (dflt 7)) fun z16=>req (!!n15 != 1||(!n14==1||decide (0≤n7)&&decide (n7<z16.length))) <| o.letv (z16.getD n7.toNat (0:Int)) fun n17=>bif bif n14==1 then bif n15 != 1 then true else decide (x11.endedf<n17) else false then rs z2.length z2.length <| some ((true,z3,n4,b5,x6,z2)) else inc o n10 fun n18=>rs z2.length z2.length <| r1 (((z2,()),((z3,n4,b5,()),(x6,()),(),()),n7,z8,n9,n18,())) else rs z2.length z2.length <| some ((false,z3,n4,b5,x6,z2))
def qe8:DFn:={ro:=false,own:=[false,false,false,false],args:=(.int .i64 (.ptr 0 0 (.ptr 1 0 (.ptr 2 0 .nil)))),B:=[.cells (.sl 20 (.int .i64 (.bool .nil))),.cells (.seg 25 .nil),.cells (.row 0 3 .nil),.row 0],out:={slots:=(.dd 5 (.bool (.dd 40 .nil))),blks:=[(0,.cells (.sl 20 (.int .i64 (.bool .nil)))),(1,.cells (.seg 25 .nil)),(2,.cells (.row 0 3 .nil)),(3,.row 0)],fz:=true},T:=Bool×List SeenT×Int×Bool×SiteT×List (UInt8),to:=fun(v:(List (UInt8)×Unit)×((List SeenT×Int×Bool×Unit)×(SiteT×Unit)×(Unit)×Unit)×(Bool×Unit))=>(v.2.2.1,v.2.1.1.1,v.2.1.1.2.1,v.2.1.1.2.2.1,v.2.1.2.1.1,v.1.1),of:=fun x=>((x.2.2.2.2.2,()),((x.2.1,(x.2.2.1,(x.2.2.2.1,()))),((x.2.2.2.2.1,()),((),()))),(x.1,()))}
def qgA:=qij DOps.ev
def qp0 (o:DOps):qe8.In→Option qe8.T:=fun v=>qij o v.1.1 v.2.1.1.1 v.2.1.1.2.1 v.2.1.1.2.2.1 v.2.1.2.1.1 v.2.2.1
def qp1:DSpec:=qae qe8 Tryz.f155 (qp0 DOps.ev)
theorem qv6:DH Tryz.prog 155 qp1:=qad (d:=qe8) (Fo:=qp0) ([]:DT) [(2,{slots:=(.int .i64 (.dead (.ptr 1 0 (.ptr 2 0 (.dd 5 (.sl 20 (.int .i64 (.int .i64 (.dd 34 .nil))))))))),blks:=[(0,.cells (.sl 20 (.int .i64 (.bool .nil)))),(1,.cells (.seg 25 .nil)),(2,.cells (.row 0 3 .nil)),(3,.row 0)]})] [] [] (trivial:DTok Tryz.prog []) (by kernel_rfl) ⟨fun o v=>by kernel_rfl⟩ Tryz.func155 Tryz.call155
def qxT (o:DOps)(s:SiteT)(a:Int)(b:Int):Option (Bool) :=
 ix o s.apart a (0:UInt32) fun x1=>o.letv (wu b) fun n2=>req (decide (0≤n2)) <| o.letv ((↑x1.toNat:Int).fdiv ((2:Int) ^ min n2.toNat IntKind.u32.bits)) fun n3=>o.letv (n3.tmod (2:Int)) fun n4=>some (n4==1)
def qjv:DFn:={ro:=true,args:=(.agg (.seg 25 .nil) (.int .i64 (.int .i64 .nil))),out:={slots:=(.dd 6 (.bool (.dd 10 .nil)))},T:=Bool,to:=fun(v:(Unit)×(Unit)×(Bool×Unit))=>v.2.2.1,of:=fun x=>((),(),(x,()))}
def topApart:=qxT DOps.ev
def qxU (o:DOps):qjv.In→Option qjv.T:=fun v=>qxT o v.2.2.1.1 v.2.2.2.1 v.2.2.2.2.1
def qxV:DSpec:=qae qjv Tryz.f46 (qxU DOps.ev)
theorem q1f:DH Tryz.prog 46 qxV:=qad (d:=qjv) (Fo:=qxU) ([]:DT) [] [] [] (trivial:DTok Tryz.prog []) (by kernel_rfl) ⟨fun o v=>by kernel_rfl⟩ Tryz.func46 Tryz.call46
def qxW (o:DOps)(s:SiteT):Option (Int) :=
 o.fix (((),((s,()),()),(0:Int),(0:Int),())) fun r1 (_,((x2,_),_),n3,n4,_)=>bif decide (n4<x2.between.length) then o.fix (((),((x2,()),()),n3,n4,(0:Int),())) fun r5 (_,((x6,_),_),n7,n8,n9,_)=>ix o x6.between n8 (dflt 7) fun z10=>bif decide (n9<z10.length) then ix o x6.between n8 (dflt 7) fun z12=>ix o z12 n9 (0:Int) fun n13=>o.letv (max n7 n13) fun n14=>inc o n9 fun n15=>r5 (((),((x6,()),()),n14,n8,n15,())) else inc o n8 fun n11=>r1 (((),((x6,()),()),n7,n11,())) else some n3
def qjw:DFn:={ro:=true,args:=(.agg (.seg 25 .nil) .nil),out:={slots:=(.dd 2 (.int .i64 (.dd 31 .nil)))},T:=Int,to:=fun(v:(Unit)×(Unit)×(Int×Unit))=>v.2.2.1,of:=fun x=>((),(),(x,()))}
def qv7:=qxW DOps.ev
def qxX (o:DOps):qjw.In→Option qjw.T:=fun v=>qxW o v.2.2.1.1
def qxY:DSpec:=qae qjw Tryz.f16 (qxX DOps.ev)
theorem q1g:DH Tryz.prog 16 qxY:=qad (d:=qjw) (Fo:=qxX) ([]:DT) [(3,{slots:=(.dead (.ptr 1000 0 (.dead (.int .i64 (.int .i64 (.dd 29 .nil)))))),blks:=[(1000,.cells (.seg 25 .nil))]}),(6,{slots:=(.dead (.ptr 1000 0 (.dead (.int .i64 (.int .i64 (.int .i64 (.dd 28 .nil))))))),blks:=[(1000,.cells (.seg 25 .nil))]})] [] [] (trivial:DTok Tryz.prog []) (by kernel_rfl) ⟨fun o v=>by kernel_rfl⟩ Tryz.func16 Tryz.call16
def qp2 (o:DOps)(l:List UInt8):Option (Int) :=
 o.fix (((),(),l,(0:Int),(0:Int),())) fun r1 (_,_,z2,n3,n4,_)=>bif decide (n4<z2.length) then ix o z2 n4 (0:UInt8) fun x5=>bif (↑x5.toNat:Int)==4 then inc o n3 fun n7=>inc o n4 fun n8=>r1 (((),(),z2,n7,n8,())) else inc o n4 fun n6=>r1 (((),(),z2,n3,n6,())) else some n3
def qe9:DFn:={ro:=true,args:=(.sl 0 .nil),out:={slots:=(.dd 2 (.int .i64 (.dd 16 .nil)))},T:=Int,to:=fun(v:(Unit)×(Unit)×(Int×Unit))=>v.2.2.1,of:=fun x=>((),(),(x,()))}
def qgB:=qp2 DOps.ev
def qp3 (o:DOps):qe9.In→Option qe9.T:=fun v=>qp2 o v.2.2.1
def qp4:DSpec:=qae qe9 Tryz.f15 (qp3 DOps.ev)
theorem qv8:DH Tryz.prog 15 qp4:=qad (d:=qe9) (Fo:=qp3) ([]:DT) [(3,{slots:=(.sl 0 (.dd 2 (.int .i64 (.int .i64 (.dd 14 .nil)))))})] [] [] (trivial:DTok Tryz.prog []) (by kernel_rfl) ⟨fun o v=>by kernel_rfl⟩ Tryz.func15 Tryz.call15
def qms (o:DOps)(g:Grp)(was:Int)(ran:Int)(now:Int):Option (Bool) :=
 bif was==1 then some (bif now==1 then true else now==2) else bif was==2 then some (bif now==2 then true else bif now==3 then decide (ran≥g.minf) else false) else bif was==3 then some (bif bif now==3 then decide (ran<g.yellowf) else false then true else bif now==1 then ran==g.yellowf else false) else some false
def qdu:DFn:={ro:=true,args:=(.agg (.seg 17 .nil) (.int .u8 (.int .i64 (.int .u8 .nil)))),out:={slots:=(.dd 8 (.bool (.dd 43 .nil)))},T:=Bool,to:=fun(v:(Unit)×(Unit)×(Bool×Unit))=>v.2.2.1,of:=fun x=>((),(),(x,()))}
def qp5:=qms DOps.ev
def qmt (o:DOps):qdu.In→Option qdu.T:=fun v=>qms o v.2.2.1.1 v.2.2.2.1 v.2.2.2.2.1 v.2.2.2.2.2.1
def qmu:DSpec:=qae qdu Tryz.f26 (qmt DOps.ev)
theorem qr3:DH Tryz.prog 26 qmu:=qad (d:=qdu) (Fo:=qmt) ([]:DT) [] [] [] (trivial:DTok Tryz.prog []) (by kernel_rfl) ⟨fun o v=>by kernel_rfl⟩ Tryz.func26 Tryz.call26
def q79 (o:DOps):Option (SiteT) :=
 some ({id:=(1:Int),groups:={kindf:=(1:Int),minf:=(2:Int),yellowf:=(1:Int):Grp}::{kindf:=(1:Int),minf:=(2:Int),yellowf:=(1:Int):Grp}::nilL17,apart:=UInt32.ofNat (Int.toNat (2:Int))::UInt32.ofNat (Int.toNat (1:Int))::nilL2,between:=((0:Int)::(2:Int)::qft)::((2:Int)::(0:Int)::qft)::nilL7,phases:={groupsf:=(1:Int),minf:=(2:Int),maxf:=(5:Int),gapf:=(1:Int),alwaysf:=false:Phs}::{groupsf:=(2:Int),minf:=(2:Int),maxf:=(5:Int),gapf:=(1:Int),alwaysf:=false:Phs}::nilL18,eyes:=nilL19,watch:=(3:Int),feed:=(2:Int),heal:=(4:Int),low:=(8:Int),high:=(20:Int),plans:=qaQ:SiteT})
def qv9:DFn:={ro:=false,args:=.nil,out:={slots:=(.ptr 1000 0 (.dd 13 .nil)),blks:=[(1000,.cells (.seg 25 .nil))],fz:=true},T:=SiteT,to:=fun(v:(Unit)×((SiteT×Unit)×Unit)×(Unit))=>v.2.1.1.1,of:=fun x=>((),((x,()),()),())}
def topTwo:=q79 DOps.ev
def q7A (o:DOps):qv9.In→Option qv9.T:=fun v=>q79 o
def q7B:DSpec:=qae qv9 Tryz.f21 (q7A DOps.ev)
theorem q7C:DH Tryz.prog 21 q7B:=qad (d:=qv9) (Fo:=q7A) ([]:DT) [] [] [] (trivial:DTok Tryz.prog []) (by kernel_rfl) ⟨fun o v=>by kernel_rfl⟩ Tryz.func21 Tryz.call21
def q31 (o:DOps):Option (List UInt8) :=
 some (UInt8.ofNat 0::UInt8.ofNat 0::UInt8.ofNat 0::UInt8.ofNat 0::UInt8.ofNat 0::UInt8.ofNat 0::UInt8.ofNat 0::UInt8.ofNat 0::UInt8.ofNat 0::UInt8.ofNat 0::UInt8.ofNat 0::UInt8.ofNat 0::UInt8.ofNat 0::UInt8.ofNat 0::UInt8.ofNat 0::UInt8.ofNat 0::UInt8.ofNat 0::UInt8.ofNat 0::UInt8.ofNat 0::UInt8.ofNat 0::UInt8.ofNat 0::UInt8.ofNat 0::UInt8.ofNat 0::UInt8.ofNat 0::UInt8.ofNat 0::UInt8.ofNat 0::UInt8.ofNat 0::UInt8.ofNat 0::UInt8.ofNat 0::UInt8.ofNat 0::UInt8.ofNat 0::UInt8.ofNat 0::UInt8.ofNat 0::UInt8.ofNat 0::UInt8.ofNat 0::UInt8.ofNat 0::UInt8.ofNat 0::UInt8.ofNat 0::UInt8.ofNat 0::UInt8.ofNat 0::UInt8.ofNat 0::UInt8.ofNat 0::UInt8.ofNat 0::UInt8.ofNat 0::UInt8.ofNat 0::UInt8.ofNat 0::UInt8.ofNat 0::UInt8.ofNat 0::UInt8.ofNat 0::UInt8.ofNat 0::UInt8.ofNat 0::UInt8.ofNat 0::UInt8.ofNat 0::UInt8.ofNat 0::UInt8.ofNat 0::UInt8.ofNat 0::UInt8.ofNat 0::UInt8.ofNat 0::UInt8.ofNat 0::UInt8.ofNat 0::UInt8.ofNat 0::UInt8.ofNat 0::UInt8.ofNat 0::UInt8.ofNat 0::UInt8.ofNat 0::UInt8.ofNat 0::UInt8.ofNat 0::UInt8.ofNat 0::UInt8.ofNat 0::UInt8.ofNat 0::UInt8.ofNat 0::UInt8.ofNat 0::UInt8.ofNat 0::UInt8.ofNat 0::UInt8.ofNat 0::UInt8.ofNat 0::UInt8.ofNat 0::UInt8.ofNat 0::UInt8.ofNat 0::UInt8.ofNat 0::UInt8.ofNat 0::UInt8.ofNat 0::UInt8.ofNat 0::UInt8.ofNat 0::UInt8.ofNat 0::UInt8.ofNat 0::UInt8.ofNat 0::UInt8.ofNat 0::UInt8.ofNat 0::UInt8.ofNat 0::UInt8.ofNat 0::UInt8.ofNat 0::UInt8.ofNat 0::UInt8.ofNat 0::UInt8.ofNat 0::UInt8.ofNat 0::UInt8.ofNat 0::UInt8.ofNat 0::UInt8.ofNat 0::UInt8.ofNat 0::UInt8.ofNat 0::UInt8.ofNat 0::UInt8.ofNat 0::UInt8.ofNat 0::UInt8.ofNat 0::UInt8.ofNat 0::UInt8.ofNat 0::UInt8.ofNat 0::UInt8.ofNat 0::UInt8.ofNat 0::UInt8.ofNat 0::UInt8.ofNat 0::UInt8.ofNat 0::UInt8.ofNat 0::UInt8.ofNat 0::UInt8.ofNat 0::UInt8.ofNat 0::UInt8.ofNat 0::UInt8.ofNat 0::UInt8.ofNat 0::UInt8.ofNat 0::UInt8.ofNat 0::UInt8.ofNat 0::UInt8.ofNat 0::UInt8.ofNat 0::UInt8.ofNat 0::UInt8.ofNat 0::UInt8.ofNat 0::UInt8.ofNat 0::UInt8.ofNat 0::UInt8.ofNat 0::UInt8.ofNat 0::UInt8.ofNat 0::UInt8.ofNat 0::UInt8.ofNat 0::UInt8.ofNat 0::UInt8.ofNat 0::UInt8.ofNat 0::UInt8.ofNat 0::UInt8.ofNat 0::UInt8.ofNat 0::UInt8.ofNat 0::UInt8.ofNat 0::UInt8.ofNat 0::UInt8.ofNat 0::UInt8.ofNat 0::UInt8.ofNat 0::UInt8.ofNat 0::UInt8.ofNat 0::UInt8.ofNat 0::UInt8.ofNat 0::UInt8.ofNat 0::UInt8.ofNat 0::UInt8.ofNat 0::UInt8.ofNat 0::UInt8.ofNat 0::UInt8.ofNat 0::UInt8.ofNat 0::UInt8.ofNat 0::UInt8.ofNat 0::UInt8.ofNat 0::UInt8.ofNat 0::UInt8.ofNat 0::UInt8.ofNat 0::UInt8.ofNat 0::UInt8.ofNat 0::UInt8.ofNat 0::UInt8.ofNat 0::UInt8.ofNat 0::UInt8.ofNat 0::UInt8.ofNat 0::UInt8.ofNat 0::UInt8.ofNat 0::UInt8.ofNat 0::UInt8.ofNat 0::UInt8.ofNat 0::UInt8.ofNat 0::UInt8.ofNat 0::UInt8.ofNat 0::UInt8.ofNat 0::UInt8.ofNat 0::UInt8.ofNat 0::UInt8.ofNat 0::UInt8.ofNat 0::UInt8.ofNat 0::UInt8.ofNat 0::UInt8.ofNat 0::UInt8.ofNat 0::UInt8.ofNat 0::UInt8.ofNat 0::UInt8.ofNat 0::UInt8.ofNat 0::UInt8.ofNat 0::UInt8.ofNat 0::UInt8.ofNat 0::UInt8.ofNat 0::UInt8.ofNat 0::UInt8.ofNat 0::UInt8.ofNat 0::UInt8.ofNat 0::UInt8.ofNat 0::UInt8.ofNat 0::UInt8.ofNat 0::UInt8.ofNat 0::UInt8.ofNat 0::UInt8.ofNat 0::UInt8.ofNat 0::UInt8.ofNat 0::UInt8.ofNat 0::UInt8.ofNat 0::UInt8.ofNat 0::UInt8.ofNat 0::UInt8.ofNat 0::UInt8.ofNat 0::UInt8.ofNat 0::UInt8.ofNat 0::UInt8.ofNat 0::UInt8.ofNat 0::UInt8.ofNat 0::UInt8.ofNat 0::UInt8.ofNat 0::UInt8.ofNat 0::UInt8.ofNat 0::UInt8.ofNat 0::UInt8.ofNat 0::UInt8.ofNat 0::UInt8.ofNat 0::UInt8.ofNat 0::UInt8.ofNat 0::UInt8.ofNat 0::UInt8.ofNat 0::UInt8.ofNat 0::UInt8.ofNat 0::UInt8.ofNat 0::UInt8.ofNat 0::UInt8.ofNat 0::UInt8.ofNat 0::UInt8.ofNat 0::UInt8.ofNat 0::UInt8.ofNat 0::UInt8.ofNat 0::UInt8.ofNat 0::UInt8.ofNat 0::UInt8.ofNat 0::UInt8.ofNat 0::UInt8.ofNat 0::UInt8.ofNat 0::UInt8.ofNat 0::UInt8.ofNat 0::UInt8.ofNat 0::UInt8.ofNat 0::UInt8.ofNat 0::UInt8.ofNat 0::UInt8.ofNat 0::UInt8.ofNat 0::UInt8.ofNat 0::qan)
def qnu:DFn:={ro:=false,args:=.nil,out:={slots:=(.ptr 1000 0 (.dd 2 .nil)),blks:=[(1000,.cells (.sl 0 .nil))],fz:=true},T:=List UInt8,to:=fun(v:(Unit)×((List UInt8×Unit)×Unit)×(Unit))=>v.2.1.1.1,of:=fun x=>((),((x,()),()),())}
def q7D:=q31 DOps.ev
def q32 (o:DOps):qnu.In→Option qnu.T:=fun v=>q31 o
def q33:DSpec:=qae qnu Tryz.f22 (q32 DOps.ev)
theorem q5l:DH Tryz.prog 22 q33:=qad (d:=qnu) (Fo:=q32) ([]:DT) [] [] [] (trivial:DTok Tryz.prog []) (by kernel_rfl) ⟨fun o v=>by kernel_rfl⟩ Tryz.func22 Tryz.call22
def qvA (o:DOps)(s:SiteT):Option (Bool) :=
 bif bif bif bif bif bif decide ((s.groups.length:Int) > 40) then true else decide ((s.apart.length:Int) > 40) then true else decide ((s.between.length:Int) > 40) then true else decide ((s.phases.length:Int) > 40) then true else decide ((s.eyes.length:Int) > 60) then true else decide ((s.plans.length:Int) > 40) then some true else o.fix (((),((s,()),()),(0:Int),())) fun r1 (_,((x2,_),_),n3,_)=>bif decide (n3<x2.between.length) then ix o x2.between n3 (dflt 7) fun z9=>bif decide ((z9.length:Int) > 40) then some true else inc o n3 fun n10=>r1 (((),((x2,()),()),n10,())) else o.fix (((),((x2,()),()),(0:Int),())) fun r4 (_,((x5,_),_),n6,_)=>bif decide (n6<x5.plans.length) then ix o x5.plans n6 (dflt 10) fun x7=>bif decide ((x7.splits.length:Int) > 40) then some true else inc o n6 fun n8=>r4 (((),((x5,()),()),n8,())) else some false
def qnv:DFn:={ro:=true,args:=(.agg (.seg 25 .nil) .nil),out:={slots:=(.dd 2 (.bool (.dd 65 .nil)))},T:=Bool,to:=fun(v:(Unit)×(Unit)×(Bool×Unit))=>v.2.2.1,of:=fun x=>((),(),(x,()))}
def q1h:=qvA DOps.ev
def q35 (o:DOps):qnv.In→Option qnv.T:=fun v=>qvA o v.2.2.1.1
def q36:DSpec:=qae qnv Tryz.f23 (q35 DOps.ev)
theorem q5m:DH Tryz.prog 23 q36:=qad (d:=qnv) (Fo:=q35) ([]:DT) [(4,{slots:=(.dead (.ptr 1000 0 (.dead (.int .i64 (.dd 64 .nil))))),blks:=[(1000,.cells (.seg 25 .nil))]}),(9,{slots:=(.dead (.ptr 1000 0 (.dd 2 (.int .i64 (.dd 63 .nil))))),blks:=[(1000,.cells (.seg 25 .nil))]})] [] [] (trivial:DTok Tryz.prog []) (by kernel_rfl) ⟨fun o v=>by kernel_rfl⟩ Tryz.func23 Tryz.call23
def qvB (o:DOps)(l:List Inp):Option (Int) :=
 o.fix (((),(),l,(l.length:Int),(0:Int),())) fun r1 (_,_,z2,n3,n4,_)=>bif decide (n4<z2.length) then ix o z2 n4 (dflt 24) fun x5=>ix o z2 n4 (dflt 24) fun x6=>o.letv (wi ((x5.bytesf.length:Int)+(x6.backf.length:Int))) fun n7=>o.letv (wi (n3+n7)) fun n8=>inc o n4 fun n9=>r1 (((),(),z2,n8,n9,())) else some n3
def qnw:DFn:={ro:=true,args:=(.sl 24 .nil),out:={slots:=(.dd 2 (.int .i64 (.dd 26 .nil)))},T:=Int,to:=fun(v:(Unit)×(Unit)×(Int×Unit))=>v.2.2.1,of:=fun x=>((),(),(x,()))}
def q1i:=qvB DOps.ev
def q37 (o:DOps):qnw.In→Option qnw.T:=fun v=>qvB o v.2.2.1
def q38:DSpec:=qae qnw Tryz.f24 (q37 DOps.ev)
theorem q5n:DH Tryz.prog 24 q38:=qad (d:=qnw) (Fo:=q37) ([]:DT) [(3,{slots:=(.sl 24 (.dd 2 (.int .i64 (.int .i64 (.dd 24 .nil)))))})] [] [] (trivial:DTok Tryz.prog []) (by kernel_rfl) ⟨fun o v=>by kernel_rfl⟩ Tryz.func24 Tryz.call24
def qvC (o:DOps)(a:List (List UInt8))(b:List (List UInt8))(many:Int):Option (Bool) :=
 bif bif decide ((a.length:Int)<many) then true else decide ((b.length:Int)<many) then some false else o.fix (((),(),a,b,many,(0:Int),())) fun r1 (_,_,z2,z3,n4,n5,_)=>bif decide (n5<n4) then ix o z2 n5 (dflt 6) fun z6=>ix o z3 n5 (dflt 6) fun z7=>bif !z6.toArray.toList==z7.toArray.toList then some false else inc o n5 fun n8=>r1 (((),(),z2,z3,n4,n8,())) else some true
def qnx:DFn:={ro:=true,args:=(.sl 6 (.sl 6 (.int .i64 .nil))),out:={slots:=(.dd 6 (.bool (.dd 27 .nil)))},T:=Bool,to:=fun(v:(Unit)×(Unit)×(Bool×Unit))=>v.2.2.1,of:=fun x=>((),(),(x,()))}
def q1j:=qvC DOps.ev
def q39 (o:DOps):qnx.In→Option qnx.T:=fun v=>qvC o v.2.2.1 v.2.2.2.1 v.2.2.2.2.1
def q3A:DSpec:=qae qnx Tryz.f14 (q39 DOps.ev)
theorem q5o:DH Tryz.prog 14 q3A:=qad (d:=qnx) (Fo:=q39) ([]:DT) [(4,{slots:=(.sl 6 (.sl 6 (.int .i64 (.dd 4 (.int .i64 (.dd 26 .nil))))))})] [] [] (trivial:DTok Tryz.prog []) (by kernel_rfl) ⟨fun o v=>by kernel_rfl⟩ Tryz.func14 Tryz.call14
def q7E (o:DOps)(lit:List UInt8)(shown:List UInt8):Option (Bool) :=
 some (bif decide ((shown.length:Int) > 0) then !lit.toArray.toList==shown.toArray.toList else false)
def qjx:DFn:={ro:=true,args:=(.sl 0 (.sl 0 .nil)),out:={slots:=(.dd 4 (.bool (.dd 10 .nil)))},T:=Bool,to:=fun(v:(Unit)×(Unit)×(Bool×Unit))=>v.2.2.1,of:=fun x=>((),(),(x,()))}
def qxZ (o:DOps):qjx.In→Option qjx.T:=fun v=>q7E o v.2.2.1 v.2.2.2.1
def qya:DSpec:=qae qjx Tryz.f19 (qxZ DOps.ev)
theorem q1k:DH Tryz.prog 19 qya:=qad (d:=qjx) (Fo:=qxZ) ([]:DT) [] [] [] (trivial:DTok Tryz.prog []) (by kernel_rfl) ⟨fun o v=>by kernel_rfl⟩ Tryz.func19 Tryz.call19
def tl0:DT:=(210,mnzD)::(51,q7r)::(171,q3n)::(172,tzD .u32 qay)::(173,qfk)::(59,qoJ)::(74,q3p)::(73,qoL)::(211,q7u)::(105,q3r)::(170,qxv)::(50,qoO)::(106,qsm)::(167,q7x)::(199,qso)::(203,qmh)::(63,qmj)::(123,qsq)::(99,qx1)::(168,q70)::(104,qoS)::(206,qss)::(179,qcj)::(120,qx4)::(147,qx6)::(45,qsu)::(125,qoX)::(156,qsw)::(161,q3u)::(200,qjl)::(197,qxA)::(201,qxC)::(202,qml)::(191,tzD .u64 qaz)::(184,qpe)::(129,qo7)::(209,qpg)::(130,qxF)::(186,q74)::(187,qfm)::(188,qsy)::(141,qmn)::(189,qxI)::(137,qs0)::(190,qpl)::(85,qs2)::(142,qs4)::(143,qs6)::(153,q3w)::(101,fixOfS)::(166,q3z)::(177,qs8)::(62,qmp)::(75,qju)::(76,qhD)::(96,qmr)::(98,qpq)::(119,qps)::(212,qsA)::(213,qsD)::(134,qsF)::(148,qsH)::(198,qpw)::(152,qpy)::(195,qsJ)::(155,qp1)::(46,qxV)::(16,qxY)::(15,qp4)::(26,qmu)::(21,q7B)::(22,q33)::(23,q36)::(24,q38)::(14,q3A)::(19,qya)::([]:DT)
theorem qaq:DTok Tryz.prog tl0:=.cons mnz_dh <| .cons q7s <| .cons q5e <| .cons tz32_dh <| .cons qje <| .cons qvg <| .cons q5f <| .cons qvj <| .cons q7v <| .cons q5g <| .cons q0R <| .cons qvm <| .cons qxw <| .cons q7y <| .cons qxy <| .cons qrv <| .cons qrw <| .cons qxz <| .cons q0T <| .cons q71 <| .cons qvq <| .cons qx2 <| .cons qex <| .cons q0V <| .cons q0W <| .cons qx7 <| .cons qvs <| .cons qx8 <| .cons q5h <| .cons qpa <| .cons q0X <| .cons q0Y <| .cons qrx <| .cons tz64_dh <| .cons qvu <| .cons q0J <| .cons qvv <| .cons q1b <| .cons q75 <| .cons qjp <| .cons qxG <| .cons qry <| .cons q1d <| .cons qxJ <| .cons qvy <| .cons qxK <| .cons qxL <| .cons qxM <| .cons q5i <| .cons fixOf_ok <| .cons q5j <| .cons qxN <| .cons qr0 <| .cons qpo <| .cons qmW <| .cons qr2 <| .cons qv2 <| .cons qv3 <| .cons qxO <| .cons qxP <| .cons qxQ <| .cons qxR <| .cons qv4 <| .cons qv5 <| .cons qxS <| .cons qv6 <| .cons q1f <| .cons q1g <| .cons qv8 <| .cons qr3 <| .cons q7C <| .cons q5l <| .cons q5m <| .cons q5n <| .cons q5o <| .cons q1k <| (trivial:DTok Tryz.prog [])
def qle (o:DOps)(s:SiteT):Option (Bool) :=
 o.bind (qcx (s.groups.length:Int) (1:Int) (16:Int)) fun b1=>bif bif bif !b1 then true else (s.apart.length:Int) != (s.groups.length:Int) then true else (s.between.length:Int) != (s.groups.length:Int) then some false else o.bind (qcx (s.phases.length:Int) (1:Int) (8:Int)) fun b2=>bif bif bif !b2 then true else decide ((s.eyes.length:Int) > 24) then true else decide ((s.plans.length:Int) > 8) then some false else o.fix (((),((s,()),()),(s.groups.length:Int),s.between,(s.between.length:Int),(0:Int),())) fun r3 (_,((x4,_),_),n5,z6,n7,n8,_)=>bif decide (n8<n7) then ix o z6 n8 (dflt 7) fun z9=>req (!!(z9.length:Int) != n5||decide (0≤n8)&&decide (n8<x4.apart.length)) <| o.letv (x4.apart.getD n8.toNat (0:UInt32)) fun x10=>req (!!(z9.length:Int) != n5||decide (0≤n5)) <| o.letv ((↑x10.toNat:Int).fdiv ((2:Int) ^ min n5.toNat IntKind.u32.bits)) fun n11=>bif bif (z9.length:Int) != n5 then true else n11 != 0 then some false else inc o n8 fun n12=>r3 (((),((x4,()),()),n5,z6,n7,n12,())) else some true
def qgC:DFn:={ro:=true,args:=(.agg (.seg 25 .nil) .nil),out:={slots:=(.dd 2 (.bool (.dd 65 .nil)))},T:=Bool,to:=fun(v:(Unit)×(Unit)×(Bool×Unit))=>v.2.2.1,of:=fun x=>((),(),(x,()))}
def qp6:=qle DOps.ev
def qsK (o:DOps):qgC.In→Option qgC.T:=fun v=>qle o v.2.2.1.1
def qsL:DSpec:=qae qgC Tryz.f52 (qsK DOps.ev)
theorem qyb:DH Tryz.prog 52 qsL:=qad (d:=qgC) (Fo:=qsK) tl0 [(5,{slots:=(.dead (.ptr 1000 0 (.dead (.int .i64 (.dd 42 (.sl 7 (.int .i64 (.int .i64 (.dd 19 .nil))))))))),blks:=[(1000,.cells (.seg 25 .nil))]})] [] [] qaq (by kernel_rfl) ⟨fun o v=>by kernel_rfl⟩ Tryz.func52 Tryz.call52
def qlf (o:DOps)(l:List Int):Option (Bool) :=
 o.fix (((),(),l,(l.length:Int),(0:Int),())) fun r1 (_,_,z2,n3,n4,_)=>bif decide (n4<n3) then ix o z2 n4 (0:Int) fun n5=>o.bind (qcx n5 (1:Int) (1048576:Int)) fun b6=>bif !b6 then some false else inc o n4 fun n7=>r1 (((),(),z2,n3,n7,())) else some true
def qgD:DFn:={ro:=true,args:=(.sl 1 .nil),out:={slots:=(.dd 2 (.bool (.dd 12 .nil)))},T:=Bool,to:=fun(v:(Unit)×(Unit)×(Bool×Unit))=>v.2.2.1,of:=fun x=>((),(),(x,()))}
def qcT:=qlf DOps.ev
def qsM (o:DOps):qgD.In→Option qgD.T:=fun v=>qlf o v.2.2.1
def qsN:DSpec:=qae qgD Tryz.f109 (qsM DOps.ev)
theorem qyc:DH Tryz.prog 109 qsN:=qad (d:=qgD) (Fo:=qsM) tl0 [(2,{slots:=(.dd 5 (.sl 1 (.int .i64 (.int .i64 (.dd 7 .nil)))))})] [] [] qaq (by kernel_rfl) ⟨fun o v=>by kernel_rfl⟩ Tryz.func109 Tryz.call109
def qvD (o:DOps)(s:Int)(i:Int):Option (Bool) :=
 o.bind (qoH i) fun n1=>o.letv (bits BinOp.and IntKind.u32 s n1) fun n2=>some (n2 != 0)
def qny:DFn:={ro:=true,args:=(.int .u32 (.int .i64 .nil)),out:={slots:=(.dd 4 (.bool (.dd 5 .nil)))},T:=Bool,to:=fun(v:(Unit)×(Unit)×(Bool×Unit))=>v.2.2.1,of:=fun x=>((),(),(x,()))}
def qlg:=qvD DOps.ev
def q3B (o:DOps):qny.In→Option qny.T:=fun v=>qvD o v.2.2.1 v.2.2.2.1
def q3C:DSpec:=qae qny Tryz.f110 (q3B DOps.ev)
theorem q5p:DH Tryz.prog 110 q3C:=qad (d:=qny) (Fo:=q3B) tl0 [] [] [] qaq (by kernel_rfl) ⟨fun o v=>by kernel_rfl⟩ Tryz.func110 Tryz.call110
def qlh (o:DOps)(s:Int):Option (Int) :=
 bif s==0 then some ((-1:Int)) else o.bind (qay s) fun n1=>some n1
def qgE:DFn:={ro:=true,args:=(.int .u32 .nil),out:={slots:=(.dd 2 (.int .i64 (.dd 4 .nil)))},T:=Int,to:=fun(v:(Unit)×(Unit)×(Int×Unit))=>v.2.2.1,of:=fun x=>((),(),(x,()))}
def qjy:=qlh DOps.ev
def qsO (o:DOps):qgE.In→Option qgE.T:=fun v=>qlh o v.2.2.1
def qsP:DSpec:=qae qgE Tryz.f111 (qsO DOps.ev)
theorem qyd:DH Tryz.prog 111 qsP:=qad (d:=qgE) (Fo:=qsO) tl0 [] [] [] qaq (by kernel_rfl) ⟨fun o v=>by kernel_rfl⟩ Tryz.func111 Tryz.call111
def qfL (o:DOps)(s:Int)(i:Int):Option (Int) :=
 o.bind (qoH i) fun n1=>o.letv (bits BinOp.andNot IntKind.u32 s n1) fun n2=>some n2
def qdv:DFn:={ro:=true,args:=(.int .u32 (.int .i64 .nil)),out:={slots:=(.dd 4 (.int .u32 (.dd 4 .nil)))},T:=Int,to:=fun(v:(Unit)×(Unit)×(Int×Unit))=>v.2.2.1,of:=fun x=>((),(),(x,()))}
def qcU:=qfL DOps.ev
def qmv (o:DOps):qdv.In→Option qdv.T:=fun v=>qfL o v.2.2.1 v.2.2.2.1
def qmw:DSpec:=qae qdv Tryz.f112 (qmv DOps.ev)
theorem qr4:DH Tryz.prog 112 qmw:=qad (d:=qdv) (Fo:=qmv) tl0 [] [] [] qaq (by kernel_rfl) ⟨fun o v=>by kernel_rfl⟩ Tryz.func112 Tryz.call112
def qli (o:DOps)(s:Int):Option (Int) :=
 o.bind (qcR s) fun n1=>some n1
def qgF:DFn:={ro:=true,args:=(.int .u32 .nil),out:={slots:=(.dd 2 (.int .i64 (.dd 2 .nil)))},T:=Int,to:=fun(v:(Unit)×(Unit)×(Int×Unit))=>v.2.2.1,of:=fun x=>((),(),(x,()))}
def qp7:=qli DOps.ev
def qsQ (o:DOps):qgF.In→Option qgF.T:=fun v=>qli o v.2.2.1
def qsR:DSpec:=qae qgF Tryz.f113 (qsQ DOps.ev)
theorem qye:DH Tryz.prog 113 qsR:=qad (d:=qgF) (Fo:=qsQ) tl0 [] [] [] qaq (by kernel_rfl) ⟨fun o v=>by kernel_rfl⟩ Tryz.func113 Tryz.call113
def qlj (o:DOps)(d:List UInt8):Option (Int×Int) :=
 o.bind (qdQ d) fun n1=>bif n1 != 0 then some (((0:Int),n1)) else o.letv (wi ((d.length:Int).tdiv (64:Int))) fun n2=>some ((n2,(0:Int)))
def qgG:DFn:={ro:=true,args:=(.agg (.sl 0 .nil) .nil),out:={slots:=(.dd 2 (.int .i64 (.int .i64 (.dd 10 .nil))))},T:=Int×Int,to:=fun(v:(Unit)×(Unit)×(Int×Int×Unit))=>(v.2.2.1,v.2.2.2.1),of:=fun x=>((),(),(x.1,(x.2,())))}
def qdV:=qlj DOps.ev
def qsS (o:DOps):qgG.In→Option qgG.T:=fun v=>qlj o v.2.2.1.1
def qsT:DSpec:=qae qgG Tryz.f58 (qsS DOps.ev)
theorem qyf:DH Tryz.prog 58 qsT:=qad (d:=qgG) (Fo:=qsS) tl0 [] [] [] qaq (by kernel_rfl) ⟨fun o v=>by kernel_rfl⟩ Tryz.func58 Tryz.call58
def qfM (o:DOps)(b:List UInt8):Option (Int) :=
 o.bind (qxt b) fun(n1,n2)=>some n1
def qdw:DFn:={ro:=true,args:=(.sl 0 .nil),out:={slots:=(.dd 2 (.int .u64 (.dd 8 .nil)))},T:=Int,to:=fun(v:(Unit)×(Unit)×(Int×Unit))=>v.2.2.1,of:=fun x=>((),(),(x,()))}
def qcV:=qfM DOps.ev
def qmx (o:DOps):qdw.In→Option qdw.T:=fun v=>qfM o v.2.2.1
def qmy:DSpec:=qae qdw Tryz.f182 (qmx DOps.ev)
theorem qr5:DH Tryz.prog 182 qmy:=qad (d:=qdw) (Fo:=qmx) tl0 [] [] [] qaq (by kernel_rfl) ⟨fun o v=>by kernel_rfl⟩ Tryz.func182 Tryz.call182
def qp8 (o:DOps)(l:List Int):Option (List UInt8) :=
 o.fix (((qan,()),(),l,(l.length:Int),(0:Int),())) fun r1 ((z2,_),_,z3,n4,n5,_)=>bif decide (n5<n4) then ix o z3 n5 (0:Int) fun n6=>o.letv (wu n6) fun n7=>o.bind (qdm n7) fun z8=>rm (z2.length+z8.length) 1 <| o.letv (List.take z2.length z2++List.take z8.length z8) fun z9=>inc o n5 fun n10=>rs (z2.length+z8.length) z9.length <| r1 (((z9,()),(),z3,n4,n10,())) else rs z2.length z2.length <| some z2
def qjz:DFn:={ro:=true,own:=[true],lend:=fun j=>Nat.beq j 0,args:=(.nilsl (.sl 1 .nil)),out:={slots:=(.dd 4 (.row 0 900 (.dd 15 .nil))),blks:=[(900,.row 0)],boxes:=[(4,900,0)]},T:=List (UInt8),to:=fun(v:(List (UInt8)×Unit)×(Unit)×(Unit))=>v.1.1,of:=fun x=>((x,()),(),())}
def qvE:=qp8 DOps.ev
def qyg (o:DOps):qjz.In→Option qjz.T:=fun v=>qp8 o v.2.2.1
def qyh:DSpec:=qae qjz Tryz.f169 (qyg DOps.ev)
theorem q1l:DH Tryz.prog 169 qyh:=qad (d:=qjz) (Fo:=qyg) tl0 [(2,{slots:=(.row 0 900 (.dd 6 (.sl 1 (.int .i64 (.int .i64 (.dd 10 .nil)))))),blks:=[(900,.row 0)],boxes:=[(0,900,0)]})] [] [] qaq (by kernel_rfl) ⟨fun o v=>by kernel_rfl⟩ Tryz.func169 Tryz.call169
def qik (o:DOps)(r:List UInt8)(r2:Bool)(r3:SiteT)(most:Int):Option (Int×List UInt8×Bool×SiteT) :=
 o.bind (qkG r) fun(n1,n2,n3)=>o.letv (wu most) fun n4=>bif bif n3 != 0 then true else decide (n1 > n4) then some (((0:Int),r,true,r3)) else req (decide (0≤n2)) <| req (decide (n2≤r.length)) <| o.letv (wi n1) fun n5=>some ((n5,List.drop n2.toNat r,r2,r3))
def qeA:DFn:={ro:=false,own:=[false],args:=(.ptr 0 0 (.int .i64 .nil)),B:=[.cells (.sl 0 (.bool (.seg 25 .nil)))],out:={slots:=(.dd 4 (.int .i64 (.dd 34 .nil))),blks:=[(0,.cells (.sl 0 (.bool (.seg 25 .nil))))],fz:=true},T:=Int×List UInt8×Bool×SiteT,to:=fun(v:(Unit)×((List UInt8×Bool×SiteT×Unit)×Unit)×(Int×Unit))=>(v.2.2.1,v.2.1.1.1,v.2.1.1.2.1,v.2.1.1.2.2.1),of:=fun x=>((),((x.2.1,(x.2.2.1,(x.2.2.2,()))),()),(x.1,()))}
def qbe:=qik DOps.ev
def qp9 (o:DOps):qeA.In→Option qeA.T:=fun v=>qik o v.2.1.1.1 v.2.1.1.2.1 v.2.1.1.2.2.1 v.2.2.1
def qpA:DSpec:=qae qeA Tryz.f218 (qp9 DOps.ev)
theorem qvF:DH Tryz.prog 218 qpA:=qad (d:=qeA) (Fo:=qp9) tl0 [] [] [] qaq (by kernel_rfl) ⟨fun o v=>by kernel_rfl⟩ Tryz.func218 Tryz.call218
def qvG (o:DOps)(r:List UInt8)(r2:Bool)(most:Int):Option (Int×List UInt8×Bool) :=
 o.bind (qkG r) fun(n1,n2,n3)=>o.letv (wu most) fun n4=>bif bif n3 != 0 then true else decide (n1 > n4) then some (((0:Int),r,true)) else req (decide (0≤n2)) <| req (decide (n2≤r.length)) <| o.letv (wi n1) fun n5=>some ((n5,List.drop n2.toNat r,r2))
def qnz:DFn:={ro:=false,own:=[false],args:=(.ptr 0 0 (.int .i64 .nil)),B:=[.cells (.sl 0 (.bool .nil))],out:={slots:=(.dd 4 (.int .i64 (.dd 34 .nil))),blks:=[(0,.cells (.sl 0 (.bool .nil)))],fz:=true},T:=Int×List UInt8×Bool,to:=fun(v:(Unit)×((List UInt8×Bool×Unit)×Unit)×(Int×Unit))=>(v.2.2.1,v.2.1.1.1,v.2.1.1.2.1),of:=fun x=>((),((x.2.1,(x.2.2,())),()),(x.1,()))}
def qil:=qvG DOps.ev
def q3D (o:DOps):qnz.In→Option qnz.T:=fun v=>qvG o v.2.1.1.1 v.2.1.1.2.1 v.2.2.1
def q3E:DSpec:=qae qnz Tryz.f48 (q3D DOps.ev)
theorem q5q:DH Tryz.prog 48 q3E:=qad (d:=qnz) (Fo:=q3D) tl0 [] [] [] qaq (by kernel_rfl) ⟨fun o v=>by kernel_rfl⟩ Tryz.func48 Tryz.call48
def qpB (o:DOps)(l:List Int):Option (List UInt8) :=
 o.fix (((qan,()),(),l,(l.length:Int),(0:Int),())) fun r1 ((z2,_),_,z3,n4,n5,_)=>bif decide (n5<n4) then ix o z3 n5 (0:Int) fun n6=>o.letv (wu n6) fun n7=>o.bind (qdm n7) fun z8=>rm (z2.length+z8.length) 1 <| o.letv (List.take z2.length z2++List.take z8.length z8) fun z9=>inc o n5 fun n10=>rs (z2.length+z8.length) z9.length <| r1 (((z9,()),(),z3,n4,n10,())) else rs z2.length z2.length <| some z2
def qj0:DFn:={ro:=true,own:=[true],lend:=fun j=>Nat.beq j 0,args:=(.nilsl (.sl 1 .nil)),out:={slots:=(.dd 4 (.row 0 900 (.dd 15 .nil))),blks:=[(900,.row 0)],boxes:=[(4,900,0)]},T:=List (UInt8),to:=fun(v:(List (UInt8)×Unit)×(Unit)×(Unit))=>v.1.1,of:=fun x=>((x,()),(),())}
def qeB:=qpB DOps.ev
def qyi (o:DOps):qj0.In→Option qj0.T:=fun v=>qpB o v.2.2.1
def qyj:DSpec:=qae qj0 Tryz.f108 (qyi DOps.ev)
theorem q1m:DH Tryz.prog 108 qyj:=qad (d:=qj0) (Fo:=qyi) tl0 [(2,{slots:=(.row 0 900 (.dd 6 (.sl 1 (.int .i64 (.int .i64 (.dd 10 .nil)))))),blks:=[(900,.row 0)],boxes:=[(0,900,0)]})] [] [] qaq (by kernel_rfl) ⟨fun o v=>by kernel_rfl⟩ Tryz.func108 Tryz.call108
def qeC (o:DOps)(s:SiteT):Option (Int) :=
 o.fix (((),((s,()),()),(0:Int),(s.groups.length:Int),(0:Int),())) fun r1 (_,((x2,_),_),n3,n4,n5,_)=>bif decide (n5<n4) then o.fix (((),((x2,()),()),n3,n5,n4,n5,(x2.groups.length:Int),(0:Int),())) fun r6 (_,((x7,_),_),n8,n9,n10,n11,n12,n13,_)=>bif decide (n13<n12) then o.bind (qfF x7 n9 n13) fun b15=>bif b15 then o.bind (qeu x7 n9 n13) fun n17=>o.letv (max n8 n17) fun n18=>inc o n13 fun n19=>r6 (((),((x7,()),()),n18,n9,n10,n11,n12,n19,())) else inc o n13 fun n16=>r6 (((),((x7,()),()),n8,n9,n10,n11,n12,n16,())) else inc o n11 fun n14=>r1 (((),((x7,()),()),n8,n10,n14,())) else some n3
def qc2:DFn:={ro:=true,args:=(.agg (.seg 25 .nil) .nil),out:={slots:=(.dd 2 (.int .i64 (.dd 28 .nil)))},T:=Int,to:=fun(v:(Unit)×(Unit)×(Int×Unit))=>v.2.2.1,of:=fun x=>((),(),(x,()))}
def qck:=qeC DOps.ev
def qj1 (o:DOps):qc2.In→Option qc2.T:=fun v=>qeC o v.2.2.1.1
def qj2:DSpec:=qae qc2 Tryz.f165 (qj1 DOps.ev)
theorem qpC:DH Tryz.prog 165 qj2:=qad (d:=qc2) (Fo:=qj1) tl0 [(3,{slots:=(.dead (.ptr 1000 0 (.dead (.int .i64 (.dd 4 (.int .i64 (.int .i64 (.dd 21 .nil)))))))),blks:=[(1000,.cells (.seg 25 .nil))]}),(6,{slots:=(.dead (.ptr 1000 0 (.dead (.int .i64 (.int .i64 (.dd 3 (.int .i64 (.int .i64 (.dd 4 (.int .i64 (.int .i64 (.dd 15 .nil)))))))))))),blks:=[(1000,.cells (.seg 25 .nil))]})] [] [] qaq (by kernel_rfl) ⟨fun o v=>by kernel_rfl⟩ Tryz.func165 Tryz.call165
def qb2 (o:DOps)(m:Msg):Option (List UInt8×Int) :=
 bif decide ((m.body.length:Int) > 512) then some ((qan,(3:Int))) else o.letv (wu (↑m.seq.toNat:Int)) fun n1=>o.bind (qxx n1 (4:Int)) fun(z2,n3)=>o.join (fun J4=>sm o [req (decide ((1+z2.length)*1≤140737488355328)) <| o.letv (UInt8.ofNat (↑m.kind.toNat:Int).toNat::List.append._f [] PUnit.unit (List.take z2.length z2)) fun z5=>req (decide ((1+z2.length+m.body.length)*1≤140737488355328)) <| o.letv (List.take (1+z2.length) z5++m.body) fun z6=>rs (1+z2.length+m.body.length) z6.length <| J4 (((z6,()),(),()))] (.n (.n (.l 0) (.n (.l 0) (.l 0))) (.n (.n (.l 0) (.l 0)) (.l 0)))) fun((z17,_),_,_)=>o.bind (q3s (List.take z17.length z17)) fun n18=>o.letv (wu n18) fun n19=>o.bind (qxx n19 (4:Int)) fun(z20,n21)=>rm (z17.length+z20.length) 1 <| o.letv (List.take z17.length z17++List.take z20.length z20) fun z22=>rs (z17.length+z20.length) z22.length <| some ((z22,(0:Int)))
def qdx:DFn:={ro:=true,args:=(.agg (.seg 8 .nil) .nil),out:={slots:=(.dd 2 (.row 0 902 (.int .i64 (.dd 34 .nil)))),blks:=[(902,.row 0)],boxes:=[(2,902,0)]},T:=List (UInt8)×Int,to:=fun(v:(List (UInt8)×Unit)×(Unit)×(Int×Unit))=>(v.1.1,v.2.2.1),of:=fun x=>((x.1,()),(),(x.2,()))}
def qim:=qb2 DOps.ev
def qmz (o:DOps):qdx.In→Option qdx.T:=fun v=>qb2 o v.2.2.1.1
def qm0:DSpec:=qae qdx Tryz.f103 (qmz DOps.ev)
theorem qr6 (m:Msg):qb2 DOps.std m=qb2 DOps.ev m:=by unfold qb2;simp (disch:=first|rfl|(simp only[qaM];exact req5 _ _ _ _ _ _)|(simp only[mks];first|exact qaL _ _ _|exact qcD _ _ _ _|exact qcE _ _ _ _|exact qcF _ _ _ _|exact qcG _ _ _ _|exact qcH _ _ _ _)) only[sm_l,sm_n,qdC,qdD,qhL,qa0,qbr];kernel_rfl
theorem qr7:DH Tryz.prog 103 qm0:=qad (d:=qdx) (Fo:=qmz) tl0 [] [(4,{slots:=(.dd 6 (.row 0 906 (.dd 31 .nil))),blks:=[(906,.row 0)],boxes:=[(6,906,0)]})] [] qaq (funext fun v=>qr6 _) ⟨fun o v=>by kernel_rfl⟩ Tryz.func103 Tryz.call103
def qlk (o:DOps)(b:List UInt8):Option (Int×Int×Int×List UInt8) :=
 o.letv (wi ((b.length:Int)-4)) fun n1=>bif bif decide (n1<5) then true else decide (n1 > 517) then some (((8:Int),(0:Int),(0:Int),qan)) else req (decide ((5:Int)≤b.length)) <| o.bind (qxt (List.drop (Int.toNat (1:Int)) (List.take (Int.toNat (5:Int)) b))) fun(n2,n3)=>req (decide (0≤n1)) <| req (decide (n1≤b.length)) <| o.bind (qxt (List.drop n1.toNat b)) fun(n4,n5)=>req (decide (0≤n1)) <| req (decide (n1≤b.length)) <| o.bind (q3s (List.take n1.toNat b)) fun n6=>o.letv (wu n6) fun n7=>bif n7 != n4 then some (((8:Int),(0:Int),(0:Int),qan)) else req (decide ((0:Int)<b.length)) <| o.letv (b.getD (Int.toNat (0:Int)) (0:UInt8)) fun x8=>o.letv (wq n2) fun n9=>req (decide (5≤n1)) <| req (decide (n1≤b.length)) <| o.bind (qc8 (List.drop (Int.toNat (5:Int)) (List.take n1.toNat b))) fun z10=>rs z10.length z10.length <| some (((0:Int),(↑x8.toNat:Int),n9,z10))
def qgH:DFn:={ro:=true,args:=(.sl 0 .nil),out:={slots:=(.dd 2 (.ptr 1000 0 (.int .i64 (.dd 46 .nil)))),blks:=[(1000,.cells (.int .u8 (.int .u32 (.row 0 950 .nil)))),(950,.row 0)],boxes:=[(1000202,950,0)]},T:=Int×Int×Int×List (UInt8),to:=fun(v:(List (UInt8)×Unit)×((Int×Int×Unit)×Unit)×(Int×Unit))=>(v.2.2.1,v.2.1.1.1,v.2.1.1.2.1,v.1.1),of:=fun x=>((x.2.2.2,()),((x.2.1,(x.2.2.1,())),()),(x.1,()))}
def qpD:=qlk DOps.ev
def qsU (o:DOps):qgH.In→Option qgH.T:=fun v=>qlk o v.2.2.1
def qsV:DSpec:=qae qgH Tryz.f207 (qsU DOps.ev)
theorem qyk:DH Tryz.prog 207 qsV:=qad (d:=qgH) (Fo:=qsU) tl0 [] [] [] qaq (by kernel_rfl) ⟨fun o v=>by kernel_rfl⟩ Tryz.func207 Tryz.call207
end
end Go.Proofs.YtcdppfnjidlknaaGreatDoor
