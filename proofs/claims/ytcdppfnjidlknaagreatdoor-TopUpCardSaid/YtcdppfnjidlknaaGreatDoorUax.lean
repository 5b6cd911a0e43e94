import Derived.Test.YtcdppfnjidlknaaGreatDoorUaw
set_option linter.unusedVariables false
set_option linter.unusedSimpArgs false
namespace Go.Proofs.YtcdppfnjidlknaaGreatDoor
open Go Go.Eng Go.Proofs
set_option maxRecDepth 8000
noncomputable section
def qzM (o:DOps)(x:Int)(from0:Int)(to:Int):Option (Bool) :=
 some (bif decide (x≥from0) then decide (x≤to) else false)
def qug:DFn:={ro:=true,args:=(.int .i64 (.int .i64 (.int .i64 .nil))),out:={slots:=(.dd 6 (.bool (.dd 8 .nil)))},T:=Bool,to:=fun(v:(Unit)×(Unit)×(Bool×Unit))=>v.2.2.1,of:=fun x=>((),(),(x,()))}
def qcg:=qzM DOps.ev
def q6h (o:DOps):qug.In→Option qug.T:=fun v=>qzM o v.2.2.1 v.2.2.2.1 v.2.2.2.2.1
def q6i:DSpec:=qae qug Tryz.f51 (q6h DOps.ev)
theorem q6j:DH Tryz.prog 51 q6i:=qad (d:=qug) (Fo:=q6h) ([]:DT) [] [] [] (trivial:DTok Tryz.prog []) (by kernel_rfl) ⟨fun o v=>by kernel_rfl⟩ Tryz.func51 Tryz.call51
def quh (o:DOps)(i:Int):Option (Int) :=
 bif bif decide (i<0) then true else decide (i > 31) then some ((0:Int)) else req (decide (0≤i)) <| o.letv (wq ((1:Int)*2 ^ min i.toNat IntKind.u32.bits)) fun n1=>some n1
def qm8:DFn:={ro:=true,args:=(.int .i64 .nil),out:={slots:=(.dd 2 (.int .u32 (.dd 8 .nil)))},T:=Int,to:=fun(v:(Unit)×(Unit)×(Int×Unit))=>v.2.2.1,of:=fun x=>((),(),(x,()))}
def qnW:=quh DOps.ev
def q2i (o:DOps):qm8.In→Option qm8.T:=fun v=>quh o v.2.2.1
def q2j:DSpec:=qae qm8 Tryz.f171 (q2i DOps.ev)
theorem q3T:DH Tryz.prog 171 q2j:=qad (d:=qm8) (Fo:=q2i) ([]:DT) [] [] [] (trivial:DTok Tryz.prog []) (by kernel_rfl) ⟨fun o v=>by kernel_rfl⟩ Tryz.func171 Tryz.call171
def tab0:ByteArray:={data:=(([(0:UInt8),(1:UInt8),(1:UInt8),(2:UInt8),(1:UInt8),(2:UInt8),(2:UInt8),(3:UInt8),(1:UInt8),(2:UInt8),(2:UInt8),(3:UInt8),(2:UInt8),(3:UInt8),(3:UInt8),(4:UInt8),(1:UInt8),(2:UInt8),(2:UInt8),(3:UInt8),(2:UInt8),(3:UInt8),(3:UInt8),(4:UInt8),(2:UInt8),(3:UInt8),(3:UInt8),(4:UInt8),(3:UInt8),(4:UInt8),(4:UInt8),(5:UInt8),(1:UInt8),(2:UInt8),(2:UInt8),(3:UInt8),(2:UInt8),(3:UInt8),(3:UInt8),(4:UInt8),(2:UInt8),(3:UInt8),(3:UInt8),(4:UInt8),(3:UInt8),(4:UInt8),(4:UInt8),(5:UInt8),(2:UInt8),(3:UInt8),(3:UInt8),(4:UInt8),(3:UInt8),(4:UInt8),(4:UInt8),(5:UInt8),(3:UInt8),(4:UInt8),(4:UInt8),(5:UInt8),(4:UInt8),(5:UInt8),(5:UInt8),(6:UInt8)].append [(1:UInt8),(2:UInt8),(2:UInt8),(3:UInt8),(2:UInt8),(3:UInt8),(3:UInt8),(4:UInt8),(2:UInt8),(3:UInt8),(3:UInt8),(4:UInt8),(3:UInt8),(4:UInt8),(4:UInt8),(5:UInt8),(2:UInt8),(3:UInt8),(3:UInt8),(4:UInt8),(3:UInt8),(4:UInt8),(4:UInt8),(5:UInt8),(3:UInt8),(4:UInt8),(4:UInt8),(5:UInt8),(4:UInt8),(5:UInt8),(5:UInt8),(6:UInt8),(2:UInt8),(3:UInt8),(3:UInt8),(4:UInt8),(3:UInt8),(4:UInt8),(4:UInt8),(5:UInt8),(3:UInt8),(4:UInt8),(4:UInt8),(5:UInt8),(4:UInt8),(5:UInt8),(5:UInt8),(6:UInt8),(3:UInt8),(4:UInt8),(4:UInt8),(5:UInt8),(4:UInt8),(5:UInt8),(5:UInt8),(6:UInt8),(4:UInt8),(5:UInt8),(5:UInt8),(6:UInt8),(5:UInt8),(6:UInt8),(6:UInt8),(7:UInt8)]).append ([(1:UInt8),(2:UInt8),(2:UInt8),(3:UInt8),(2:UInt8),(3:UInt8),(3:UInt8),(4:UInt8),(2:UInt8),(3:UInt8),(3:UInt8),(4:UInt8),(3:UInt8),(4:UInt8),(4:UInt8),(5:UInt8),(2:UInt8),(3:UInt8),(3:UInt8),(4:UInt8),(3:UInt8),(4:UInt8),(4:UInt8),(5:UInt8),(3:UInt8),(4:UInt8),(4:UInt8),(5:UInt8),(4:UInt8),(5:UInt8),(5:UInt8),(6:UInt8),(2:UInt8),(3:UInt8),(3:UInt8),(4:UInt8),(3:UInt8),(4:UInt8),(4:UInt8),(5:UInt8),(3:UInt8),(4:UInt8),(4:UInt8),(5:UInt8),(4:UInt8),(5:UInt8),(5:UInt8),(6:UInt8),(3:UInt8),(4:UInt8),(4:UInt8),(5:UInt8),(4:UInt8),(5:UInt8),(5:UInt8),(6:UInt8),(4:UInt8),(5:UInt8),(5:UInt8),(6:UInt8),(5:UInt8),(6:UInt8),(6:UInt8),(7:UInt8)].append [(2:UInt8),(3:UInt8),(3:UInt8),(4:UInt8),(3:UInt8),(4:UInt8),(4:UInt8),(5:UInt8),(3:UInt8),(4:UInt8),(4:UInt8),(5:UInt8),(4:UInt8),(5:UInt8),(5:UInt8),(6:UInt8),(3:UInt8),(4:UInt8),(4:UInt8),(5:UInt8),(4:UInt8),(5:UInt8),(5:UInt8),(6:UInt8),(4:UInt8),(5:UInt8),(5:UInt8),(6:UInt8),(5:UInt8),(6:UInt8),(6:UInt8),(7:UInt8),(3:UInt8),(4:UInt8),(4:UInt8),(5:UInt8),(4:UInt8),(5:UInt8),(5:UInt8),(6:UInt8),(4:UInt8),(5:UInt8),(5:UInt8),(6:UInt8),(5:UInt8),(6:UInt8),(6:UInt8),(7:UInt8),(4:UInt8),(5:UInt8),(5:UInt8),(6:UInt8),(5:UInt8),(6:UInt8),(6:UInt8),(7:UInt8),(5:UInt8),(6:UInt8),(6:UInt8),(7:UInt8),(6:UInt8),(7:UInt8),(7:UInt8),(8:UInt8)])).toArray:ByteArray}
def qcc (o:DOps)(x:Int):Option (Int) :=
 o.letv (x.fdiv ((2:Int) ^ min (Int.toNat (24:Int)) IntKind.u32.bits)) fun n1=>req (decide (0≤n1)) <| req (decide (n1<(↑tab0.size:Int))) <| o.letv (qvP tab0 n1) fun n2=>o.letv (x.fdiv ((2:Int) ^ min (Int.toNat (16:Int)) IntKind.u32.bits)) fun n3=>o.letv (bits BinOp.and IntKind.u32 n3 (255:Int)) fun n4=>req (decide (0≤n4)) <| req (decide (n4<(↑tab0.size:Int))) <| o.letv (qvP tab0 n4) fun n5=>o.letv (wb (n2+n5)) fun n6=>o.letv (x.fdiv ((2:Int) ^ min (Int.toNat (8:Int)) IntKind.u32.bits)) fun n7=>o.letv (bits BinOp.and IntKind.u32 n7 (255:Int)) fun n8=>req (decide (0≤n8)) <| req (decide (n8<(↑tab0.size:Int))) <| o.letv (qvP tab0 n8) fun n9=>o.letv (wb (n6+n9)) fun n10=>o.letv (bits BinOp.and IntKind.u32 x (255:Int)) fun n11=>req (decide (0≤n11)) <| req (decide (n11<(↑tab0.size:Int))) <| o.letv (qvP tab0 n11) fun n12=>o.letv (wb (n10+n12)) fun n13=>o.letv (wi n13) fun n14=>some n14
def qbd:DFn:={ro:=true,args:=(.int .u32 .nil),out:={slots:=(.dd 2 (.int .i64 (.dd 18 .nil)))},T:=Int,to:=fun(v:(Unit)×(Unit)×(Int×Unit))=>v.2.2.1,of:=fun x=>((),(),(x,()))}
def qcA:=qcc DOps.ev
def qeJ (o:DOps):qbd.In→Option qbd.T:=fun v=>qcc o v.2.2.1
def qeK:DSpec:=qae qbd Tryz.f173 (qeJ DOps.ev)
theorem qi7:DH Tryz.prog 173 qeK:=qad (d:=qbd) (Fo:=qeJ) ([]:DT) [] [] [] (trivial:DTok Tryz.prog []) (by kernel_rfl) ⟨fun o v=>by kernel_rfl⟩ Tryz.func173 Tryz.call173
def qh2 (o:DOps)(d:List UInt8):Option (Int) :=
 req ((!!bif decide ((d.length:Int)<64) then true else decide ((d.length:Int) > 4096))||decide ((64:Int)≠(0:Int))) <| o.letv ((d.length:Int).tmod (64:Int)) fun n1=>bif bif bif decide ((d.length:Int)<64) then true else decide ((d.length:Int) > 4096) then true else n1 != 0 then some ((180:Int)) else some ((0:Int))
def qdV:DFn:={ro:=true,args:=(.agg (.sl 0 .nil) .nil),out:={slots:=(.dd 2 (.int .i64 (.dd 15 .nil)))},T:=Int,to:=fun(v:(Unit)×(Unit)×(Int×Unit))=>v.2.2.1,of:=fun x=>((),(),(x,()))}
def qd3:=qh2 DOps.ev
def qnX (o:DOps):qdV.In→Option qdV.T:=fun v=>qh2 o v.2.2.1.1
def qnY:DSpec:=qae qdV Tryz.f59 (qnX DOps.ev)
theorem qui:DH Tryz.prog 59 qnY:=qad (d:=qdV) (Fo:=qnX) ([]:DT) [] [] [] (trivial:DTok Tryz.prog []) (by kernel_rfl) ⟨fun o v=>by kernel_rfl⟩ Tryz.func59 Tryz.call59
def quj (o:DOps)(d:List UInt8)(n:Int):Option (List UInt8) :=
 o.letv (wi (n*64)) fun n1=>req (decide (0≤n1)) <| req (decide (n1≤d.length)) <| req (decide ((64:Int)≤(↑(List.drop n1.toNat d).length:Int))) <| some (List.take (Int.toNat (64:Int)) (List.drop n1.toNat d))
def qm9:DFn:={ro:=false,args:=(.agg (.sl 0 .nil) (.int .i64 .nil)),out:={slots:=(.dd 4 (.sl 0 (.dd 6 .nil))),fz:=true},T:=List UInt8,to:=fun(v:(Unit)×(Unit)×(List UInt8×Unit))=>v.2.2.1,of:=fun x=>((),(),(x,()))}
def qzN:=quj DOps.ev
def q2k (o:DOps):qm9.In→Option qm9.T:=fun v=>quj o v.2.2.1.1 v.2.2.2.1
def q2l:DSpec:=qae qm9 Tryz.f74 (q2k DOps.ev)
theorem q3U:DH Tryz.prog 74 q2l:=qad (d:=qm9) (Fo:=q2k) ([]:DT) [] [] [] (trivial:DTok Tryz.prog []) (by kernel_rfl) ⟨fun o v=>by kernel_rfl⟩ Tryz.func74 Tryz.call74
def qbF (o:DOps)(b:List UInt8):Option (List UInt8) :=
 bif b.isEmpty then sm o [some qal,req (decide ((0+b.length)*1≤140737488355328)) <| o.letv ([]++b) fun z2=>rs (0+b.length) z2.length <| some z2] (.n (.l 0) (.l 1)) else req (decide ((0+b.length)*1≤140737488355328)) <| o.letv ([]++b) fun z1=>rs (0+b.length) z1.length <| some z1
def qdW:DFn:={ro:=true,args:=(.sl 0 .nil),out:={slots:=(.dd 2 (.row 0 902 (.dd 5 .nil))),blks:=[(902,.row 0)],boxes:=[(2,902,0)]},T:=List (UInt8),to:=fun(v:(List (UInt8)×Unit)×(Unit)×(Unit))=>v.1.1,of:=fun x=>((x,()),(),())}
def qcq:=qbF DOps.ev
def qnZ (o:DOps):qdW.In→Option qdW.T:=fun v=>qbF o v.2.2.1
def qoa:DSpec:=qae qdW Tryz.f73 (qnZ DOps.ev)
theorem quk (b:List UInt8):qbF DOps.std b=qbF DOps.ev b:=by cases b with|nil=>(unfold qbF;simp only[List.isEmpty_nil,cond_true,sm_l,sm_n,qdp,qdq];exact qaw (by kernel_rfl))|cons x l=>kernel_rfl
theorem qul:DH Tryz.prog 73 qoa:=qad (d:=qdW) (Fo:=qnZ) ([]:DT) [] [] [] (trivial:DTok Tryz.prog []) (funext fun v=>quk _) ⟨fun o v=>by kernel_rfl⟩ Tryz.func73 Tryz.call73
def qzO (o:DOps)(b:List UInt8):Option (Int×Int) :=
 bif bif decide ((b.length:Int)<1) then true else decide ((b.length:Int) > 8) then some (((0:Int),(8:Int))) else o.fix (((),(),(0:Int),b,(b.length:Int),(0:Int),())) fun r1 (_,_,n2,z3,n4,n5,_)=>bif decide (n5<n4) then ix o z3 n5 (0:UInt8) fun x6=>o.letv (wu (↑x6.toNat:Int)) fun n7=>o.letv (wi ((8:Int)*n5)) fun n8=>req (decide (0≤n8)) <| o.letv (wu (n7*2 ^ min n8.toNat IntKind.u64.bits)) fun n9=>o.letv (bits BinOp.or IntKind.u64 n2 n9) fun n10=>inc o n5 fun n11=>r1 (((),(),n10,z3,n4,n11,())) else some ((n2,(0:Int)))
def qum:DFn:={ro:=true,args:=(.sl 0 .nil),out:={slots:=(.dd 2 (.int .u64 (.int .i64 (.dd 26 .nil))))},T:=Int×Int,to:=fun(v:(Unit)×(Unit)×(Int×Int×Unit))=>(v.2.2.1,v.2.2.2.1),of:=fun x=>((),(),(x.1,(x.2,())))}
def qwt:=qzO DOps.ev
def q6k (o:DOps):qum.In→Option qum.T:=fun v=>qzO o v.2.2.1
def q6l:DSpec:=qae qum Tryz.f211 (q6k DOps.ev)
theorem q6m:DH Tryz.prog 211 q6l:=qad (d:=qum) (Fo:=q6k) ([]:DT) [(4,{slots:=(.dd 2 (.int .u64 (.dd 11 (.sl 0 (.int .i64 (.int .i64 (.dd 13 .nil)))))))})] [] [] (trivial:DTok Tryz.prog []) (by kernel_rfl) ⟨fun o v=>by kernel_rfl⟩ Tryz.func211 Tryz.call211
def qun (o:DOps)(b:List UInt8):Option (Int×Int×Int) :=
 o.fix (((),(),(0:Int),b,(b.length:Int),(0:Int),())) fun r1 (_,_,n2,z3,n4,n5,_)=>bif decide (n5<n4) then ix o z3 n5 (0:UInt8) fun x6=>bif bif n5==9 then decide ((↑x6.toNat:Int) > 1) else false then some (((0:Int),(0:Int),(8:Int))) else o.letv (bits BinOp.and IntKind.u8 (↑x6.toNat:Int) (127:Int)) fun n7=>o.letv (wu n7) fun n8=>o.letv (wi ((7:Int)*n5)) fun n9=>req (decide (0≤n9)) <| o.letv (wu (n8*2 ^ min n9.toNat IntKind.u64.bits)) fun n10=>o.letv (bits BinOp.or IntKind.u64 n2 n10) fun n11=>bif decide ((↑x6.toNat:Int)<128) then bif bif (↑x6.toNat:Int)==0 then decide (n5 > 0) else false then some (((0:Int),(0:Int),(8:Int))) else inc o n5 fun n13=>some ((n11,n13,(0:Int))) else inc o n5 fun n12=>r1 (((),(),n11,z3,n4,n12,())) else some (((0:Int),(0:Int),(8:Int)))
def qmA:DFn:={ro:=true,args:=(.sl 0 .nil),out:={slots:=(.dd 2 (.int .u64 (.int .i64 (.int .i64 (.dd 36 .nil)))))},T:=Int×Int×Int,to:=fun(v:(Unit)×(Unit)×(Int×Int×Int×Unit))=>(v.2.2.1,v.2.2.2.1,v.2.2.2.2.1),of:=fun x=>((),(),(x.1,(x.2.1,(x.2.2,()))))}
def qkh:=qun DOps.ev
def q2m (o:DOps):qmA.In→Option qmA.T:=fun v=>qun o v.2.2.1
def q2n:DSpec:=qae qmA Tryz.f105 (q2m DOps.ev)
theorem q3V:DH Tryz.prog 105 q2n:=qad (d:=qmA) (Fo:=q2m) ([]:DT) [(3,{slots:=(.dd 5 (.int .u64 (.dd 2 (.sl 0 (.int .i64 (.int .i64 (.dd 30 .nil)))))))})] [] [] (trivial:DTok Tryz.prog []) (by kernel_rfl) ⟨fun o v=>by kernel_rfl⟩ Tryz.func105 Tryz.call105
def qob (o:DOps)(n:Int):Option (List UInt8) :=
 o.fix (((qal,()),(),n,())) fun r1 ((z2,_),_,n3,_)=>bif decide (n3 > 127) then o.letv (wb n3) fun n6=>o.letv (bits BinOp.or IntKind.u8 n6 (128:Int)) fun n7=>rm (z2.length+1) 1 <| o.letv (List.take z2.length z2++[UInt8.ofNat n7.toNat]) fun z8=>o.letv (n3.fdiv ((2:Int) ^ min (Int.toNat (7:Int)) IntKind.u64.bits)) fun n9=>rs (z2.length+1) z8.length <| r1 (((z8,()),(),n9,())) else o.letv (wb n3) fun n4=>rm (z2.length+1) 1 <| o.letv (List.take z2.length z2++[UInt8.ofNat n4.toNat]) fun z5=>rs (z2.length+1) z5.length <| some z5
def qi8:DFn:={ro:=true,args:=(.int .u64 .nil),out:={slots:=(.dd 2 (.row 0 902 (.dd 16 .nil))),blks:=[(902,.row 0)],boxes:=[(2,902,0)]},T:=List (UInt8),to:=fun(v:(List (UInt8)×Unit)×(Unit)×(Unit))=>v.1.1,of:=fun x=>((x,()),(),())}
def qcQ:=qob DOps.ev
def qwu (o:DOps):qi8.In→Option qi8.T:=fun v=>qob o v.2.2.1
def qwv:DSpec:=qae qi8 Tryz.f170 (qwu DOps.ev)
theorem qzP:DH Tryz.prog 170 qwv:=qad (d:=qi8) (Fo:=qwu) ([]:DT) [(2,{slots:=(.int .u64 (.dd 2 (.row 0 903 (.dd 15 .nil)))),blks:=[(903,.row 0)],boxes:=[(3,903,0)]})] [] [] (trivial:DTok Tryz.prog []) (by kernel_rfl) ⟨fun o v=>by kernel_rfl⟩ Tryz.func170 Tryz.call170
def qh3 (o:DOps)(a:List UInt8)(b:List UInt8):Option (Bool) :=
 some (a.toArray.toList==b.toArray.toList)
def qdX:DFn:={ro:=true,args:=(.sl 0 (.sl 0 .nil)),out:={slots:=(.dd 4 (.bool (.dd 5 .nil)))},T:=Bool,to:=fun(v:(Unit)×(Unit)×(Bool×Unit))=>v.2.2.1,of:=fun x=>((),(),(x,()))}
def qd4:=qh3 DOps.ev
def qoc (o:DOps):qdX.In→Option qdX.T:=fun v=>qh3 o v.2.2.1 v.2.2.2.1
def qod:DSpec:=qae qdX Tryz.f50 (qoc DOps.ev)
theorem qup:DH Tryz.prog 50 qod:=qad (d:=qdX) (Fo:=qoc) ([]:DT) [] [] [] (trivial:DTok Tryz.prog []) (by kernel_rfl) ⟨fun o v=>by kernel_rfl⟩ Tryz.func50 Tryz.call50
def qki (o:DOps)(n:Int):Option (Bool) :=
 some (bif decide (n≥0) then decide (n≤65535) else false)
def qfP:DFn:={ro:=true,args:=(.int .i64 .nil),out:={slots:=(.dd 2 (.bool (.dd 6 .nil)))},T:=Bool,to:=fun(v:(Unit)×(Unit)×(Bool×Unit))=>v.2.2.1,of:=fun x=>((),(),(x,()))}
def qi9:=qki DOps.ev
def qru (o:DOps):qfP.In→Option qfP.T:=fun v=>qki o v.2.2.1
def qrv:DSpec:=qae qfP Tryz.f106 (qru DOps.ev)
theorem qww:DH Tryz.prog 106 qrv:=qad (d:=qfP) (Fo:=qru) ([]:DT) [] [] [] (trivial:DTok Tryz.prog []) (by kernel_rfl) ⟨fun o v=>by kernel_rfl⟩ Tryz.func106 Tryz.call106
def qzQ (o:DOps)(n:Int)(width:Int):Option (List UInt8×Int) :=
 o.letv (wi ((8:Int)*width)) fun n1=>req (!decide (width<8)||((!!bif decide (width<1) then true else decide (width > 8))||decide (0≤n1))) <| o.letv (n.fdiv ((2:Int) ^ min n1.toNat IntKind.u64.bits)) fun n2=>bif bif bif decide (width<1) then true else decide (width > 8) then true else bif decide (width<8) then n2 != 0 else false then some ((qal,(2:Int))) else req (decide (0≤width∧width≤width∧width*(↑1:Int)≤140737488355328)) <| rs width.toNat (List.replicate width.toNat (UInt8.ofNat 0)).length <| o.fix (((List.replicate width.toNat (UInt8.ofNat 0),()),(),n,(↑width.toNat:Int),(0:Int),())) fun r3 ((z4,_),_,n5,n6,n7,_)=>bif decide (n7<n6) then o.letv (wi ((8:Int)*n7)) fun n8=>req (decide (0≤n8)) <| o.letv (n5.fdiv ((2:Int) ^ min n8.toNat IntKind.u64.bits)) fun n9=>o.letv (wb n9) fun n10=>rb n7 z4.length <| req (decide (0+n7.toNat<z4.length)) <| o.letv (z4.set (0+n7.toNat) (UInt8.ofNat n10.toNat)) fun z11=>inc o n7 fun n12=>rs z4.length z11.length <| r3 (((z11,()),(),n5,n6,n12,())) else rs z4.length z4.length <| some ((z4,(0:Int)))
def quq:DFn:={ro:=true,args:=(.int .u64 (.int .i64 .nil)),out:={slots:=(.dd 4 (.row 0 904 (.int .i64 (.dd 36 .nil)))),blks:=[(904,.row 0)],boxes:=[(4,904,0)]},T:=List (UInt8)×Int,to:=fun(v:(List (UInt8)×Unit)×(Unit)×(Int×Unit))=>(v.1.1,v.2.2.1),of:=fun x=>((x.1,()),(),(x.2,()))}
def qwx:=qzQ DOps.ev
def q6n (o:DOps):quq.In→Option quq.T:=fun v=>qzQ o v.2.2.1 v.2.2.2.1
def q6o:DSpec:=qae quq Tryz.f167 (q6n DOps.ev)
theorem q6p:DH Tryz.prog 167 q6o:=qad (d:=quq) (Fo:=q6n) ([]:DT) [(5,{slots:=(.int .u64 (.dd 5 (.row 0 4001 (.dd 21 (.int .i64 (.int .i64 (.dd 12 .nil))))))),blks:=[(4001,.row 0)]})] [] [] (trivial:DTok Tryz.prog []) (by kernel_rfl) ⟨fun o v=>by kernel_rfl⟩ Tryz.func167 Tryz.call167
def qkj (o:DOps)(s:SiteT)(a:Int)(b:Int):Option (Bool) :=
 ix o s.apart a (0:UInt32) fun x1=>req (decide (0≤b)) <| o.letv ((↑x1.toNat:Int).fdiv ((2:Int) ^ min b.toNat IntKind.u32.bits)) fun n2=>o.letv (bits BinOp.and IntKind.u32 n2 (1:Int)) fun n3=>some (n3==1)
def qfQ:DFn:={ro:=true,args:=(.agg (.seg 25 .nil) (.int .i64 (.int .i64 .nil))),out:={slots:=(.dd 6 (.bool (.dd 9 .nil)))},T:=Bool,to:=fun(v:(Unit)×(Unit)×(Bool×Unit))=>v.2.2.1,of:=fun x=>((),(),(x,()))}
def qfo:=qkj DOps.ev
def qrw (o:DOps):qfQ.In→Option qfQ.T:=fun v=>qkj o v.2.2.1.1 v.2.2.2.1 v.2.2.2.2.1
def qrx:DSpec:=qae qfQ Tryz.f199 (qrw DOps.ev)
theorem qwy:DH Tryz.prog 199 qrx:=qad (d:=qfQ) (Fo:=qrw) ([]:DT) [] [] [] (trivial:DTok Tryz.prog []) (by kernel_rfl) ⟨fun o v=>by kernel_rfl⟩ Tryz.func199 Tryz.call199
def qfp (o:DOps)(s:SiteT)(a:Int)(b:Int):Option (Int) :=
 ix o s.between a (dflt 7) fun z1=>ix o z1 b (0:Int) fun n2=>some n2
def qcR:DFn:={ro:=true,args:=(.agg (.seg 25 .nil) (.int .i64 (.int .i64 .nil))),out:={slots:=(.dd 6 (.int .i64 (.dd 8 .nil)))},T:=Int,to:=fun(v:(Unit)×(Unit)×(Int×Unit))=>v.2.2.1,of:=fun x=>((),(),(x,()))}
def qdY:=qfp DOps.ev
def ql5 (o:DOps):qcR.In→Option qcR.T:=fun v=>qfp o v.2.2.1.1 v.2.2.2.1 v.2.2.2.2.1
def ql6:DSpec:=qae qcR Tryz.f203 (ql5 DOps.ev)
theorem qq8:DH Tryz.prog 203 ql6:=qad (d:=qcR) (Fo:=ql5) ([]:DT) [] [] [] (trivial:DTok Tryz.prog []) (by kernel_rfl) ⟨fun o v=>by kernel_rfl⟩ Tryz.func203 Tryz.call203
def qfq (o:DOps)(kept:Int):Option (Int×Int×Bool) :=
 bif bif kept==2 then true else kept==3 then some (((2:Int),(0:Int),false)) else some (((1:Int),(0:Int),false))
def qcS:DFn:={ro:=true,args:=(.int .u8 .nil),out:={slots:=(.dd 2 (.ptr 1000 0 (.dd 10 .nil))),blks:=[(1000,.cells (.int .u8 (.int .i64 (.bool .nil))))]},T:=Int×Int×Bool,to:=fun(v:(Unit)×((Int×Int×Bool×Unit)×Unit)×(Unit))=>(v.2.1.1.1,v.2.1.1.2.1,v.2.1.1.2.2.1),of:=fun x=>((),((x.1,(x.2.1,(x.2.2,()))),()),())}
def qdZ:=qfq DOps.ev
def ql7 (o:DOps):qcS.In→Option qcS.T:=fun v=>qfq o v.2.2.1
def ql8:DSpec:=qae qcS Tryz.f63 (ql7 DOps.ev)
theorem qq9:DH Tryz.prog 63 ql8:=qad (d:=qcS) (Fo:=ql7) ([]:DT) [] [] [] (trivial:DTok Tryz.prog []) (by kernel_rfl) ⟨fun o v=>by kernel_rfl⟩ Tryz.func63 Tryz.call63
def qkk (o:DOps)(l:Bool)(l2:Int)(l3:Int):Option (Int) :=
 bif bif bif decide (l3<0) then true else decide (l3 > 1048576) then true else bif !l then l2 != 0 else false then some ((8:Int)) else some ((0:Int))
def qfR:DFn:={ro:=true,args:=(.agg (.bool (.int .u32 (.int .i64 .nil))) .nil),out:={slots:=(.dd 2 (.int .i64 (.dd 18 .nil)))},T:=Int,to:=fun(v:(Unit)×(Unit)×(Int×Unit))=>v.2.2.1,of:=fun x=>((),(),(x,()))}
def qoe:=qkk DOps.ev
def qry (o:DOps):qfR.In→Option qfR.T:=fun v=>qkk o v.2.2.1.1 v.2.2.1.2.1 v.2.2.1.2.2.1
def qrz:DSpec:=qae qfR Tryz.f123 (qry DOps.ev)
theorem qwz:DH Tryz.prog 123 qrz:=qad (d:=qfR) (Fo:=qry) ([]:DT) [] [] [] (trivial:DTok Tryz.prog []) (by kernel_rfl) ⟨fun o v=>by kernel_rfl⟩ Tryz.func123 Tryz.call123
def qof (o:DOps)(last:Int):Option (Int×Int) :=
 bif last==4294967295 then some (((0:Int),(2:Int))) else o.letv (wq (last+1)) fun n1=>some ((n1,(0:Int)))
def qiA:DFn:={ro:=true,args:=(.int .u32 .nil),out:={slots:=(.dd 2 (.int .u32 (.int .i64 (.dd 4 .nil))))},T:=Int×Int,to:=fun(v:(Unit)×(Unit)×(Int×Int×Unit))=>(v.2.2.1,v.2.2.2.1),of:=fun x=>((),(),(x.1,(x.2,())))}
def qur:=qof DOps.ev
def qw0 (o:DOps):qiA.In→Option qiA.T:=fun v=>qof o v.2.2.1
def qw1:DSpec:=qae qiA Tryz.f99 (qw0 DOps.ev)
theorem qzR:DH Tryz.prog 99 qw1:=qad (d:=qiA) (Fo:=qw0) ([]:DT) [] [] [] (trivial:DTok Tryz.prog []) (by kernel_rfl) ⟨fun o v=>by kernel_rfl⟩ Tryz.func99 Tryz.call99
def qzS (o:DOps)(b:List UInt8):Option (Int) :=
 o.fix (((UInt32.ofNat (Int.toNat (0:Int))::UInt32.ofNat (Int.toNat (498536548:Int))::UInt32.ofNat (Int.toNat (997073096:Int))::UInt32.ofNat (Int.toNat (651767980:Int))::UInt32.ofNat (Int.toNat (1994146192:Int))::UInt32.ofNat (Int.toNat (1802195444:Int))::UInt32.ofNat (Int.toNat (1303535960:Int))::UInt32.ofNat (Int.toNat (1342533948:Int))::UInt32.ofNat (Int.toNat (3988292384:Int))::UInt32.ofNat (Int.toNat (4027552580:Int))::UInt32.ofNat (Int.toNat (3604390888:Int))::UInt32.ofNat (Int.toNat (3412177804:Int))::UInt32.ofNat (Int.toNat (2607071920:Int))::UInt32.ofNat (Int.toNat (2262029012:Int))::UInt32.ofNat (Int.toNat (2685067896:Int))::UInt32.ofNat (Int.toNat (3183342108:Int))::nilL2,()),(),(4294967295:Int),b,(b.length:Int),(0:Int),())) fun r1 ((z2,_),_,n3,z4,n5,n6,_)=>bif decide (n6<n5) then ix o z4 n6 (0:UInt8) fun x8=>o.letv (n3.fdiv ((2:Int) ^ min (Int.toNat (4:Int)) IntKind.u32.bits)) fun n9=>o.letv (wq (↑x8.toNat:Int)) fun n10=>o.letv (bits BinOp.xor IntKind.u32 n3 n10) fun n11=>o.letv (bits BinOp.and IntKind.u32 n11 (15:Int)) fun n12=>req (decide (0≤n12)) <| req (decide (n12<(↑16:Int))) <| req (decide (n12.toNat<z2.length)) <| o.letv ((↑(z2.getD n12.toNat (0:UInt32)).toNat:Int)) fun n13=>o.letv (bits BinOp.xor IntKind.u32 n9 n13) fun n14=>o.letv (n14.fdiv ((2:Int) ^ min (Int.toNat (4:Int)) IntKind.u32.bits)) fun n15=>o.letv ((↑x8.toNat:Int).fdiv ((2:Int) ^ min (Int.toNat (4:Int)) IntKind.u8.bits)) fun n16=>o.letv (wq n16) fun n17=>o.letv (bits BinOp.xor IntKind.u32 n14 n17) fun n18=>o.letv (bits BinOp.and IntKind.u32 n18 (15:Int)) fun n19=>req (decide (0≤n19)) <| req (decide (n19<(↑16:Int))) <| req (decide (n19.toNat<z2.length)) <| o.letv ((↑(z2.getD n19.toNat (0:UInt32)).toNat:Int)) fun n20=>o.letv (bits BinOp.xor IntKind.u32 n15 n20) fun n21=>inc o n6 fun n22=>r1 (((z2,()),(),n21,z4,n5,n22,())) else o.letv (bits BinOp.xor IntKind.u32 (4294967295:Int) n3) fun n7=>some n7
def qus:DFn:={ro:=true,args:=(.sl 0 .nil),out:={slots:=(.dd 2 (.int .u32 (.dd 35 .nil)))},T:=Int,to:=fun(v:(Unit)×(Unit)×(Int×Unit))=>v.2.2.1,of:=fun x=>((),(),(x,()))}
def q2o:=qzS DOps.ev
def q6q (o:DOps):qus.In→Option qus.T:=fun v=>qzS o v.2.2.1
def q6r:DSpec:=qae qus Tryz.f168 (q6q DOps.ev)
theorem q6s:DH Tryz.prog 168 q6r:=qad (d:=qus) (Fo:=q6q) ([]:DT) [(4,{slots:=(.dd 3 (.ptr 2001 0 (.int .u32 (.dd 3 (.sl 0 (.int .i64 (.int .i64 (.dd 27 .nil)))))))),blks:=[(2001,.row 2)]})] [] [] (trivial:DTok Tryz.prog []) (by kernel_rfl) ⟨fun o v=>by kernel_rfl⟩ Tryz.func168 Tryz.call168
def qh4 (o:DOps)(b:List UInt8):Option (List UInt8) :=
 req (decide ((0:Int)≤0∧(0:Int)≤b.length∧(b.length:Int)*(↑1:Int)≤140737488355328)) <| o.fix (((qal,()),(),b,(b.length:Int),(0:Int),())) fun r1 ((z2,_),_,z3,n4,n5,_)=>bif decide (n5<n4) then ix o z3 n5 (0:UInt8) fun x6=>bif bif (↑x6.toNat:Int)==125 then true else (↑x6.toNat:Int)==126 then rm (z2.length+1) 1 <| o.letv (List.take z2.length z2++[UInt8.ofNat 125]) fun z9=>o.letv (wb ((↑x6.toNat:Int)-32)) fun n10=>req (decide ((z2.length+1+1)*1≤140737488355328)) <| o.letv (List.take (z2.length+1) z9++[UInt8.ofNat n10.toNat]) fun z11=>inc o n5 fun n12=>rs (z2.length+1+1) z11.length <| r1 (((z11,()),(),z3,n4,n12,())) else rm (z2.length+1) 1 <| o.letv (List.take z2.length z2++[UInt8.ofNat (↑x6.toNat:Int).toNat]) fun z7=>inc o n5 fun n8=>rs (z2.length+1) z7.length <| r1 (((z7,()),(),z3,n4,n8,())) else rs z2.length z2.length <| some z2
def qea:DFn:={ro:=true,args:=(.sl 0 .nil),out:={slots:=(.dd 2 (.row 0 902 (.dd 29 .nil))),blks:=[(902,.row 0)],boxes:=[(2,902,0)]},T:=List (UInt8),to:=fun(v:(List (UInt8)×Unit)×(Unit)×(Unit))=>v.1.1,of:=fun x=>((x,()),(),())}
def qkl:=qh4 DOps.ev
def qog (o:DOps):qea.In→Option qea.T:=fun v=>qh4 o v.2.2.1
def qoh:DSpec:=qae qea Tryz.f104 (qog DOps.ev)
theorem qut:DH Tryz.prog 104 qoh:=qad (d:=qea) (Fo:=qog) ([]:DT) [(3,{slots:=(.dd 3 (.row 0 903 (.dd 5 (.sl 0 (.int .i64 (.int .i64 (.dd 20 .nil))))))),blks:=[(903,.row 0)],boxes:=[(3,903,0)]})] [] [] (trivial:DTok Tryz.prog []) (by kernel_rfl) ⟨fun o v=>by kernel_rfl⟩ Tryz.func104 Tryz.call104
def qkm (o:DOps)(b:List UInt8):Option (List UInt8×Int) :=
 req (decide ((0:Int)≤0∧(0:Int)≤b.length∧(b.length:Int)*(↑1:Int)≤140737488355328)) <| o.fix (((qal,()),(),false,b,(b.length:Int),(0:Int),())) fun r1 ((z2,_),_,b3,z4,n5,n6,_)=>bif decide (n6<n5) then ix o z4 n6 (0:UInt8) fun x7=>bif bif bif b3 then (↑x7.toNat:Int) != 93 else false then (↑x7.toNat:Int) != 94 else false then bif bif bif b3 then (↑x7.toNat:Int) != 93 else false then (↑x7.toNat:Int) != 94 else false then some ((qal,(8:Int))) else bif b3 then o.letv (wb ((↑x7.toNat:Int)+32)) fun n17=>rm (z2.length+1) 1 <| o.letv (List.take z2.length z2++[UInt8.ofNat n17.toNat]) fun z18=>inc o n6 fun n19=>rs (z2.length+1) z18.length <| r1 (((z18,()),(),false,z4,n5,n19,())) else bif (↑x7.toNat:Int)==125 then inc o n6 fun n16=>rs z2.length z2.length <| r1 (((z2,()),(),true,z4,n5,n16,())) else rm (z2.length+1) 1 <| o.letv (List.take z2.length z2++[UInt8.ofNat (↑x7.toNat:Int).toNat]) fun z14=>inc o n6 fun n15=>rs (z2.length+1) z14.length <| r1 (((z14,()),(),b3,z4,n5,n15,())) else bif (↑x7.toNat:Int)==126 then some ((qal,(8:Int))) else bif b3 then o.letv (wb ((↑x7.toNat:Int)+32)) fun n11=>rm (z2.length+1) 1 <| o.letv (List.take z2.length z2++[UInt8.ofNat n11.toNat]) fun z12=>inc o n6 fun n13=>rs (z2.length+1) z12.length <| r1 (((z12,()),(),false,z4,n5,n13,())) else bif (↑x7.toNat:Int)==125 then inc o n6 fun n10=>rs z2.length z2.length <| r1 (((z2,()),(),true,z4,n5,n10,())) else rm (z2.length+1) 1 <| o.letv (List.take z2.length z2++[UInt8.ofNat (↑x7.toNat:Int).toNat]) fun z8=>inc o n6 fun n9=>rs (z2.length+1) z8.length <| r1 (((z8,()),(),b3,z4,n5,n9,())) else bif b3 then some ((qal,(8:Int))) else rs z2.length z2.length <| some ((z2,(0:Int)))
def qfS:DFn:={ro:=true,args:=(.sl 0 .nil),out:={slots:=(.dd 2 (.row 0 902 (.int .i64 (.dd 42 .nil)))),blks:=[(902,.row 0)],boxes:=[(2,902,0)]},T:=List (UInt8)×Int,to:=fun(v:(List (UInt8)×Unit)×(Unit)×(Int×Unit))=>(v.1.1,v.2.2.1),of:=fun x=>((x.1,()),(),(x.2,()))}
def qoi:=qkm DOps.ev
def qr0 (o:DOps):qfS.In→Option qfS.T:=fun v=>qkm o v.2.2.1
def qr1:DSpec:=qae qfS Tryz.f206 (qr0 DOps.ev)
theorem qw2:DH Tryz.prog 206 qr1:=qad (d:=qfS) (Fo:=qr0) ([]:DT) [(4,{slots:=(.dd 4 (.row 0 904 (.bool (.dd 5 (.sl 0 (.int .i64 (.int .i64 (.dd 32 .nil)))))))),blks:=[(904,.row 0)],boxes:=[(4,904,0)]})] [] [] (trivial:DTok Tryz.prog []) (by kernel_rfl) ⟨fun o v=>by kernel_rfl⟩ Tryz.func206 Tryz.call206
def qaS (o:DOps)(s:List UInt8)(c:Int):Option (Int) :=
 o.letv (wi ((s.length:Int)-1)) fun n1=>o.fix (((),(),s,c,n1,())) fun r2 (_,_,z3,n4,n5,_)=>bif decide (n5≥0) then ix o z3 n5 (0:UInt8) fun x6=>bif (↑x6.toNat:Int)==n4 then some n5 else o.letv (wi (n5-1)) fun n7=>r2 (((),(),z3,n4,n7,())) else some ((-1:Int))
def qa7:DFn:={ro:=true,args:=(.sl 0 (.int .u8 .nil)),out:={slots:=(.dd 4 (.int .i64 (.dd 15 .nil)))},T:=Int,to:=fun(v:(Unit)×(Unit)×(Int×Unit))=>v.2.2.1,of:=fun x=>((),(),(x,()))}
def qaX:=qaS DOps.ev
def qbV (o:DOps):qa7.In→Option qa7.T:=fun v=>qaS o v.2.2.1 v.2.2.2.1
def qbW:DSpec:=qae qa7 Tryz.f179 (qbV DOps.ev)
theorem qeb:DH Tryz.prog 179 qbW:=qad (d:=qa7) (Fo:=qbV) ([]:DT) [(2,{slots:=(.sl 0 (.int .u8 (.dd 3 (.int .i64 (.dd 14 .nil)))))})] [] [] (trivial:DTok Tryz.prog []) (by kernel_rfl) ⟨fun o v=>by kernel_rfl⟩ Tryz.func179 Tryz.call179
def qoj (o:DOps):Option (Bool×Bool×Bool) :=
 some ((false,false,true))
def qiB:DFn:={ro:=true,args:=.nil,out:={slots:=(.ptr 2001 0 (.dd 2 .nil)),blks:=[(2001,.cells (.nilsl (.bool (.bool (.bool .nil)))))]},T:=Bool×Bool×Bool,to:=fun(v:(Unit)×((Bool×Bool×Bool×Unit)×Unit)×(Unit))=>(v.2.1.1.1,v.2.1.1.2.1,v.2.1.1.2.2.1),of:=fun x=>((),((x.1,(x.2.1,(x.2.2,()))),()),())}
def quu:=qoj DOps.ev
def qw3 (o:DOps):qiB.In→Option qiB.T:=fun v=>qoj o
def qw4:DSpec:=qae qiB Tryz.f120 (qw3 DOps.ev)
theorem qzT:DH Tryz.prog 120 qw4:=qad (d:=qiB) (Fo:=qw3) ([]:DT) [] [] [] (trivial:DTok Tryz.prog []) (by kernel_rfl) ⟨fun o v=>by kernel_rfl⟩ Tryz.func120 Tryz.call120
def qok (o:DOps)(s:SiteT)(phase:Int):Option (Int) :=
 inc o phase fun n1=>req (decide ((s.phases.length:Int)≠(0:Int))) <| o.letv (n1.tmod (s.phases.length:Int)) fun n2=>some n2
def qiC:DFn:={ro:=true,args:=(.agg (.seg 25 .nil) (.int .i64 .nil)),out:={slots:=(.dd 4 (.int .i64 (.dd 6 .nil)))},T:=Int,to:=fun(v:(Unit)×(Unit)×(Int×Unit))=>v.2.2.1,of:=fun x=>((),(),(x,()))}
def qmB:=qok DOps.ev
def qw5 (o:DOps):qiC.In→Option qiC.T:=fun v=>qok o v.2.2.1.1 v.2.2.2.1
def qw6:DSpec:=qae qiC Tryz.f147 (qw5 DOps.ev)
theorem qzU:DH Tryz.prog 147 qw6:=qad (d:=qiC) (Fo:=qw5) ([]:DT) [] [] [] (trivial:DTok Tryz.prog []) (by kernel_rfl) ⟨fun o v=>by kernel_rfl⟩ Tryz.func147 Tryz.call147
def qkn (o:DOps)(n:Int)(most:Int):Option (Int) :=
 inc o n fun n1=>o.letv (min n1 most) fun n2=>some n2
def qfT:DFn:={ro:=true,args:=(.int .i64 (.int .i64 .nil)),out:={slots:=(.dd 4 (.int .i64 (.dd 4 .nil)))},T:=Int,to:=fun(v:(Unit)×(Unit)×(Int×Unit))=>v.2.2.1,of:=fun x=>((),(),(x,()))}
def qax:=qkn DOps.ev
def qr2 (o:DOps):qfT.In→Option qfT.T:=fun v=>qkn o v.2.2.1 v.2.2.2.1
def qr3:DSpec:=qae qfT Tryz.f45 (qr2 DOps.ev)
theorem qw7:DH Tryz.prog 45 qr3:=qad (d:=qfT) (Fo:=qr2) ([]:DT) [] [] [] (trivial:DTok Tryz.prog []) (by kernel_rfl) ⟨fun o v=>by kernel_rfl⟩ Tryz.func45 Tryz.call45
def qh5 (o:DOps)(s1:List Int)(s2:List Int):Option (Bool) :=
 bif (s1.length:Int) != (s2.length:Int) then some false else o.fix (((),(),s1,s2,(s1.length:Int),(0:Int),())) fun r1 (_,_,z2,z3,n4,n5,_)=>bif decide (n5<n4) then ix o z2 n5 (0:Int) fun n6=>ix o z3 n5 (0:Int) fun n7=>bif n6 != n7 then some false else inc o n5 fun n8=>r1 (((),(),z2,z3,n4,n8,())) else some true
def qec:DFn:={ro:=true,args:=(.sl 1 (.sl 1 .nil)),out:={slots:=(.dd 4 (.bool (.dd 21 .nil)))},T:=Bool,to:=fun(v:(Unit)×(Unit)×(Bool×Unit))=>v.2.2.1,of:=fun x=>((),(),(x,()))}
def qko:=qh5 DOps.ev
def qol (o:DOps):qec.In→Option qec.T:=fun v=>qh5 o v.2.2.1 v.2.2.2.1
def qom:DSpec:=qae qec Tryz.f125 (qol DOps.ev)
theorem quv:DH Tryz.prog 125 qom:=qad (d:=qec) (Fo:=qol) ([]:DT) [(4,{slots:=(.sl 1 (.sl 1 (.dd 10 (.int .i64 (.int .i64 (.dd 12 .nil))))))})] [] [] (trivial:DTok Tryz.prog []) (by kernel_rfl) ⟨fun o v=>by kernel_rfl⟩ Tryz.func125 Tryz.call125
def qkp (o:DOps)(now:List SeenT)(now2:Int)(now3:Bool):Option (List UInt8) :=
 mks (now.length:Int) 1 <| rs (now.length:Int).toNat (List.replicate (now.length:Int).toNat (UInt8.ofNat 0)).length <| o.fix (((List.replicate (now.length:Int).toNat (UInt8.ofNat 0),()),(),now,(now.length:Int),(0:Int),())) fun r1 ((z2,_),_,z3,n4,n5,_)=>bif decide (n5<n4) then ix o z3 n5 (dflt 20) fun x6=>rb n5 z2.length <| req (decide (0+n5.toNat<z2.length)) <| o.letv (z2.set (0+n5.toNat) (UInt8.ofNat x6.aspectf.toNat)) fun z7=>inc o n5 fun n8=>rs z2.length z7.length <| r1 (((z7,()),(),z3,n4,n8,())) else rs z2.length z2.length <| some z2
def qfU:DFn:={ro:=true,args:=(.agg (.sl 20 (.int .i64 (.bool .nil))) .nil),out:={slots:=(.dd 2 (.row 0 902 (.dd 22 .nil))),blks:=[(902,.row 0)],boxes:=[(2,902,0)]},T:=List (UInt8),to:=fun(v:(List (UInt8)×Unit)×(Unit)×(Unit))=>v.1.1,of:=fun x=>((x,()),(),())}
def qon:=qkp DOps.ev
def qr4 (o:DOps):qfU.In→Option qfU.T:=fun v=>qkp o v.2.2.1.1 v.2.2.1.2.1 v.2.2.1.2.2.1
def qr5:DSpec:=qae qfU Tryz.f156 (qr4 DOps.ev)
theorem qw8:DH Tryz.prog 156 qr5:=qad (d:=qfU) (Fo:=qr4) ([]:DT) [(3,{slots:=(.dd 3 (.row 0 2003 (.dd 7 (.sl 20 (.int .i64 (.int .i64 (.dd 11 .nil))))))),blks:=[(2003,.row 0)]})] [] [] (trivial:DTok Tryz.prog []) (by kernel_rfl) ⟨fun o v=>by kernel_rfl⟩ Tryz.func156 Tryz.call156
def quw (o:DOps)(a:Int):Option (Bool) :=
 some (a==1)
def qmC:DFn:={ro:=true,args:=(.int .u8 .nil),out:={slots:=(.dd 2 (.bool (.dd 2 .nil)))},T:=Bool,to:=fun(v:(Unit)×(Unit)×(Bool×Unit))=>v.2.2.1,of:=fun x=>((),(),(x,()))}
def qoo:=quw DOps.ev
def q2p (o:DOps):qmC.In→Option qmC.T:=fun v=>quw o v.2.2.1
def q2q:DSpec:=qae qmC Tryz.f161 (q2p DOps.ev)
theorem q3W:DH Tryz.prog 161 q2q:=qad (d:=qmC) (Fo:=q2p) ([]:DT) [] [] [] (trivial:DTok Tryz.prog []) (by kernel_rfl) ⟨fun o v=>by kernel_rfl⟩ Tryz.func161 Tryz.call161
def qed (o:DOps)(s:List UInt8)(v0:Int):Option (Int) :=
 o.fix (((),(),s,v0,(s.length:Int),(0:Int),())) fun r1 (_,_,z2,n3,n4,n5,_)=>bif decide (n5<n4) then ix o z2 n5 (0:UInt8) fun x6=>bif n3==(↑x6.toNat:Int) then some n5 else inc o n5 fun n7=>r1 (((),(),z2,n3,n4,n7,())) else some ((-1:Int))
def qcj:DFn:={ro:=true,args:=(.sl 0 (.int .u8 .nil)),out:={slots:=(.dd 4 (.int .i64 (.dd 14 .nil)))},T:=Int,to:=fun(v:(Unit)×(Unit)×(Int×Unit))=>v.2.2.1,of:=fun x=>((),(),(x,()))}
def qfr:=qed DOps.ev
def qiD (o:DOps):qcj.In→Option qcj.T:=fun v=>qed o v.2.2.1 v.2.2.2.1
def qiE:DSpec:=qae qcj Tryz.f200 (qiD DOps.ev)
theorem qop:DH Tryz.prog 200 qiE:=qad (d:=qcj) (Fo:=qiD) ([]:DT) [(2,{slots:=(.sl 0 (.int .u8 (.dd 5 (.int .i64 (.int .i64 (.dd 10 .nil))))))})] [] [] (trivial:DTok Tryz.prog []) (by kernel_rfl) ⟨fun o v=>by kernel_rfl⟩ Tryz.func200 Tryz.call200
def qoq (o:DOps)(n:Int):Option (Int) :=
 o.letv (max n (0:Int)) fun n1=>o.letv (min n1 (1048576:Int)) fun n2=>some n2
def qiF:DFn:={ro:=true,args:=(.int .i64 .nil),out:={slots:=(.dd 2 (.int .i64 (.dd 3 .nil)))},T:=Int,to:=fun(v:(Unit)×(Unit)×(Int×Unit))=>v.2.2.1,of:=fun x=>((),(),(x,()))}
def qfV:=qoq DOps.ev
def qw9 (o:DOps):qiF.In→Option qiF.T:=fun v=>qoq o v.2.2.1
def qwA:DSpec:=qae qiF Tryz.f197 (qw9 DOps.ev)
theorem qzV:DH Tryz.prog 197 qwA:=qad (d:=qiF) (Fo:=qw9) ([]:DT) [] [] [] (trivial:DTok Tryz.prog []) (by kernel_rfl) ⟨fun o v=>by kernel_rfl⟩ Tryz.func197 Tryz.call197
def qor (o:DOps)(a:Int):Option (Bool) :=
 some (bif decide (a≥1) then decide (a≤3) else false)
def qiG:DFn:={ro:=true,args:=(.int .u8 .nil),out:={slots:=(.dd 2 (.bool (.dd 6 .nil)))},T:=Bool,to:=fun(v:(Unit)×(Unit)×(Bool×Unit))=>v.2.2.1,of:=fun x=>((),(),(x,()))}
def qmD:=qor DOps.ev
def qwB (o:DOps):qiG.In→Option qiG.T:=fun v=>qor o v.2.2.1
def qwC:DSpec:=qae qiG Tryz.f201 (qwB DOps.ev)
theorem qzW:DH Tryz.prog 201 qwC:=qad (d:=qiG) (Fo:=qwB) ([]:DT) [] [] [] (trivial:DTok Tryz.prog []) (by kernel_rfl) ⟨fun o v=>by kernel_rfl⟩ Tryz.func201 Tryz.call201
def qfs (o:DOps)(a:Int)(b:Int):Option (Bool) :=
 some (bif bif a==1&&b==2 then true else a==2&&b==3 then true else a==3&&b==1)
def qcT:DFn:={ro:=true,args:=(.int .u8 (.int .u8 .nil)),out:={slots:=(.dd 4 (.bool (.dd 17 .nil)))},T:=Bool,to:=fun(v:(Unit)×(Unit)×(Bool×Unit))=>v.2.2.1,of:=fun x=>((),(),(x,()))}
def qh6:=qfs DOps.ev
def ql9 (o:DOps):qcT.In→Option qcT.T:=fun v=>qfs o v.2.2.1 v.2.2.2.1
def qlA:DSpec:=qae qcT Tryz.f202 (ql9 DOps.ev)
theorem qqA:DH Tryz.prog 202 qlA:=holdsD0 (d:=qcT) (Fo:=ql9) ([]:DT) [] [] [] (trivial:DTok Tryz.prog []) (by kernel_rfl) ⟨fun o v=>by kernel_rfl⟩ Tryz.func202 Tryz.call202
def qzX (o:DOps)(p:Pls)(many:Int)(hold:Int):Option (Int) :=
 bif bif decide (p.sincef<0) then true else decide (p.sincef > 1048576) then some ((8:Int)) else bif decide (many > 4096) then some ((4:Int)) else bif bif decide (hold<1) then true else decide (hold > 1048576) then some ((2:Int)) else some ((0:Int))
def qee:DFn:={ro:=true,args:=(.agg (.seg 21 .nil) (.int .i64 (.int .i64 .nil))),out:={slots:=(.dd 6 (.int .i64 (.dd 19 .nil)))},T:=Int,to:=fun(v:(Unit)×(Unit)×(Int×Unit))=>v.2.2.1,of:=fun x=>((),(),(x,()))}
def qos (o:DOps):qee.In→Option qee.T:=fun v=>qzX o v.2.2.1.1 v.2.2.2.1 v.2.2.2.2.1
def qot:DSpec:=qae qee Tryz.f184 (qos DOps.ev)
theorem qux:DH Tryz.prog 184 qot:=qad (d:=qee) (Fo:=qos) ([]:DT) [] [] [] (trivial:DTok Tryz.prog []) (by kernel_rfl) ⟨fun o v=>by kernel_rfl⟩ Tryz.func184 Tryz.call184
def qh7 (o:DOps)(s:SiteT):Option (Int×SiteT) :=
 some (((s.phases.length:Int),s))
def qef:DFn:={ro:=false,own:=[false],args:=(.ptr 0 0 .nil),B:=[.cells (.seg 25 .nil)],out:={slots:=(.dead (.int .i64 (.dd 3 .nil))),blks:=[(0,.cells (.seg 25 .nil))],fz:=true},T:=Int×SiteT,to:=fun(v:(Unit)×((SiteT×Unit)×Unit)×(Int×Unit))=>(v.2.2.1,v.2.1.1.1),of:=fun x=>((),((x.2,()),()),(x.1,()))}
def qkq:=qh7 DOps.ev
def qou (o:DOps):qef.In→Option qef.T:=fun v=>qh7 o v.2.1.1.1
def qov:DSpec:=qae qef Tryz.f209 (qou DOps.ev)
theorem quy:DH Tryz.prog 209 qov:=qad (d:=qef) (Fo:=qou) ([]:DT) [] [] [] (trivial:DTok Tryz.prog []) (by kernel_rfl) ⟨fun o v=>by kernel_rfl⟩ Tryz.func209 Tryz.call209
def qwD:DSpec:=inlS (mkDC Tryz.prog tyC ([]:DT) [] [] [] []) true [false] (fun _=>true) Tryz.f74
theorem qzY:DH Tryz.prog 74 qwD:=q5c (enV:=mkDC Tryz.prog tyC ([]:DT) [] [] [] []) rfl (qfI (trivial:DTok Tryz.prog [])) Tryz.func74 Tryz.call74
def qow (o:DOps)(g:Gpd):Option (Int) :=
 o.letv (min (min g.heldf g.openf) g.camef) fun n1=>o.letv (max g.heldf g.openf) fun n2=>bif bif bif decide (n1<0) then true else decide (n2 > 1048576) then true else decide (g.camef > 1073741824) then some ((8:Int)) else bif bif g.upf then g.openf != 0 else false then bif bif g.upf then g.openf != 0 else false then some ((8:Int)) else some ((0:Int)) else bif bif !g.upf then g.heldf != 0 else false then bif bif !g.upf then g.heldf != 0 else false then some ((8:Int)) else some ((0:Int)) else o.letv (bits BinOp.and IntKind.u64 g.lastf (1:Int)) fun n3=>bif !g.upf==(n3==1) then some ((8:Int)) else some ((0:Int))
def qiH:DFn:={ro:=true,args:=(.agg (.seg 22 .nil) .nil),out:={slots:=(.dd 2 (.int .i64 (.dd 45 .nil)))},T:=Int,to:=fun(v:(Unit)×(Unit)×(Int×Unit))=>v.2.2.1,of:=fun x=>((),(),(x,()))}
def qmE:=qow DOps.ev
def qwE (o:DOps):qiH.In→Option qiH.T:=fun v=>qow o v.2.2.1.1
def qwF:DSpec:=qae qiH Tryz.f130 (qwE DOps.ev)
theorem qzZ:DH Tryz.prog 130 qwF:=qad (d:=qiH) (Fo:=qwE) ([]:DT) [] [] [] (trivial:DTok Tryz.prog []) (by kernel_rfl) ⟨fun o v=>by kernel_rfl⟩ Tryz.func130 Tryz.call130
def q0a (o:DOps)(x:Lkd):Option (Bool) :=
 o.letv (min x.samef x.wellf) fun n1=>o.letv (max x.samef x.wellf) fun n2=>some (bif bif decide (n1≥0) then decide (n2≤1048576) else false then bif x.badf then true else x.wellf==0 else false)
def quz:DFn:={ro:=true,args:=(.agg (.seg 23 .nil) .nil),out:={slots:=(.dd 2 (.bool (.dd 23 .nil)))},T:=Bool,to:=fun(v:(Unit)×(Unit)×(Bool×Unit))=>v.2.2.1,of:=fun x=>((),(),(x,()))}
def q6t:=q0a DOps.ev
def q6u (o:DOps):quz.In→Option quz.T:=fun v=>q0a o v.2.2.1.1
def q6v:DSpec:=qae quz Tryz.f186 (q6u DOps.ev)
theorem q6w:DH Tryz.prog 186 q6v:=qad (d:=quz) (Fo:=q6u) ([]:DT) [] [] [] (trivial:DTok Tryz.prog []) (by kernel_rfl) ⟨fun o v=>by kernel_rfl⟩ Tryz.func186 Tryz.call186
def qcd (o:DOps)(x:Int):Option (Int) :=
 o.letv (x.fdiv ((2:Int) ^ min (Int.toNat (1:Int)) IntKind.u64.bits)) fun n1=>o.letv (bits BinOp.and IntKind.u64 n1 (6148914691236517205:Int)) fun n2=>o.letv (bits BinOp.and IntKind.u64 x (6148914691236517205:Int)) fun n3=>o.letv (wu (n2+n3)) fun n4=>o.letv (n4.fdiv ((2:Int) ^ min (Int.toNat (2:Int)) IntKind.u64.bits)) fun n5=>o.letv (bits BinOp.and IntKind.u64 n5 (3689348814741910323:Int)) fun n6=>o.letv (bits BinOp.and IntKind.u64 n4 (3689348814741910323:Int)) fun n7=>o.letv (wu (n6+n7)) fun n8=>o.letv (n8.fdiv ((2:Int) ^ min (Int.toNat (4:Int)) IntKind.u64.bits)) fun n9=>o.letv (wu (n9+n8)) fun n10=>o.letv (bits BinOp.and IntKind.u64 n10 (1085102592571150095:Int)) fun n11=>o.letv (n11.fdiv ((2:Int) ^ min (Int.toNat (8:Int)) IntKind.u64.bits)) fun n12=>o.letv (wu (n11+n12)) fun n13=>o.letv (n13.fdiv ((2:Int) ^ min (Int.toNat (16:Int)) IntKind.u64.bits)) fun n14=>o.letv (wu (n13+n14)) fun n15=>o.letv (n15.fdiv ((2:Int) ^ min (Int.toNat (32:Int)) IntKind.u64.bits)) fun n16=>o.letv (wu (n15+n16)) fun n17=>o.letv (wi n17) fun n18=>o.letv (bits BinOp.and IntKind.i64 n18 (127:Int)) fun n19=>some n19
def qbe:DFn:={ro:=true,args:=(.int .u64 .nil),out:={slots:=(.dd 2 (.int .i64 (.dd 32 .nil)))},T:=Int,to:=fun(v:(Unit)×(Unit)×(Int×Unit))=>v.2.2.1,of:=fun x=>((),(),(x,()))}
def qb3:=qcd DOps.ev
def qeL (o:DOps):qbe.In→Option qbe.T:=fun v=>qcd o v.2.2.1
def qeM:DSpec:=qae qbe Tryz.f187 (qeL DOps.ev)
theorem qiI:DH Tryz.prog 187 qeM:=qad (d:=qbe) (Fo:=qeL) ([]:DT) [] [] [] (trivial:DTok Tryz.prog []) (by kernel_rfl) ⟨fun o v=>by kernel_rfl⟩ Tryz.func187 Tryz.call187
def qkr (o:DOps)(s:SiteT)(phase:Int)(group:Int):Option (Bool) :=
 ix o s.phases phase (dflt 18) fun x1=>req (decide (0≤group)) <| o.letv (x1.groupsf.fdiv ((2:Int) ^ min group.toNat IntKind.u32.bits)) fun n2=>o.letv (bits BinOp.and IntKind.u32 n2 (1:Int)) fun n3=>some (n3==1)
def qfW:DFn:={ro:=true,args:=(.agg (.seg 25 .nil) (.int .i64 (.int .i64 .nil))),out:={slots:=(.dd 6 (.bool (.dd 10 .nil)))},T:=Bool,to:=fun(v:(Unit)×(Unit)×(Bool×Unit))=>v.2.2.1,of:=fun x=>((),(),(x,()))}
def qiJ:=qkr DOps.ev
def qr6 (o:DOps):qfW.In→Option qfW.T:=fun v=>qkr o v.2.2.1.1 v.2.2.2.1 v.2.2.2.2.1
def qr7:DSpec:=qae qfW Tryz.f188 (qr6 DOps.ev)
theorem qwG:DH Tryz.prog 188 qr7:=qad (d:=qfW) (Fo:=qr6) ([]:DT) [] [] [] (trivial:DTok Tryz.prog []) (by kernel_rfl) ⟨fun o v=>by kernel_rfl⟩ Tryz.func188 Tryz.call188
def qft (o:DOps)(x:Lkd):Option (Bool) :=
 some (!x.badf)
def qcU:DFn:={ro:=true,args:=(.agg (.seg 23 .nil) .nil),out:={slots:=(.dd 2 (.bool (.dd 3 .nil)))},T:=Bool,to:=fun(v:(Unit)×(Unit)×(Bool×Unit))=>v.2.2.1,of:=fun x=>((),(),(x,()))}
def qh8:=qft DOps.ev
def qlB (o:DOps):qcU.In→Option qcU.T:=fun v=>qft o v.2.2.1.1
def qlC:DSpec:=qae qcU Tryz.f141 (qlB DOps.ev)
theorem qqB:DH Tryz.prog 141 qlC:=qad (d:=qcU) (Fo:=qlB) ([]:DT) [] [] [] (trivial:DTok Tryz.prog []) (by kernel_rfl) ⟨fun o v=>by kernel_rfl⟩ Tryz.func141 Tryz.call141
def qox (o:DOps)(x:Lkd):Option (Bool) :=
 some (bif x.upf then true else x.badf)
def qiK:DFn:={ro:=true,args:=(.agg (.seg 23 .nil) .nil),out:={slots:=(.dd 2 (.bool (.dd 6 .nil)))},T:=Bool,to:=fun(v:(Unit)×(Unit)×(Bool×Unit))=>v.2.2.1,of:=fun x=>((),(),(x,()))}
def qu0:=qox DOps.ev
def qwH (o:DOps):qiK.In→Option qiK.T:=fun v=>qox o v.2.2.1.1
def qwI:DSpec:=qae qiK Tryz.f189 (qwH DOps.ev)
theorem q0b:DH Tryz.prog 189 qwI:=qad (d:=qiK) (Fo:=qwH) ([]:DT) [] [] [] (trivial:DTok Tryz.prog []) (by kernel_rfl) ⟨fun o v=>by kernel_rfl⟩ Tryz.func189 Tryz.call189
def qks (o:DOps)(s:SiteT)(c:Int)(phase:Int):Option (Int) :=
 o.letv (c.fdiv ((2:Int) ^ min (s.phases.length:Int).toNat IntKind.u32.bits)) fun n1=>bif n1 != 0 then some ((8:Int)) else bif bif decide (phase<(-1:Int)) then true else decide (phase≥s.phases.length) then some ((2:Int)) else some ((0:Int))
def qfX:DFn:={ro:=true,args:=(.agg (.seg 25 .nil) (.int .u32 (.int .i64 .nil))),out:={slots:=(.dd 6 (.int .i64 (.dd 17 .nil)))},T:=Int,to:=fun(v:(Unit)×(Unit)×(Int×Unit))=>v.2.2.1,of:=fun x=>((),(),(x,()))}
def qoy:=qks DOps.ev
def qr8 (o:DOps):qfX.In→Option qfX.T:=fun v=>qks o v.2.2.1.1 v.2.2.2.1 v.2.2.2.2.1
def qr9:DSpec:=qae qfX Tryz.f137 (qr8 DOps.ev)
theorem qwJ:DH Tryz.prog 137 qr9:=qad (d:=qfX) (Fo:=qr8) ([]:DT) [] [] [] (trivial:DTok Tryz.prog []) (by kernel_rfl) ⟨fun o v=>by kernel_rfl⟩ Tryz.func137 Tryz.call137
def qh9 (o:DOps)(s:SiteT)(l:List UInt8):Option (Int) :=
 bif (l.length:Int) != (s.groups.length:Int) then some ((4:Int)) else o.fix (((),(),l,(l.length:Int),(0:Int),())) fun r1 (_,_,z2,n3,n4,_)=>bif decide (n4<n3) then ix o z2 n4 (0:UInt8) fun x5=>bif decide ((↑x5.toNat:Int) > 4) then some ((2:Int)) else inc o n4 fun n6=>r1 (((),(),z2,n3,n6,())) else some ((0:Int))
def qeg:DFn:={ro:=true,args:=(.agg (.seg 25 .nil) (.sl 0 .nil)),out:={slots:=(.dd 4 (.int .i64 (.dd 17 .nil)))},T:=Int,to:=fun(v:(Unit)×(Unit)×(Int×Unit))=>v.2.2.1,of:=fun x=>((),(),(x,()))}
def qkt:=qh9 DOps.ev
def qoz (o:DOps):qeg.In→Option qeg.T:=fun v=>qh9 o v.2.2.1.1 v.2.2.2.1
def qo0:DSpec:=qae qeg Tryz.f190 (qoz DOps.ev)
theorem qu1:DH Tryz.prog 190 qo0:=qad (d:=qeg) (Fo:=qoz) ([]:DT) [(4,{slots:=(.dd 13 (.sl 0 (.int .i64 (.int .i64 (.dd 6 .nil)))))})] [] [] (trivial:DTok Tryz.prog []) (by kernel_rfl) ⟨fun o v=>by kernel_rfl⟩ Tryz.func190 Tryz.call190
def qku (o:DOps)(p:Plan):Option (Bool) :=
 some (bif bif p.cycle==0 then p.offset==0 else false then (p.splits.length:Int)==0 else false)
def qfY:DFn:={ro:=true,args:=(.agg (.seg 10 .nil) .nil),out:={slots:=(.dd 2 (.bool (.dd 14 .nil)))},T:=Bool,to:=fun(v:(Unit)×(Unit)×(Bool×Unit))=>v.2.2.1,of:=fun x=>((),(),(x,()))}
def qd5:=qku DOps.ev
def qrA (o:DOps):qfY.In→Option qfY.T:=fun v=>qku o v.2.2.1.1
def qrB:DSpec:=qae qfY Tryz.f85 (qrA DOps.ev)
theorem qwK:DH Tryz.prog 85 qrB:=qad (d:=qfY) (Fo:=qrA) ([]:DT) [] [] [] (trivial:DTok Tryz.prog []) (by kernel_rfl) ⟨fun o v=>by kernel_rfl⟩ Tryz.func85 Tryz.call85
def qkv (o:DOps)(r:Int)(r2:Int)(r3:Bool)(f:Bool)(f2:Bool)(f3:Bool)(f4:Bool):Option (Int) :=
 bif bif r3 then true else !f4 then some ((0:Int)) else bif bif bif f then f2 else false then f3 else false then some ((3:Int)) else bif f2 then some ((2:Int)) else some ((1:Int))
def qfZ:DFn:={ro:=true,args:=(.agg (.int .u8 (.int .i64 (.bool .nil))) (.agg (.bool (.bool (.bool (.bool .nil)))) .nil)),out:={slots:=(.dd 4 (.int .u8 (.dd 22 .nil)))},T:=Int,to:=fun(v:(Unit)×(Unit)×(Int×Unit))=>v.2.2.1,of:=fun x=>((),(),(x,()))}
def qo1:=qkv DOps.ev
def qrC (o:DOps):qfZ.In→Option qfZ.T:=fun v=>qkv o v.2.2.1.1 v.2.2.1.2.1 v.2.2.1.2.2.1 v.2.2.2.1.1 v.2.2.2.1.2.1 v.2.2.2.1.2.2.1 v.2.2.2.1.2.2.2.1
def qrD:DSpec:=qae qfZ Tryz.f142 (qrC DOps.ev)
theorem qwL:DH Tryz.prog 142 qrD:=qad (d:=qfZ) (Fo:=qrC) ([]:DT) [] [] [] (trivial:DTok Tryz.prog []) (by kernel_rfl) ⟨fun o v=>by kernel_rfl⟩ Tryz.func142 Tryz.call142
def qkw (o:DOps)(s:SiteT)(calls:Int):Option (Int) :=
 o.fix (((),(),calls,(0:Int),s.phases,(s.phases.length:Int),(0:Int),())) fun r1 (_,_,n2,n3,z4,n5,n6,_)=>bif decide (n6<n5) then ix o z4 n6 (dflt 18) fun x7=>req (!!x7.alwaysf||decide (0≤n6)) <| o.letv (n2.fdiv ((2:Int) ^ min n6.toNat IntKind.u32.bits)) fun n8=>o.letv (bits BinOp.and IntKind.u32 n8 (1:Int)) fun n9=>bif bif x7.alwaysf then true else n9==1 then req (decide (0≤n6)) <| o.letv (wq ((1:Int)*2 ^ min n6.toNat IntKind.u32.bits)) fun n11=>o.letv (bits BinOp.or IntKind.u32 n3 n11) fun n12=>inc o n6 fun n13=>r1 (((),(),n2,n12,z4,n5,n13,())) else inc o n6 fun n10=>r1 (((),(),n2,n3,z4,n5,n10,())) else some n3
def qga:DFn:={ro:=true,args:=(.agg (.seg 25 .nil) (.int .u32 .nil)),out:={slots:=(.dd 4 (.int .u32 (.dd 26 .nil)))},T:=Int,to:=fun(v:(Unit)×(Unit)×(Int×Unit))=>v.2.2.1,of:=fun x=>((),(),(x,()))}
def qd6:=qkw DOps.ev
def qrE (o:DOps):qga.In→Option qga.T:=fun v=>qkw o v.2.2.1.1 v.2.2.2.1
def qrF:DSpec:=qae qga Tryz.f143 (qrE DOps.ev)
theorem qwM:DH Tryz.prog 143 qrF:=qad (d:=qga) (Fo:=qrE) ([]:DT) [(3,{slots:=(.dead (.int .u32 (.dd 3 (.int .u32 (.dd 3 (.sl 18 (.int .i64 (.int .i64 (.dd 19 .nil)))))))))})] [] [] (trivial:DTok Tryz.prog []) (by kernel_rfl) ⟨fun o v=>by kernel_rfl⟩ Tryz.func143 Tryz.call143
def qu2 (o:DOps)(n:Int)(a:Int):Option (List UInt8) :=
 req (decide (0≤n∧n≤n∧n*(↑1:Int)≤140737488355328)) <| rs n.toNat (List.replicate n.toNat (UInt8.ofNat 0)).length <| o.fix (((List.replicate n.toNat (UInt8.ofNat 0),()),(),a,(↑n.toNat:Int),(0:Int),())) fun r1 ((z2,_),_,n3,n4,n5,_)=>bif decide (n5<n4) then rb n5 z2.length <| req (decide (0+n5.toNat<z2.length)) <| o.letv (z2.set (0+n5.toNat) (UInt8.ofNat n3.toNat)) fun z6=>inc o n5 fun n7=>rs z2.length z6.length <| r1 (((z6,()),(),n3,n4,n7,())) else rs z2.length z2.length <| some z2
def qmF:DFn:={ro:=true,args:=(.int .i64 (.int .u8 .nil)),out:={slots:=(.dd 4 (.row 0 904 (.dd 15 .nil))),blks:=[(904,.row 0)],boxes:=[(4,904,0)]},T:=List (UInt8),to:=fun(v:(List (UInt8)×Unit)×(Unit)×(Unit))=>v.1.1,of:=fun x=>((x,()),(),())}
def qkx:=qu2 DOps.ev
def q2r (o:DOps):qmF.In→Option qmF.T:=fun v=>qu2 o v.2.2.1 v.2.2.2.1
def q2s:DSpec:=qae qmF Tryz.f153 (q2r DOps.ev)
theorem q3X:DH Tryz.prog 153 q2s:=qad (d:=qmF) (Fo:=q2r) ([]:DT) [(3,{slots:=(.dead (.int .u8 (.dd 3 (.row 0 2001 (.dd 4 (.int .i64 (.int .i64 (.dd 8 .nil)))))))),blks:=[(2001,.row 0)]})] [] [] (trivial:DTok Tryz.prog []) (by kernel_rfl) ⟨fun o v=>by kernel_rfl⟩ Tryz.func153 Tryz.call153
def q6x (o:DOps)(n:Int):Option (Int) :=
 o.letv (max n (-1073741824:Int)) fun n1=>o.letv (min n1 (1073741824:Int)) fun n2=>o.letv (wi (n2*65536)) fun n3=>some n3
def q2t:DFn:={ro:=true,args:=(.int .i64 .nil),out:={slots:=(.dd 2 (.int .i64 (.dd 4 .nil)))},T:=Int,to:=fun(v:(Unit)×(Unit)×(Int×Unit))=>v.2.2.1,of:=fun x=>((),(),(x,()))}
def fixOf:=q6x DOps.ev
def fixOfV (o:DOps):q2t.In→Option q2t.T:=fun v=>q6x o v.2.2.1
def fixOfS:DSpec:=qae q2t Tryz.f101 (fixOfV DOps.ev)
theorem fixOf_ok:DH Tryz.prog 101 fixOfS:=qad (d:=q2t) (Fo:=fixOfV) ([]:DT) [] [] [] (trivial:DTok Tryz.prog []) (by kernel_rfl) ⟨fun o v=>by kernel_rfl⟩ Tryz.func101 Tryz.call101
def qu3 (o:DOps)(x:Int):Option (Int) :=
 o.letv (max x (-70368744177664:Int)) fun n1=>o.letv (min n1 (70368744177664:Int)) fun n2=>some n2
def qmG:DFn:={ro:=true,args:=(.int .i64 .nil),out:={slots:=(.dd 2 (.int .i64 (.dd 3 .nil)))},T:=Int,to:=fun(v:(Unit)×(Unit)×(Int×Unit))=>v.2.2.1,of:=fun x=>((),(),(x,()))}
def qky:=qu3 DOps.ev
def q2u (o:DOps):qmG.In→Option qmG.T:=fun v=>qu3 o v.2.2.1
def q2v:DSpec:=qae qmG Tryz.f166 (q2u DOps.ev)
theorem q3Y:DH Tryz.prog 166 q2v:=qad (d:=qmG) (Fo:=q2u) ([]:DT) [] [] [] (trivial:DTok Tryz.prog []) (by kernel_rfl) ⟨fun o v=>by kernel_rfl⟩ Tryz.func166 Tryz.call166
def qkz (o:DOps)(s:Int)(s2:Int)(s3:List Plan)(s4:List (List UInt8))(s5:Bool)(q:Int)(q2:Int)(q3:List Plan)(q4:List (List UInt8))(q5:Bool):Option (Bool×Int×Int×List Plan×List (List UInt8)×Bool×Int×Int×List Plan×List (List UInt8)×Bool) :=
 some ((bif s5 then !bif q5 then decide (q > s) else false else false,s,s2,s3,s4,s5,q,q2,q3,q4,q5))
def qgb:DFn:={ro:=false,own:=[false,false],args:=(.ptr 0 0 (.ptr 1 0 .nil)),B:=[.cells (.int .i64 (.int .u8 (.sl 10 (.sl 6 (.bool .nil))))),.cells (.int .i64 (.int .u8 (.sl 10 (.sl 6 (.bool .nil)))))],out:={slots:=(.dd 4 (.bool (.dd 24 .nil))),blks:=[(0,.cells (.int .i64 (.int .u8 (.sl 10 (.sl 6 (.bool .nil)))))),(1,.cells (.int .i64 (.int .u8 (.sl 10 (.sl 6 (.bool .nil))))))],fz:=true},T:=Bool×Int×Int×List Plan×List (List UInt8)×Bool×Int×Int×List Plan×List (List UInt8)×Bool,to:=fun(v:(Unit)×((Int×Int×List Plan×List (List UInt8)×Bool×Unit)×(Int×Int×List Plan×List (List UInt8)×Bool×Unit)×Unit)×(Bool×Unit))=>(v.2.2.1,v.2.1.1.1,v.2.1.1.2.1,v.2.1.1.2.2.1,v.2.1.1.2.2.2.1,v.2.1.1.2.2.2.2.1,v.2.1.2.1.1,v.2.1.2.1.2.1,v.2.1.2.1.2.2.1,v.2.1.2.1.2.2.2.1,v.2.1.2.1.2.2.2.2.1),of:=fun x=>((),((x.2.1,(x.2.2.1,(x.2.2.2.1,(x.2.2.2.2.1,(x.2.2.2.2.2.1,()))))),((x.2.2.2.2.2.2.1,(x.2.2.2.2.2.2.2.1,(x.2.2.2.2.2.2.2.2.1,(x.2.2.2.2.2.2.2.2.2.1,(x.2.2.2.2.2.2.2.2.2.2,()))))),())),(x.1,()))}
def qiL:=qkz DOps.ev
def qrG (o:DOps):qgb.In→Option qgb.T:=fun v=>qkz o v.2.1.1.1 v.2.1.1.2.1 v.2.1.1.2.2.1 v.2.1.1.2.2.2.1 v.2.1.1.2.2.2.2.1 v.2.1.2.1.1 v.2.1.2.1.2.1 v.2.1.2.1.2.2.1 v.2.1.2.1.2.2.2.1 v.2.1.2.1.2.2.2.2.1
def qrH:DSpec:=qae qgb Tryz.f177 (qrG DOps.ev)
theorem qwN:DH Tryz.prog 177 qrH:=qad (d:=qgb) (Fo:=qrG) ([]:DT) [] [] [] (trivial:DTok Tryz.prog []) (by kernel_rfl) ⟨fun o v=>by kernel_rfl⟩ Tryz.func177 Tryz.call177
def qbo (o:DOps)(s:List UInt8):Option (List UInt8) :=
 bif s.isEmpty then sm o [some qal,req (decide ((0+s.length)*1≤140737488355328)) <| o.letv ([]++s) fun z2=>rs (0+s.length) z2.length <| some z2] (.n (.l 0) (.l 1)) else req (decide ((0+s.length)*1≤140737488355328)) <| o.letv ([]++s) fun z1=>rs (0+s.length) z1.length <| some z1
def qcV:DFn:={ro:=true,args:=(.sl 0 .nil),out:={slots:=(.dd 2 (.row 0 902 (.dd 5 .nil))),blks:=[(902,.row 0)],boxes:=[(2,902,0)]},T:=List (UInt8),to:=fun(v:(List (UInt8)×Unit)×(Unit)×(Unit))=>v.1.1,of:=fun x=>((x,()),(),())}
def qbG:=qbo DOps.ev
def qlD (o:DOps):qcV.In→Option qcV.T:=fun v=>qbo o v.2.2.1
def qlE:DSpec:=qae qcV Tryz.f62 (qlD DOps.ev)
theorem qqC (s:List UInt8):qbo DOps.std s=qbo DOps.ev s:=by cases s with|nil=>(unfold qbo;simp only[List.isEmpty_nil,cond_true,sm_l,sm_n,qdp,qdq];exact qaw (by kernel_rfl))|cons x l=>kernel_rfl
theorem qqD:DH Tryz.prog 62 qlE:=qad (d:=qcV) (Fo:=qlD) ([]:DT) [] [] [] (trivial:DTok Tryz.prog []) (funext fun v=>qqC _) ⟨fun o v=>by kernel_rfl⟩ Tryz.func62 Tryz.call62
def qaT (o:DOps)(s:List Pls):Option (List Pls) :=
 bif s.isEmpty then sm o [some nilL21,req (decide ((0+s.length)*16≤140737488355328)) <| o.letv ([]++s) fun z2=>rs (0+s.length) z2.length <| some z2] (.n (.l 0) (.l 1)) else req (decide ((0+s.length)*16≤140737488355328)) <| o.letv ([]++s) fun z1=>rs (0+s.length) z1.length <| some z1
def qck:DFn:={ro:=true,args:=(.sl 21 .nil),out:={slots:=(.dd 2 (.row 21 902 (.dd 5 .nil))),blks:=[(902,.row 21)],boxes:=[(2,902,21)]},T:=List (Pls),to:=fun(v:(List (Pls)×Unit)×(Unit)×(Unit))=>v.1.1,of:=fun x=>((x,()),(),())}
def qcW:=qaT DOps.ev
def qiM (o:DOps):qck.In→Option qck.T:=fun v=>qaT o v.2.2.1
def qiN:DSpec:=qae qck Tryz.f75 (qiM DOps.ev)
theorem qo2 (s:List Pls):qaT DOps.std s=qaT DOps.ev s:=by cases s with|nil=>(unfold qaT;simp only[List.isEmpty_nil,cond_true,sm_l,sm_n,qdp,qdq];exact qaw (by kernel_rfl))|cons x l=>kernel_rfl
theorem qo3:DH Tryz.prog 75 qiN:=qad (d:=qck) (Fo:=qiM) ([]:DT) [] [] [] (trivial:DTok Tryz.prog []) (funext fun v=>qo2 _) ⟨fun o v=>by kernel_rfl⟩ Tryz.func75 Tryz.call75
def qaJ (o:DOps)(s:List Gpd):Option (List Gpd) :=
 bif s.isEmpty then sm o [some nilL22,req (decide ((0+s.length)*40≤140737488355328)) <| o.letv ([]++s) fun z2=>rs (0+s.length) z2.length <| some z2] (.n (.l 0) (.l 1)) else req (decide ((0+s.length)*40≤140737488355328)) <| o.letv ([]++s) fun z1=>rs (0+s.length) z1.length <| some z1
def qbL:DFn:={ro:=true,args:=(.sl 22 .nil),out:={slots:=(.dd 2 (.row 22 902 (.dd 5 .nil))),blks:=[(902,.row 22)],boxes:=[(2,902,22)]},T:=List (Gpd),to:=fun(v:(List (Gpd)×Unit)×(Unit)×(Unit))=>v.1.1,of:=fun x=>((x,()),(),())}
def qeh:=qaJ DOps.ev
def qhg (o:DOps):qbL.In→Option qbL.T:=fun v=>qaJ o v.2.2.1
def qhh:DSpec:=qae qbL Tryz.f76 (qhg DOps.ev)
theorem qmt (s:List Gpd):qaJ DOps.std s=qaJ DOps.ev s:=by cases s with|nil=>(unfold qaJ;simp only[List.isEmpty_nil,cond_true,sm_l,sm_n,qdp,qdq];exact qaw (by kernel_rfl))|cons x l=>kernel_rfl
theorem qmu:DH Tryz.prog 76 qhh:=qad (d:=qbL) (Fo:=qhg) ([]:DT) [] [] [] (trivial:DTok Tryz.prog []) (funext fun v=>qmt _) ⟨fun o v=>by kernel_rfl⟩ Tryz.func76 Tryz.call76
def qbp (o:DOps)(s:List SeenT):Option (List SeenT) :=
 bif s.isEmpty then sm o [some qeV,req (decide ((0+s.length)*24≤140737488355328)) <| o.letv ([]++s) fun z2=>rs (0+s.length) z2.length <| some z2] (.n (.l 0) (.l 1)) else req (decide ((0+s.length)*24≤140737488355328)) <| o.letv ([]++s) fun z1=>rs (0+s.length) z1.length <| some z1
def qcX:DFn:={ro:=true,args:=(.sl 20 .nil),out:={slots:=(.dd 2 (.row 20 902 (.dd 5 .nil))),blks:=[(902,.row 20)],boxes:=[(2,902,20)]},T:=List (SeenT),to:=fun(v:(List (SeenT)×Unit)×(Unit)×(Unit))=>v.1.1,of:=fun x=>((x,()),(),())}
def qcB:=qbp DOps.ev
def qlF (o:DOps):qcX.In→Option qcX.T:=fun v=>qbp o v.2.2.1
def qlG:DSpec:=qae qcX Tryz.f96 (qlF DOps.ev)
theorem qqE (s:List SeenT):qbp DOps.std s=qbp DOps.ev s:=by cases s with|nil=>(unfold qbp;simp only[List.isEmpty_nil,cond_true,sm_l,sm_n,qdp,qdq];exact qaw (by kernel_rfl))|cons x l=>kernel_rfl
theorem qqF:DH Tryz.prog 96 qlG:=qad (d:=qcX) (Fo:=qlF) ([]:DT) [] [] [] (trivial:DTok Tryz.prog []) (funext fun v=>qqE _) ⟨fun o v=>by kernel_rfl⟩ Tryz.func96 Tryz.call96
def qbH (o:DOps)(s:List Int):Option (List Int) :=
 bif s.isEmpty then sm o [some qeT,req (decide ((0+s.length)*8≤140737488355328)) <| o.letv ([]++s) fun z2=>rs (0+s.length) z2.length <| some z2] (.n (.l 0) (.l 1)) else req (decide ((0+s.length)*8≤140737488355328)) <| o.letv ([]++s) fun z1=>rs (0+s.length) z1.length <| some z1
def qei:DFn:={ro:=true,args:=(.sl 1 .nil),out:={slots:=(.dd 2 (.row 1 902 (.dd 5 .nil))),blks:=[(902,.row 1)],boxes:=[(2,902,1)]},T:=List (Int),to:=fun(v:(List (Int)×Unit)×(Unit)×(Unit))=>v.1.1,of:=fun x=>((x,()),(),())}
def qd7:=qbH DOps.ev
def qo4 (o:DOps):qei.In→Option qei.T:=fun v=>qbH o v.2.2.1
def qo5:DSpec:=qae qei Tryz.f98 (qo4 DOps.ev)
theorem qu4 (s:List Int):qbH DOps.std s=qbH DOps.ev s:=by cases s with|nil=>(unfold qbH;simp only[List.isEmpty_nil,cond_true,sm_l,sm_n,qdp,qdq];exact qaw (by kernel_rfl))|cons x l=>kernel_rfl
theorem qu5:DH Tryz.prog 98 qo5:=qad (d:=qei) (Fo:=qo4) ([]:DT) [] [] [] (trivial:DTok Tryz.prog []) (funext fun v=>qu4 _) ⟨fun o v=>by kernel_rfl⟩ Tryz.func98 Tryz.call98
def q0c (o:DOps)(s:List UInt8)(n:Int):Option (List UInt8) :=
 bif decide (n<0) then none else none
def qej:DFn:={ro:=false,args:=(.sl 0 (.int .i64 .nil)),out:={slots:=(.dd 4 (.sl 0 (.dd 22 .nil))),fz:=true},T:=List UInt8,to:=fun(v:(Unit)×(Unit)×(List UInt8×Unit))=>v.2.2.1,of:=fun x=>((),(),(x,()))}
def qo6 (o:DOps):qej.In→Option qej.T:=fun v=>q0c o v.2.2.1 v.2.2.2.1
def qo7:DSpec:=qae qej Tryz.f119 (qo6 DOps.ev)
theorem qu6:DH Tryz.prog 119 qo7:=qad (d:=qej) (Fo:=qo6) ([]:DT) [] [] [] (trivial:DTok Tryz.prog []) (by kernel_rfl) ⟨fun o v=>by kernel_rfl⟩ Tryz.func119 Tryz.call119
def q6y (o:DOps)(n:Int):Option (Nat×List UInt8) :=
 bif decide (n<0) then none else o.letv (wi ((0:Int)-0)) fun n1=>o.letv (wi (n-n1)) fun n2=>bif decide (n2 > 0) then req (decide (0≤n2)) <| req (decide (n2.toNat*1≤140737488355328)) <| o.letv (List.replicate n2.toNat (UInt8.ofNat 0)) fun z3=>some ((Int.toNat (0:Int),z3)) else some ((0,qal))
def q2w:DFn:={ro:=true,args:=(.nilsl (.int .i64 .nil)),out:={slots:=(.dd 4 (.rown 0 904 (.dd 22 .nil))),blks:=[(904,.row 0)],boxes:=[(4,904,0)]},T:=Nat×List (UInt8),to:=fun(v:(List (UInt8)×Unit)×(Unit)×(Nat×Unit))=>(v.2.2.1,v.1.1),of:=fun x=>((x.2,()),(),(x.1,()))}
def growN:=q6y DOps.ev
def growNV (o:DOps):q2w.In→Option q2w.T:=fun v=>q6y o v.2.2.1
def growNS:DSpec:=qae q2w Tryz.f119 (growNV DOps.ev)
theorem growN_ok:DH Tryz.prog 119 growNS:=qad (d:=q2w) (Fo:=growNV) ([]:DT) [] [] [] (trivial:DTok Tryz.prog []) (by kernel_rfl) ⟨fun o v=>by kernel_rfl⟩ Tryz.func119 Tryz.call119
def q3Z (o:DOps)(x:Int)(y:Int):Option (Int×Int) :=
 o.letv (wu x) fun n1=>o.letv (wu y) fun n2=>o.letv (wu (n1*n2)) fun n3=>o.letv (n3.fdiv ((2:Int) ^ min (Int.toNat (32:Int)) IntKind.u64.bits)) fun n4=>o.letv (wq n4) fun n5=>o.letv (wq n3) fun n6=>some ((n5,n6))
def qgc:DFn:={ro:=true,args:=(.int .u32 (.int .u32 .nil)),out:={slots:=(.dd 4 (.int .u32 (.int .u32 (.dd 11 .nil))))},T:=Int×Int,to:=fun(v:(Unit)×(Unit)×(Int×Int×Unit))=>(v.2.2.1,v.2.2.2.1),of:=fun x=>((),(),(x.1,(x.2,())))}
def qrI (o:DOps):qgc.In→Option qgc.T:=fun v=>q3Z o v.2.2.1 v.2.2.2.1
def qrJ:DSpec:=qae qgc Tryz.f212 (qrI DOps.ev)
theorem qwO:DH Tryz.prog 212 qrJ:=qad (d:=qgc) (Fo:=qrI) ([]:DT) [] [] [] (trivial:DTok Tryz.prog []) (by kernel_rfl) ⟨fun o v=>by kernel_rfl⟩ Tryz.func212 Tryz.call212
def qrK (o:DOps)(x:Int)(y:Int):Option (Int×Int) :=
 o.letv (bits BinOp.and IntKind.u64 x (4294967295:Int)) fun n1=>o.letv (x.fdiv ((2:Int) ^ min (Int.toNat (32:Int)) IntKind.u64.bits)) fun n2=>o.letv (bits BinOp.and IntKind.u64 y (4294967295:Int)) fun n3=>o.letv (y.fdiv ((2:Int) ^ min (Int.toNat (32:Int)) IntKind.u64.bits)) fun n4=>o.letv (wu (n1*n3)) fun n5=>o.letv (wu (n2*n3)) fun n6=>o.letv (n5.fdiv ((2:Int) ^ min (Int.toNat (32:Int)) IntKind.u64.bits)) fun n7=>o.letv (wu (n6+n7)) fun n8=>o.letv (bits BinOp.and IntKind.u64 n8 (4294967295:Int)) fun n9=>o.letv (n8.fdiv ((2:Int) ^ min (Int.toNat (32:Int)) IntKind.u64.bits)) fun n10=>o.letv (wu (n1*n4)) fun n11=>o.letv (wu (n9+n11)) fun n12=>o.letv (wu (n2*n4)) fun n13=>o.letv (wu (n13+n10)) fun n14=>o.letv (n12.fdiv ((2:Int) ^ min (Int.toNat (32:Int)) IntKind.u64.bits)) fun n15=>o.letv (wu (n14+n15)) fun n16=>o.letv (wu (x*y)) fun n17=>some ((n16,n17))
def qgd:DFn:={ro:=true,args:=(.int .u64 (.int .u64 .nil)),out:={slots:=(.dd 4 (.int .u64 (.int .u64 (.dd 45 .nil))))},T:=Int×Int,to:=fun(v:(Unit)×(Unit)×(Int×Int×Unit))=>(v.2.2.1,v.2.2.2.1),of:=fun x=>((),(),(x.1,(x.2,())))}
def q6z:=qrK DOps.ev
def qrL (o:DOps):qgd.In→Option qgd.T:=fun v=>qrK o v.2.2.1 v.2.2.2.1
def qrM:DSpec:=qae qgd Tryz.f213 (qrL DOps.ev)
theorem qwP:DH Tryz.prog 213 qrM:=qad (d:=qgd) (Fo:=qrL) ([]:DT) [] [] [] (trivial:DTok Tryz.prog []) (by kernel_rfl) ⟨fun o v=>by kernel_rfl⟩ Tryz.func213 Tryz.call213
def qk0 (o:DOps)(now:List SeenT)(now2:Int)(now3:Bool)(s:SiteT):Option (Int×List SeenT×Int×Bool×SiteT) :=
 bif (now.length:Int) != (s.groups.length:Int) then some (((8:Int),now,now2,now3,s)) else some (((0:Int),now,now2,now3,s))
def qge:DFn:={ro:=false,own:=[false,false],args:=(.ptr 0 0 (.ptr 1 0 .nil)),B:=[.cells (.sl 20 (.int .i64 (.bool .nil))),.cells (.seg 25 .nil)],out:={slots:=(.dd 2 (.int .i64 (.dd 7 .nil))),blks:=[(0,.cells (.sl 20 (.int .i64 (.bool .nil)))),(1,.cells (.seg 25 .nil))],fz:=true},T:=Int×List SeenT×Int×Bool×SiteT,to:=fun(v:(Unit)×((List SeenT×Int×Bool×Unit)×(SiteT×Unit)×Unit)×(Int×Unit))=>(v.2.2.1,v.2.1.1.1,v.2.1.1.2.1,v.2.1.1.2.2.1,v.2.1.2.1.1),of:=fun x=>((),((x.2.1,(x.2.2.1,(x.2.2.2.1,()))),((x.2.2.2.2,()),())),(x.1,()))}
def qo8:=qk0 DOps.ev
def qrN (o:DOps):qge.In→Option qge.T:=fun v=>qk0 o v.2.1.1.1 v.2.1.1.2.1 v.2.1.1.2.2.1 v.2.1.2.1.1
def qrO:DSpec:=qae qge Tryz.f134 (qrN DOps.ev)
theorem qwQ:DH Tryz.prog 134 qrO:=qad (d:=qge) (Fo:=qrN) ([]:DT) [] [] [] (trivial:DTok Tryz.prog []) (by kernel_rfl) ⟨fun o v=>by kernel_rfl⟩ Tryz.func134 Tryz.call134
def qk1 (o:DOps):Option (Int) :=
 some ((0:Int))
def qgf:DFn:={ro:=true,args:=.nil,out:={slots:=(.int .i64 .nil)},T:=Int,to:=fun(v:(Unit)×(Unit)×(Int×Unit))=>v.2.2.1,of:=fun x=>((),(),(x,()))}
def qo9:=qk1 DOps.ev
def qrP (o:DOps):qgf.In→Option qgf.T:=fun v=>qk1 o
def qrQ:DSpec:=qae qgf Tryz.f148 (qrP DOps.ev)
theorem qwR:DH Tryz.prog 148 qrQ:=qad (d:=qgf) (Fo:=qrP) ([]:DT) [] [] [] (trivial:DTok Tryz.prog []) (by kernel_rfl) ⟨fun o v=>by kernel_rfl⟩ Tryz.func148 Tryz.call148
def qhA (o:DOps)(a:Int):Option (Bool) :=
 some (a != 4)
def qek:DFn:={ro:=true,args:=(.int .u8 .nil),out:={slots:=(.dd 2 (.bool (.dd 2 .nil)))},T:=Bool,to:=fun(v:(Unit)×(Unit)×(Bool×Unit))=>v.2.2.1,of:=fun x=>((),(),(x,()))}
def qk2:=qhA DOps.ev
def qoA (o:DOps):qek.In→Option qek.T:=fun v=>qhA o v.2.2.1
def qoB:DSpec:=qae qek Tryz.f198 (qoA DOps.ev)
theorem qu7:DH Tryz.prog 198 qoB:=qad (d:=qek) (Fo:=qoA) ([]:DT) [] [] [] (trivial:DTok Tryz.prog []) (by kernel_rfl) ⟨fun o v=>by kernel_rfl⟩ Tryz.func198 Tryz.call198
def qhB (o:DOps)(a:Int):Option (Bool) :=
 some (a != 4)
def qel:DFn:={ro:=true,args:=(.int .u8 .nil),out:={slots:=(.dd 2 (.bool (.dd 2 .nil)))},T:=Bool,to:=fun(v:(Unit)×(Unit)×(Bool×Unit))=>v.2.2.1,of:=fun x=>((),(),(x,()))}
def qk3:=qhB DOps.ev
def qoC (o:DOps):qel.In→Option qel.T:=fun v=>qhB o v.2.2.1
def qoD:DSpec:=qae qel Tryz.f152 (qoC DOps.ev)
theorem qu8:DH Tryz.prog 152 qoD:=qad (d:=qel) (Fo:=qoC) ([]:DT) [] [] [] (trivial:DTok Tryz.prog []) (by kernel_rfl) ⟨fun o v=>by kernel_rfl⟩ Tryz.func152 Tryz.call152
def qk4 (o:DOps)(now:List SeenT)(now2:Int)(now3:Bool)(g:SeenT):Option (Bool×List SeenT×Int×Bool) :=
 bif now3 then some ((g.aspectf != 4,now,now2,now3)) else some ((bif bif decide (g.aspectf<1) then true else decide (g.aspectf > 3) then true else bif decide (now2 > 0) then g.aspectf != 1 else false,now,now2,now3))
def qgg:DFn:={ro:=false,own:=[false],args:=(.agg (.seg 20 .nil) (.ptr 0 0 .nil)),B:=[.cells (.sl 20 (.int .i64 (.bool .nil)))],out:={slots:=(.dd 3 (.bool (.dd 23 .nil))),blks:=[(0,.cells (.sl 20 (.int .i64 (.bool .nil))))],fz:=true},T:=Bool×List SeenT×Int×Bool,to:=fun(v:(Unit)×((List SeenT×Int×Bool×Unit)×Unit)×(Bool×Unit))=>(v.2.2.1,v.2.1.1.1,v.2.1.1.2.1,v.2.1.1.2.2.1),of:=fun x=>((),((x.2.1,(x.2.2.1,(x.2.2.2,()))),()),(x.1,()))}
def qoE:=qk4 DOps.ev
def qrR (o:DOps):qgg.In→Option qgg.T:=fun v=>qk4 o v.2.1.1.1 v.2.1.1.2.1 v.2.1.1.2.2.1 v.2.2.1.1
def qrS:DSpec:=qae qgg Tryz.f195 (qrR DOps.ev)
theorem qwS:DH Tryz.prog 195 qrS:=qad (d:=qgg) (Fo:=qrR) ([]:DT) [] [] [] (trivial:DTok Tryz.prog []) (by kernel_rfl) ⟨fun o v=>by kernel_rfl⟩ Tryz.func195 Tryz.call195
def qhC (o:DOps)(out:List UInt8)(now:List SeenT)(now2:Int)(now3:Bool)(s:SiteT)(i:Int):Option (Bool×List SeenT×Int×Bool×SiteT×List UInt8) :=
 rs out.length out.length <| o.fix (((out,()),((now,now2,now3,()),(s,()),(),()),i,now,(now.length:Int),(0:Int),())) fun r1 ((z2,_),((z3,n4,b5,_),(x6,_),_,_),n7,z8,n9,n10,_)=>bif decide (n10<n9) then ix o z8 n10 (dflt 20) fun x11=>ix o x6.apart n7 (0:UInt32) fun x12=>req (decide (0≤n10)) <| o.letv ((↑x12.toNat:Int).fdiv ((2:Int) ^ min n10.toNat IntKind.u32.bits)) fun n13=>o.letv (bits BinOp.and IntKind.u32 n13 (1:Int)) fun n14=>req (!n14==1||decide (0≤n10)&&decide (n10<z2.length)) <| req (!n14==1||decide (0+n10.toNat<z2.length)) <| o.letv ((↑(z2.getD (0+n10.toNat) (0:UInt8)).toNat:Int)) fun n15=>req (!!n15 != 1||(!n14==1||decide (0≤n10)&&decide (n10<x6.between.length))) <| o.letv (x6.between.getD n10.toNat (dflt 7)) fun z16=>req (!!n15 != 1||(!n14==1||decide (0≤n7)&&decide (n7<z16.length))) <| o.letv (z16.getD n7.toNat (0:Int)) fun n17=>bif bif n14==1 then bif n15 != 1 then true else decide (x11.endedf<n17) else false then rs z2.length z2.length <| some ((true,z3,n4,b5,x6,z2)) else inc o n10 fun n18=>rs z2.length z2.length <| r1 (((z2,()),((z3,n4,b5,()),(x6,()),(),()),n7,z8,n9,n18,())) else rs z2.length z2.length <| some ((false,z3,n4,b5,x6,z2))
def qem:DFn:={ro:=false,own:=[false,false,false,false],args:=(.int .i64 (.ptr 0 0 (.ptr 1 0 (.ptr 2 0 .nil)))),B:=[.cells (.sl 20 (.int .i64 (.bool .nil))),.cells (.seg 25 .nil),.cells (.row 0 3 .nil),.row 0],out:={slots:=(.dd 5 (.bool (.dd 40 .nil))),blks:=[(0,.cells (.sl 20 (.int .i64 (.bool .nil)))),(1,.cells (.seg 25 .nil)),(2,.cells (.row 0 3 .nil)),(3,.row 0)],fz:=true},T:=Bool×List SeenT×Int×Bool×SiteT×List (UInt8),to:=fun(v:(List (UInt8)×Unit)×((List SeenT×Int×Bool×Unit)×(SiteT×Unit)×(Unit)×Unit)×(Bool×Unit))=>(v.2.2.1,v.2.1.1.1,v.2.1.1.2.1,v.2.1.1.2.2.1,v.2.1.2.1.1,v.1.1),of:=fun x=>((x.2.2.2.2.2,()),((x.2.1,(x.2.2.1,(x.2.2.2.1,()))),((x.2.2.2.2.1,()),((),()))),(x.1,()))}
def qgh:=qhC DOps.ev
def qoF (o:DOps):qem.In→Option qem.T:=fun v=>qhC o v.1.1 v.2.1.1.1 v.2.1.1.2.1 v.2.1.1.2.2.1 v.2.1.2.1.1 v.2.2.1
def qoG:DSpec:=qae qem Tryz.f155 (qoF DOps.ev)
theorem qu9:DH Tryz.prog 155 qoG:=qad (d:=qem) (Fo:=qoF) ([]:DT) [(2,{slots:=(.int .i64 (.dead (.ptr 1 0 (.ptr 2 0 (.dd 5 (.sl 20 (.int .i64 (.int .i64 (.dd 34 .nil))))))))),blks:=[(0,.cells (.sl 20 (.int .i64 (.bool .nil)))),(1,.cells (.seg 25 .nil)),(2,.cells (.row 0 3 .nil)),(3,.row 0)]})] [] [] (trivial:DTok Tryz.prog []) (by kernel_rfl) ⟨fun o v=>by kernel_rfl⟩ Tryz.func155 Tryz.call155
def qwT (o:DOps)(s:SiteT)(a:Int)(b:Int):Option (Bool) :=
 ix o s.apart a (0:UInt32) fun x1=>o.letv (wu b) fun n2=>req (decide (0≤n2)) <| o.letv ((↑x1.toNat:Int).fdiv ((2:Int) ^ min n2.toNat IntKind.u32.bits)) fun n3=>o.letv (n3.tmod (2:Int)) fun n4=>some (n4==1)
def qiO:DFn:={ro:=true,args:=(.agg (.seg 25 .nil) (.int .i64 (.int .i64 .nil))),out:={slots:=(.dd 6 (.bool (.dd 10 .nil)))},T:=Bool,to:=fun(v:(Unit)×(Unit)×(Bool×Unit))=>v.2.2.1,of:=fun x=>((),(),(x,()))}
def topApart:=qwT DOps.ev
def qwU (o:DOps):qiO.In→Option qiO.T:=fun v=>qwT o v.2.2.1.1 v.2.2.2.1 v.2.2.2.2.1
def qwV:DSpec:=qae qiO Tryz.f46 (qwU DOps.ev)
theorem q0d:DH Tryz.prog 46 qwV:=qad (d:=qiO) (Fo:=qwU) ([]:DT) [] [] [] (trivial:DTok Tryz.prog []) (by kernel_rfl) ⟨fun o v=>by kernel_rfl⟩ Tryz.func46 Tryz.call46
def qwW (o:DOps)(s:SiteT):Option (Int) :=
 o.fix (((),((s,()),()),(0:Int),(0:Int),())) fun r1 (_,((x2,_),_),n3,n4,_)=>bif decide (n4<x2.between.length) then o.fix (((),((x2,()),()),n3,n4,(0:Int),())) fun r5 (_,((x6,_),_),n7,n8,n9,_)=>ix o x6.between n8 (dflt 7) fun z10=>bif decide (n9<z10.length) then ix o x6.between n8 (dflt 7) fun z12=>ix o z12 n9 (0:Int) fun n13=>o.letv (max n7 n13) fun n14=>inc o n9 fun n15=>r5 (((),((x6,()),()),n14,n8,n15,())) else inc o n8 fun n11=>r1 (((),((x6,()),()),n7,n11,())) else some n3
def qiP:DFn:={ro:=true,args:=(.agg (.seg 25 .nil) .nil),out:={slots:=(.dd 2 (.int .i64 (.dd 31 .nil)))},T:=Int,to:=fun(v:(Unit)×(Unit)×(Int×Unit))=>v.2.2.1,of:=fun x=>((),(),(x,()))}
def quA:=qwW DOps.ev
def qwX (o:DOps):qiP.In→Option qiP.T:=fun v=>qwW o v.2.2.1.1
def qwY:DSpec:=qae qiP Tryz.f16 (qwX DOps.ev)
theorem q0e:DH Tryz.prog 16 qwY:=qad (d:=qiP) (Fo:=qwX) ([]:DT) [(3,{slots:=(.dead (.ptr 1000 0 (.dead (.int .i64 (.int .i64 (.dd 29 .nil)))))),blks:=[(1000,.cells (.seg 25 .nil))]}),(6,{slots:=(.dead (.ptr 1000 0 (.dead (.int .i64 (.int .i64 (.int .i64 (.dd 28 .nil))))))),blks:=[(1000,.cells (.seg 25 .nil))]})] [] [] (trivial:DTok Tryz.prog []) (by kernel_rfl) ⟨fun o v=>by kernel_rfl⟩ Tryz.func16 Tryz.call16
def qoH (o:DOps)(l:List UInt8):Option (Int) :=
 o.fix (((),(),l,(0:Int),(0:Int),())) fun r1 (_,_,z2,n3,n4,_)=>bif decide (n4<z2.length) then ix o z2 n4 (0:UInt8) fun x5=>bif (↑x5.toNat:Int)==4 then inc o n3 fun n7=>inc o n4 fun n8=>r1 (((),(),z2,n7,n8,())) else inc o n4 fun n6=>r1 (((),(),z2,n3,n6,())) else some n3
def qen:DFn:={ro:=true,args:=(.sl 0 .nil),out:={slots:=(.dd 2 (.int .i64 (.dd 16 .nil)))},T:=Int,to:=fun(v:(Unit)×(Unit)×(Int×Unit))=>v.2.2.1,of:=fun x=>((),(),(x,()))}
def qgi:=qoH DOps.ev
def qoI (o:DOps):qen.In→Option qen.T:=fun v=>qoH o v.2.2.1
def qoJ:DSpec:=qae qen Tryz.f15 (qoI DOps.ev)
theorem quB:DH Tryz.prog 15 qoJ:=qad (d:=qen) (Fo:=qoI) ([]:DT) [(3,{slots:=(.sl 0 (.dd 2 (.int .i64 (.int .i64 (.dd 14 .nil)))))})] [] [] (trivial:DTok Tryz.prog []) (by kernel_rfl) ⟨fun o v=>by kernel_rfl⟩ Tryz.func15 Tryz.call15
def qlH (o:DOps)(g:Grp)(was:Int)(ran:Int)(now:Int):Option (Bool) :=
 bif was==1 then some (bif now==1 then true else now==2) else bif was==2 then some (bif now==2 then true else bif now==3 then decide (ran≥g.minf) else false) else bif was==3 then some (bif bif now==3 then decide (ran<g.yellowf) else false then true else bif now==1 then ran==g.yellowf else false) else some false
def qcY:DFn:={ro:=true,args:=(.agg (.seg 17 .nil) (.int .u8 (.int .i64 (.int .u8 .nil)))),out:={slots:=(.dd 8 (.bool (.dd 43 .nil)))},T:=Bool,to:=fun(v:(Unit)×(Unit)×(Bool×Unit))=>v.2.2.1,of:=fun x=>((),(),(x,()))}
def qoK:=qlH DOps.ev
def qlI (o:DOps):qcY.In→Option qcY.T:=fun v=>qlH o v.2.2.1.1 v.2.2.2.1 v.2.2.2.2.1 v.2.2.2.2.2.1
def qlJ:DSpec:=qae qcY Tryz.f26 (qlI DOps.ev)
theorem qqG:DH Tryz.prog 26 qlJ:=qad (d:=qcY) (Fo:=qlI) ([]:DT) [] [] [] (trivial:DTok Tryz.prog []) (by kernel_rfl) ⟨fun o v=>by kernel_rfl⟩ Tryz.func26 Tryz.call26
def q60 (o:DOps):Option (SiteT) :=
 some ({id:=(1:Int),groups:={kindf:=(1:Int),minf:=(2:Int),yellowf:=(1:Int):Grp}::{kindf:=(1:Int),minf:=(2:Int),yellowf:=(1:Int):Grp}::nilL17,apart:=UInt32.ofNat (Int.toNat (2:Int))::UInt32.ofNat (Int.toNat (1:Int))::nilL2,between:=((0:Int)::(2:Int)::qeT)::((2:Int)::(0:Int)::qeT)::nilL7,phases:={groupsf:=(1:Int),minf:=(2:Int),maxf:=(5:Int),gapf:=(1:Int),alwaysf:=false:Phs}::{groupsf:=(2:Int),minf:=(2:Int),maxf:=(5:Int),gapf:=(1:Int),alwaysf:=false:Phs}::nilL18,eyes:=nilL19,watch:=(3:Int),feed:=(2:Int),heal:=(4:Int),low:=(8:Int),high:=(20:Int),plans:=qaH:SiteT})
def quC:DFn:={ro:=false,args:=.nil,out:={slots:=(.ptr 1000 0 (.dd 13 .nil)),blks:=[(1000,.cells (.seg 25 .nil))],fz:=true},T:=SiteT,to:=fun(v:(Unit)×((SiteT×Unit)×Unit)×(Unit))=>v.2.1.1.1,of:=fun x=>((),((x,()),()),())}
def topTwo:=q60 DOps.ev
def q61 (o:DOps):quC.In→Option quC.T:=fun v=>q60 o
def q62:DSpec:=qae quC Tryz.f21 (q61 DOps.ev)
theorem q63:DH Tryz.prog 21 q62:=qad (d:=quC) (Fo:=q61) ([]:DT) [] [] [] (trivial:DTok Tryz.prog []) (by kernel_rfl) ⟨fun o v=>by kernel_rfl⟩ Tryz.func21 Tryz.call21
def q2y (o:DOps):Option (List UInt8) :=
 some (UInt8.ofNat 0::UInt8.ofNat 0::UInt8.ofNat 0::UInt8.ofNat 0::UInt8.ofNat 0::UInt8.ofNat 0::UInt8.ofNat 0::UInt8.ofNat 0::UInt8.ofNat 0::UInt8.ofNat 0::UInt8.ofNat 0::UInt8.ofNat 0::UInt8.ofNat 0::UInt8.ofNat 0::UInt8.ofNat 0::UInt8.ofNat 0::UInt8.ofNat 0::UInt8.ofNat 0::UInt8.ofNat 0::UInt8.ofNat 0::UInt8.ofNat 0::UInt8.ofNat 0::UInt8.ofNat 0::UInt8.ofNat 0::UInt8.ofNat 0::UInt8.ofNat 0::UInt8.ofNat 0::UInt8.ofNat 0::UInt8.ofNat 0::UInt8.ofNat 0::UInt8.ofNat 0::UInt8.ofNat 0::UInt8.ofNat 0::UInt8.ofNat 0::UInt8.ofNat 0::UInt8.ofNat 0::UInt8.ofNat 0::UInt8.ofNat 0::UInt8.ofNat 0::UInt8.ofNat 0::UInt8.ofNat 0::UInt8.ofNat 0::UInt8.ofNat 0::UInt8.ofNat 0::UInt8.ofNat 0::UInt8.ofNat 0::UInt8.ofNat 0::UInt8.ofNat 0::UInt8.ofNat 0::UInt8.ofNat 0::UInt8.ofNat 0::UInt8.ofNat 0::UInt8.ofNat 0::UInt8.ofNat 0::UInt8.ofNat 0::UInt8.ofNat 0::UInt8.ofNat 0::UInt8.ofNat 0::UInt8.ofNat 0::UInt8.ofNat 0::UInt8.ofNat 0::UInt8.ofNat 0::UInt8.ofNat 0::UInt8.ofNat 0::UInt8.ofNat 0::UInt8.ofNat 0::UInt8.ofNat 0::UInt8.ofNat 0::UInt8.ofNat 0::UInt8.ofNat 0::UInt8.ofNat 0::UInt8.ofNat 0::UInt8.ofNat 0::UInt8.ofNat 0::UInt8.ofNat 0::UInt8.ofNat 0::UInt8.ofNat 0::UInt8.ofNat 0::UInt8.ofNat 0::UInt8.ofNat 0::UInt8.ofNat 0::UInt8.ofNat 0::UInt8.ofNat 0::UInt8.ofNat 0::UInt8.ofNat 0::UInt8.ofNat 0::UInt8.ofNat 0::UInt8.ofNat 0::UInt8.ofNat 0::UInt8.ofNat 0::UInt8.ofNat 0::UInt8.ofNat 0::UInt8.ofNat 0::UInt8.ofNat 0::UInt8.ofNat 0::UInt8.ofNat 0::UInt8.ofNat 0::UInt8.ofNat 0::UInt8.ofNat 0::UInt8.ofNat 0::UInt8.ofNat 0::UInt8.ofNat 0::UInt8.ofNat 0::UInt8.ofNat 0::UInt8.ofNat 0::UInt8.ofNat 0::UInt8.ofNat 0::UInt8.ofNat 0::UInt8.ofNat 0::UInt8.ofNat 0::UInt8.ofNat 0::UInt8.ofNat 0::UInt8.ofNat 0::UInt8.ofNat 0::UInt8.ofNat 0::UInt8.ofNat 0::UInt8.ofNat 0::UInt8.ofNat 0::UInt8.ofNat 0::UInt8.ofNat 0::UInt8.ofNat 0::UInt8.ofNat 0::UInt8.ofNat 0::UInt8.ofNat 0::UInt8.ofNat 0::UInt8.ofNat 0::UInt8.ofNat 0::UInt8.ofNat 0::UInt8.ofNat 0::UInt8.ofNat 0::UInt8.ofNat 0::UInt8.ofNat 0::UInt8.ofNat 0::UInt8.ofNat 0::UInt8.ofNat 0::UInt8.ofNat 0::UInt8.ofNat 0::UInt8.ofNat 0::UInt8.ofNat 0::UInt8.ofNat 0::UInt8.ofNat 0::UInt8.ofNat 0::UInt8.ofNat 0::UInt8.ofNat 0::UInt8.ofNat 0::UInt8.ofNat 0::UInt8.ofNat 0::UInt8.ofNat 0::UInt8.ofNat 0::UInt8.ofNat 0::UInt8.ofNat 0::UInt8.ofNat 0::UInt8.ofNat 0::UInt8.ofNat 0::UInt8.ofNat 0::UInt8.ofNat 0::UInt8.ofNat 0::UInt8.ofNat 0::UInt8.ofNat 0::UInt8.ofNat 0::UInt8.ofNat 0::UInt8.ofNat 0::UInt8.ofNat 0::UInt8.ofNat 0::UInt8.ofNat 0::UInt8.ofNat 0::UInt8.ofNat 0::UInt8.ofNat 0::UInt8.ofNat 0::UInt8.ofNat 0::UInt8.ofNat 0::UInt8.ofNat 0::UInt8.ofNat 0::UInt8.ofNat 0::UInt8.ofNat 0::UInt8.ofNat 0::UInt8.ofNat 0::UInt8.ofNat 0::UInt8.ofNat 0::UInt8.ofNat 0::UInt8.ofNat 0::UInt8.ofNat 0::UInt8.ofNat 0::UInt8.ofNat 0::UInt8.ofNat 0::UInt8.ofNat 0::UInt8.ofNat 0::UInt8.ofNat 0::UInt8.ofNat 0::UInt8.ofNat 0::UInt8.ofNat 0::UInt8.ofNat 0::UInt8.ofNat 0::UInt8.ofNat 0::UInt8.ofNat 0::UInt8.ofNat 0::UInt8.ofNat 0::UInt8.ofNat 0::UInt8.ofNat 0::UInt8.ofNat 0::UInt8.ofNat 0::UInt8.ofNat 0::UInt8.ofNat 0::UInt8.ofNat 0::UInt8.ofNat 0::UInt8.ofNat 0::UInt8.ofNat 0::UInt8.ofNat 0::UInt8.ofNat 0::UInt8.ofNat 0::UInt8.ofNat 0::UInt8.ofNat 0::UInt8.ofNat 0::UInt8.ofNat 0::UInt8.ofNat 0::UInt8.ofNat 0::UInt8.ofNat 0::UInt8.ofNat 0::UInt8.ofNat 0::UInt8.ofNat 0::UInt8.ofNat 0::UInt8.ofNat 0::UInt8.ofNat 0::UInt8.ofNat 0::UInt8.ofNat 0::UInt8.ofNat 0::UInt8.ofNat 0::UInt8.ofNat 0::UInt8.ofNat 0::UInt8.ofNat 0::UInt8.ofNat 0::UInt8.ofNat 0::UInt8.ofNat 0::UInt8.ofNat 0::UInt8.ofNat 0::UInt8.ofNat 0::UInt8.ofNat 0::UInt8.ofNat 0::UInt8.ofNat 0::UInt8.ofNat 0::UInt8.ofNat 0::UInt8.ofNat 0::UInt8.ofNat 0::UInt8.ofNat 0::UInt8.ofNat 0::UInt8.ofNat 0::UInt8.ofNat 0::UInt8.ofNat 0::UInt8.ofNat 0::UInt8.ofNat 0::UInt8.ofNat 0::UInt8.ofNat 0::UInt8.ofNat 0::UInt8.ofNat 0::UInt8.ofNat 0::UInt8.ofNat 0::qal)
def qmH:DFn:={ro:=false,args:=.nil,out:={slots:=(.ptr 1000 0 (.dd 2 .nil)),blks:=[(1000,.cells (.sl 0 .nil))],fz:=true},T:=List UInt8,to:=fun(v:(Unit)×((List UInt8×Unit)×Unit)×(Unit))=>v.2.1.1.1,of:=fun x=>((),((x,()),()),())}
def q64:=q2y DOps.ev
def q2z (o:DOps):qmH.In→Option qmH.T:=fun v=>q2y o
def q20:DSpec:=qae qmH Tryz.f22 (q2z DOps.ev)
theorem q4a:DH Tryz.prog 22 q20:=qad (d:=qmH) (Fo:=q2z) ([]:DT) [] [] [] (trivial:DTok Tryz.prog []) (by kernel_rfl) ⟨fun o v=>by kernel_rfl⟩ Tryz.func22 Tryz.call22
def quD (o:DOps)(s:SiteT):Option (Bool) :=
 bif bif bif bif bif bif decide ((s.groups.length:Int) > 40) then true else decide ((s.apart.length:Int) > 40) then true else decide ((s.between.length:Int) > 40) then true else decide ((s.phases.length:Int) > 40) then true else decide ((s.eyes.length:Int) > 60) then true else decide ((s.plans.length:Int) > 40) then some true else o.fix (((),((s,()),()),(0:Int),())) fun r1 (_,((x2,_),_),n3,_)=>bif decide (n3<x2.between.length) then ix o x2.between n3 (dflt 7) fun z9=>bif decide ((z9.length:Int) > 40) then some true else inc o n3 fun n10=>r1 (((),((x2,()),()),n10,())) else o.fix (((),((x2,()),()),(0:Int),())) fun r4 (_,((x5,_),_),n6,_)=>bif decide (n6<x5.plans.length) then ix o x5.plans n6 (dflt 10) fun x7=>bif decide ((x7.splits.length:Int) > 40) then some true else inc o n6 fun n8=>r4 (((),((x5,()),()),n8,())) else some false
def qmI:DFn:={ro:=true,args:=(.agg (.seg 25 .nil) .nil),out:={slots:=(.dd 2 (.bool (.dd 65 .nil)))},T:=Bool,to:=fun(v:(Unit)×(Unit)×(Bool×Unit))=>v.2.2.1,of:=fun x=>((),(),(x,()))}
def q0f:=quD DOps.ev
def q21 (o:DOps):qmI.In→Option qmI.T:=fun v=>quD o v.2.2.1.1
def q22:DSpec:=qae qmI Tryz.f23 (q21 DOps.ev)
theorem q4b:DH Tryz.prog 23 q22:=qad (d:=qmI) (Fo:=q21) ([]:DT) [(4,{slots:=(.dead (.ptr 1000 0 (.dead (.int .i64 (.dd 64 .nil))))),blks:=[(1000,.cells (.seg 25 .nil))]}),(9,{slots:=(.dead (.ptr 1000 0 (.dd 2 (.int .i64 (.dd 63 .nil))))),blks:=[(1000,.cells (.seg 25 .nil))]})] [] [] (trivial:DTok Tryz.prog []) (by kernel_rfl) ⟨fun o v=>by kernel_rfl⟩ Tryz.func23 Tryz.call23
def quE (o:DOps)(l:List Inp):Option (Int) :=
 o.fix (((),(),l,(l.length:Int),(0:Int),())) fun r1 (_,_,z2,n3,n4,_)=>bif decide (n4<z2.length) then ix o z2 n4 (dflt 24) fun x5=>ix o z2 n4 (dflt 24) fun x6=>o.letv (wi ((x5.bytesf.length:Int)+(x6.backf.length:Int))) fun n7=>o.letv (wi (n3+n7)) fun n8=>inc o n4 fun n9=>r1 (((),(),z2,n8,n9,())) else some n3
def qmJ:DFn:={ro:=true,args:=(.sl 24 .nil),out:={slots:=(.dd 2 (.int .i64 (.dd 26 .nil)))},T:=Int,to:=fun(v:(Unit)×(Unit)×(Int×Unit))=>v.2.2.1,of:=fun x=>((),(),(x,()))}
def q0g:=quE DOps.ev
def q23 (o:DOps):qmJ.In→Option qmJ.T:=fun v=>quE o v.2.2.1
def q24:DSpec:=qae qmJ Tryz.f24 (q23 DOps.ev)
theorem q4c:DH Tryz.prog 24 q24:=qad (d:=qmJ) (Fo:=q23) ([]:DT) [(3,{slots:=(.sl 24 (.dd 2 (.int .i64 (.int .i64 (.dd 24 .nil)))))})] [] [] (trivial:DTok Tryz.prog []) (by kernel_rfl) ⟨fun o v=>by kernel_rfl⟩ Tryz.func24 Tryz.call24
def topSameO (o:DOps)(a:List (List UInt8))(b:List (List UInt8))(many:Int):Option (Bool) :=
 bif bif decide ((a.length:Int)<many) then true else decide ((b.length:Int)<many) then some false else o.fix (((),(),a,b,many,(0:Int),())) fun r1 (_,_,z2,z3,n4,n5,_)=>bif decide (n5<n4) then ix o z2 n5 (dflt 6) fun z6=>ix o z3 n5 (dflt 6) fun z7=>bif !z6.toArray.toList==z7.toArray.toList then some false else inc o n5 fun n8=>r1 (((),(),z2,z3,n4,n8,())) else some true
def qmK:DFn:={ro:=true,args:=(.sl 6 (.sl 6 (.int .i64 .nil))),out:={slots:=(.dd 6 (.bool (.dd 27 .nil)))},T:=Bool,to:=fun(v:(Unit)×(Unit)×(Bool×Unit))=>v.2.2.1,of:=fun x=>((),(),(x,()))}
def q25 (o:DOps):qmK.In→Option qmK.T:=fun v=>topSameO o v.2.2.1 v.2.2.2.1 v.2.2.2.2.1
def q26:DSpec:=qae qmK Tryz.f14 (q25 DOps.ev)
theorem q4d:DH Tryz.prog 14 q26:=qad (d:=qmK) (Fo:=q25) ([]:DT) [(4,{slots:=(.sl 6 (.sl 6 (.int .i64 (.dd 4 (.int .i64 (.dd 26 .nil))))))})] [] [] (trivial:DTok Tryz.prog []) (by kernel_rfl) ⟨fun o v=>by kernel_rfl⟩ Tryz.func14 Tryz.call14
def q65 (o:DOps)(lit:List UInt8)(shown:List UInt8):Option (Bool) :=
 some (bif decide ((shown.length:Int) > 0) then !lit.toArray.toList==shown.toArray.toList else false)
def qiQ:DFn:={ro:=true,args:=(.sl 0 (.sl 0 .nil)),out:={slots:=(.dd 4 (.bool (.dd 10 .nil)))},T:=Bool,to:=fun(v:(Unit)×(Unit)×(Bool×Unit))=>v.2.2.1,of:=fun x=>((),(),(x,()))}
def qwZ (o:DOps):qiQ.In→Option qiQ.T:=fun v=>q65 o v.2.2.1 v.2.2.2.1
def qxa:DSpec:=qae qiQ Tryz.f19 (qwZ DOps.ev)
theorem q0h:DH Tryz.prog 19 qxa:=qad (d:=qiQ) (Fo:=qwZ) ([]:DT) [] [] [] (trivial:DTok Tryz.prog []) (by kernel_rfl) ⟨fun o v=>by kernel_rfl⟩ Tryz.func19 Tryz.call19
def tl0:DT:=(210,mnzD)::(51,q6i)::(171,q2j)::(172,tzD .u32 qau)::(173,qeK)::(59,qnY)::(74,q2l)::(73,qoa)::(211,q6l)::(105,q2n)::(170,qwv)::(50,qod)::(106,qrv)::(167,q6o)::(199,qrx)::(203,ql6)::(63,ql8)::(123,qrz)::(99,qw1)::(168,q6r)::(104,qoh)::(206,qr1)::(179,qbW)::(120,qw4)::(147,qw6)::(45,qr3)::(125,qom)::(156,qr5)::(161,q2q)::(200,qiE)::(197,qwA)::(201,qwC)::(202,qlA)::(191,tzD .u64 qav)::(184,qot)::(129,qnP)::(209,qov)::(130,qwF)::(186,q6v)::(187,qeM)::(188,qr7)::(141,qlC)::(189,qwI)::(137,qr9)::(190,qo0)::(85,qrB)::(142,qrD)::(143,qrF)::(153,q2s)::(101,fixOfS)::(166,q2v)::(177,qrH)::(62,qlE)::(75,qiN)::(76,qhh)::(96,qlG)::(98,qo5)::(119,qo7)::(212,qrJ)::(213,qrM)::(134,qrO)::(148,qrQ)::(198,qoB)::(152,qoD)::(195,qrS)::(155,qoG)::(46,qwV)::(16,qwY)::(15,qoJ)::(26,qlJ)::(21,q62)::(22,q20)::(23,q22)::(24,q24)::(14,q26)::(19,qxa)::([]:DT)
theorem qan:DTok Tryz.prog tl0:=.cons mnz_dh <| .cons q6j <| .cons q3T <| .cons tz32_dh <| .cons qi7 <| .cons qui <| .cons q3U <| .cons qul <| .cons q6m <| .cons q3V <| .cons qzP <| .cons qup <| .cons qww <| .cons q6p <| .cons qwy <| .cons qq8 <| .cons qq9 <| .cons qwz <| .cons qzR <| .cons q6s <| .cons qut <| .cons qw2 <| .cons qeb <| .cons qzT <| .cons qzU <| .cons qw7 <| .cons quv <| .cons qw8 <| .cons q3W <| .cons qop <| .cons qzV <| .cons qzW <| .cons qqA <| .cons tz64_dh <| .cons qux <| .cons qzI <| .cons quy <| .cons qzZ <| .cons q6w <| .cons qiI <| .cons qwG <| .cons qqB <| .cons q0b <| .cons qwJ <| .cons qu1 <| .cons qwK <| .cons qwL <| .cons qwM <| .cons q3X <| .cons fixOf_ok <| .cons q3Y <| .cons qwN <| .cons qqD <| .cons qo3 <| .cons qmu <| .cons qqF <| .cons qu5 <| .cons qu6 <| .cons qwO <| .cons qwP <| .cons qwQ <| .cons qwR <| .cons qu7 <| .cons qu8 <| .cons qwS <| .cons qu9 <| .cons q0d <| .cons q0e <| .cons quB <| .cons qqG <| .cons q63 <| .cons q4a <| .cons q4b <| .cons q4c <| .cons q4d <| .cons q0h <| (trivial:DTok Tryz.prog [])
def qk5 (o:DOps)(s:SiteT):Option (Bool) :=
 o.bind (qcg (s.groups.length:Int) (1:Int) (16:Int)) fun b1=>bif bif bif !b1 then true else (s.apart.length:Int) != (s.groups.length:Int) then true else (s.between.length:Int) != (s.groups.length:Int) then some false else o.bind (qcg (s.phases.length:Int) (1:Int) (8:Int)) fun b2=>bif bif bif !b2 then true else decide ((s.eyes.length:Int) > 24) then true else decide ((s.plans.length:Int) > 8) then some false else o.fix (((),((s,()),()),(s.groups.length:Int),s.between,(s.between.length:Int),(0:Int),())) fun r3 (_,((x4,_),_),n5,z6,n7,n8,_)=>bif decide (n8<n7) then ix o z6 n8 (dflt 7) fun z9=>req (!!(z9.length:Int) != n5||decide (0≤n8)&&decide (n8<x4.apart.length)) <| o.letv (x4.apart.getD n8.toNat (0:UInt32)) fun x10=>req (!!(z9.length:Int) != n5||decide (0≤n5)) <| o.letv ((↑x10.toNat:Int).fdiv ((2:Int) ^ min n5.toNat IntKind.u32.bits)) fun n11=>bif bif (z9.length:Int) != n5 then true else n11 != 0 then some false else inc o n8 fun n12=>r3 (((),((x4,()),()),n5,z6,n7,n12,())) else some true
def qgj:DFn:={ro:=true,args:=(.agg (.seg 25 .nil) .nil),out:={slots:=(.dd 2 (.bool (.dd 65 .nil)))},T:=Bool,to:=fun(v:(Unit)×(Unit)×(Bool×Unit))=>v.2.2.1,of:=fun x=>((),(),(x,()))}
def qoL:=qk5 DOps.ev
def qrT (o:DOps):qgj.In→Option qgj.T:=fun v=>qk5 o v.2.2.1.1
def qrU:DSpec:=qae qgj Tryz.f52 (qrT DOps.ev)
theorem qxb:DH Tryz.prog 52 qrU:=qad (d:=qgj) (Fo:=qrT) tl0 [(5,{slots:=(.dead (.ptr 1000 0 (.dead (.int .i64 (.dd 42 (.sl 7 (.int .i64 (.int .i64 (.dd 19 .nil))))))))),blks:=[(1000,.cells (.seg 25 .nil))]})] [] [] qan (by kernel_rfl) ⟨fun o v=>by kernel_rfl⟩ Tryz.func52 Tryz.call52
def qk6 (o:DOps)(l:List Int):Option (Bool) :=
 o.fix (((),(),l,(l.length:Int),(0:Int),())) fun r1 (_,_,z2,n3,n4,_)=>bif decide (n4<n3) then ix o z2 n4 (0:Int) fun n5=>o.bind (qcg n5 (1:Int) (1048576:Int)) fun b6=>bif !b6 then some false else inc o n4 fun n7=>r1 (((),(),z2,n3,n7,())) else some true
def qgk:DFn:={ro:=true,args:=(.sl 1 .nil),out:={slots:=(.dd 2 (.bool (.dd 12 .nil)))},T:=Bool,to:=fun(v:(Unit)×(Unit)×(Bool×Unit))=>v.2.2.1,of:=fun x=>((),(),(x,()))}
def qcC:=qk6 DOps.ev
def qrV (o:DOps):qgk.In→Option qgk.T:=fun v=>qk6 o v.2.2.1
def qrW:DSpec:=qae qgk Tryz.f109 (qrV DOps.ev)
theorem qxc:DH Tryz.prog 109 qrW:=qad (d:=qgk) (Fo:=qrV) tl0 [(2,{slots:=(.dd 5 (.sl 1 (.int .i64 (.int .i64 (.dd 7 .nil)))))})] [] [] qan (by kernel_rfl) ⟨fun o v=>by kernel_rfl⟩ Tryz.func109 Tryz.call109
def quF (o:DOps)(s:Int)(i:Int):Option (Bool) :=
 o.bind (qnW i) fun n1=>o.letv (bits BinOp.and IntKind.u32 s n1) fun n2=>some (n2 != 0)
def qmL:DFn:={ro:=true,args:=(.int .u32 (.int .i64 .nil)),out:={slots:=(.dd 4 (.bool (.dd 5 .nil)))},T:=Bool,to:=fun(v:(Unit)×(Unit)×(Bool×Unit))=>v.2.2.1,of:=fun x=>((),(),(x,()))}
def qk7:=quF DOps.ev
def q27 (o:DOps):qmL.In→Option qmL.T:=fun v=>quF o v.2.2.1 v.2.2.2.1
def q28:DSpec:=qae qmL Tryz.f110 (q27 DOps.ev)
theorem q4e:DH Tryz.prog 110 q28:=qad (d:=qmL) (Fo:=q27) tl0 [] [] [] qan (by kernel_rfl) ⟨fun o v=>by kernel_rfl⟩ Tryz.func110 Tryz.call110
def qk8 (o:DOps)(s:Int):Option (Int) :=
 bif s==0 then some ((-1:Int)) else o.bind (qau s) fun n1=>some n1
def qgl:DFn:={ro:=true,args:=(.int .u32 .nil),out:={slots:=(.dd 2 (.int .i64 (.dd 4 .nil)))},T:=Int,to:=fun(v:(Unit)×(Unit)×(Int×Unit))=>v.2.2.1,of:=fun x=>((),(),(x,()))}
def qiR:=qk8 DOps.ev
def qrX (o:DOps):qgl.In→Option qgl.T:=fun v=>qk8 o v.2.2.1
def qrY:DSpec:=qae qgl Tryz.f111 (qrX DOps.ev)
theorem qxd:DH Tryz.prog 111 qrY:=qad (d:=qgl) (Fo:=qrX) tl0 [] [] [] qan (by kernel_rfl) ⟨fun o v=>by kernel_rfl⟩ Tryz.func111 Tryz.call111
def qfu (o:DOps)(s:Int)(i:Int):Option (Int) :=
 o.bind (qnW i) fun n1=>o.letv (bits BinOp.andNot IntKind.u32 s n1) fun n2=>some n2
def qcZ:DFn:={ro:=true,args:=(.int .u32 (.int .i64 .nil)),out:={slots:=(.dd 4 (.int .u32 (.dd 4 .nil)))},T:=Int,to:=fun(v:(Unit)×(Unit)×(Int×Unit))=>v.2.2.1,of:=fun x=>((),(),(x,()))}
def qcD:=qfu DOps.ev
def qlK (o:DOps):qcZ.In→Option qcZ.T:=fun v=>qfu o v.2.2.1 v.2.2.2.1
def qlL:DSpec:=qae qcZ Tryz.f112 (qlK DOps.ev)
theorem qqH:DH Tryz.prog 112 qlL:=qad (d:=qcZ) (Fo:=qlK) tl0 [] [] [] qan (by kernel_rfl) ⟨fun o v=>by kernel_rfl⟩ Tryz.func112 Tryz.call112
def qk9 (o:DOps)(s:Int):Option (Int) :=
 o.bind (qcA s) fun n1=>some n1
def qgm:DFn:={ro:=true,args:=(.int .u32 .nil),out:={slots:=(.dd 2 (.int .i64 (.dd 2 .nil)))},T:=Int,to:=fun(v:(Unit)×(Unit)×(Int×Unit))=>v.2.2.1,of:=fun x=>((),(),(x,()))}
def qoM:=qk9 DOps.ev
def qrZ (o:DOps):qgm.In→Option qgm.T:=fun v=>qk9 o v.2.2.1
def qsa:DSpec:=qae qgm Tryz.f113 (qrZ DOps.ev)
theorem qxe:DH Tryz.prog 113 qsa:=qad (d:=qgm) (Fo:=qrZ) tl0 [] [] [] qan (by kernel_rfl) ⟨fun o v=>by kernel_rfl⟩ Tryz.func113 Tryz.call113
def qkA (o:DOps)(d:List UInt8):Option (Int×Int) :=
 o.bind (qd3 d) fun n1=>bif n1 != 0 then some (((0:Int),n1)) else o.letv (wi ((d.length:Int).tdiv (64:Int))) fun n2=>some ((n2,(0:Int)))
def qgn:DFn:={ro:=true,args:=(.agg (.sl 0 .nil) .nil),out:={slots:=(.dd 2 (.int .i64 (.int .i64 (.dd 10 .nil))))},T:=Int×Int,to:=fun(v:(Unit)×(Unit)×(Int×Int×Unit))=>(v.2.2.1,v.2.2.2.1),of:=fun x=>((),(),(x.1,(x.2,())))}
def qd8:=qkA DOps.ev
def qsb (o:DOps):qgn.In→Option qgn.T:=fun v=>qkA o v.2.2.1.1
def qsc:DSpec:=qae qgn Tryz.f58 (qsb DOps.ev)
theorem qxf:DH Tryz.prog 58 qsc:=qad (d:=qgn) (Fo:=qsb) tl0 [] [] [] qan (by kernel_rfl) ⟨fun o v=>by kernel_rfl⟩ Tryz.func58 Tryz.call58
def qfv (o:DOps)(b:List UInt8):Option (Int) :=
 o.bind (qwt b) fun(n1,n2)=>some n1
def qda:DFn:={ro:=true,args:=(.sl 0 .nil),out:={slots:=(.dd 2 (.int .u64 (.dd 8 .nil)))},T:=Int,to:=fun(v:(Unit)×(Unit)×(Int×Unit))=>v.2.2.1,of:=fun x=>((),(),(x,()))}
def qcE:=qfv DOps.ev
def qlM (o:DOps):qda.In→Option qda.T:=fun v=>qfv o v.2.2.1
def qlN:DSpec:=qae qda Tryz.f182 (qlM DOps.ev)
theorem qqI:DH Tryz.prog 182 qlN:=qad (d:=qda) (Fo:=qlM) tl0 [] [] [] qan (by kernel_rfl) ⟨fun o v=>by kernel_rfl⟩ Tryz.func182 Tryz.call182
def qoN (o:DOps)(l:List Int):Option (List UInt8) :=
 o.fix (((qal,()),(),l,(l.length:Int),(0:Int),())) fun r1 ((z2,_),_,z3,n4,n5,_)=>bif decide (n5<n4) then ix o z3 n5 (0:Int) fun n6=>o.letv (wu n6) fun n7=>o.bind (qcQ n7) fun z8=>rm (z2.length+z8.length) 1 <| o.letv (List.take z2.length z2++List.take z8.length z8) fun z9=>inc o n5 fun n10=>rs (z2.length+z8.length) z9.length <| r1 (((z9,()),(),z3,n4,n10,())) else rs z2.length z2.length <| some z2
def qiS:DFn:={ro:=true,own:=[true],lend:=fun j=>Nat.beq j 0,args:=(.nilsl (.sl 1 .nil)),out:={slots:=(.dd 4 (.row 0 900 (.dd 15 .nil))),blks:=[(900,.row 0)],boxes:=[(4,900,0)]},T:=List (UInt8),to:=fun(v:(List (UInt8)×Unit)×(Unit)×(Unit))=>v.1.1,of:=fun x=>((x,()),(),())}
def quG:=qoN DOps.ev
def qxg (o:DOps):qiS.In→Option qiS.T:=fun v=>qoN o v.2.2.1
def qxh:DSpec:=qae qiS Tryz.f169 (qxg DOps.ev)
theorem q0i:DH Tryz.prog 169 qxh:=qad (d:=qiS) (Fo:=qxg) tl0 [(2,{slots:=(.row 0 900 (.dd 6 (.sl 1 (.int .i64 (.int .i64 (.dd 10 .nil)))))),blks:=[(900,.row 0)],boxes:=[(0,900,0)]})] [] [] qan (by kernel_rfl) ⟨fun o v=>by kernel_rfl⟩ Tryz.func169 Tryz.call169
def qhD (o:DOps)(r:List UInt8)(r2:Bool)(r3:SiteT)(most:Int):Option (Int×List UInt8×Bool×SiteT) :=
 o.bind (qkh r) fun(n1,n2,n3)=>o.letv (wu most) fun n4=>bif bif n3 != 0 then true else decide (n1 > n4) then some (((0:Int),r,true,r3)) else req (decide (0≤n2)) <| req (decide (n2≤r.length)) <| o.letv (wi n1) fun n5=>some ((n5,List.drop n2.toNat r,r2,r3))
def qeo:DFn:={ro:=false,own:=[false],args:=(.ptr 0 0 (.int .i64 .nil)),B:=[.cells (.sl 0 (.bool (.seg 25 .nil)))],out:={slots:=(.dd 4 (.int .i64 (.dd 34 .nil))),blks:=[(0,.cells (.sl 0 (.bool (.seg 25 .nil))))],fz:=true},T:=Int×List UInt8×Bool×SiteT,to:=fun(v:(Unit)×((List UInt8×Bool×SiteT×Unit)×Unit)×(Int×Unit))=>(v.2.2.1,v.2.1.1.1,v.2.1.1.2.1,v.2.1.1.2.2.1),of:=fun x=>((),((x.2.1,(x.2.2.1,(x.2.2.2,()))),()),(x.1,()))}
def qaU:=qhD DOps.ev
def qoO (o:DOps):qeo.In→Option qeo.T:=fun v=>qhD o v.2.1.1.1 v.2.1.1.2.1 v.2.1.1.2.2.1 v.2.2.1
def qoP:DSpec:=qae qeo Tryz.f218 (qoO DOps.ev)
theorem quH:DH Tryz.prog 218 qoP:=qad (d:=qeo) (Fo:=qoO) tl0 [] [] [] qan (by kernel_rfl) ⟨fun o v=>by kernel_rfl⟩ Tryz.func218 Tryz.call218
def quI (o:DOps)(r:List UInt8)(r2:Bool)(most:Int):Option (Int×List UInt8×Bool) :=
 o.bind (qkh r) fun(n1,n2,n3)=>o.letv (wu most) fun n4=>bif bif n3 != 0 then true else decide (n1 > n4) then some (((0:Int),r,true)) else req (decide (0≤n2)) <| req (decide (n2≤r.length)) <| o.letv (wi n1) fun n5=>some ((n5,List.drop n2.toNat r,r2))
def qmM:DFn:={ro:=false,own:=[false],args:=(.ptr 0 0 (.int .i64 .nil)),B:=[.cells (.sl 0 (.bool .nil))],out:={slots:=(.dd 4 (.int .i64 (.dd 34 .nil))),blks:=[(0,.cells (.sl 0 (.bool .nil)))],fz:=true},T:=Int×List UInt8×Bool,to:=fun(v:(Unit)×((List UInt8×Bool×Unit)×Unit)×(Int×Unit))=>(v.2.2.1,v.2.1.1.1,v.2.1.1.2.1),of:=fun x=>((),((x.2.1,(x.2.2,())),()),(x.1,()))}
def qhE:=quI DOps.ev
def q29 (o:DOps):qmM.In→Option qmM.T:=fun v=>quI o v.2.1.1.1 v.2.1.1.2.1 v.2.2.1
def q2A:DSpec:=qae qmM Tryz.f48 (q29 DOps.ev)
theorem q4f:DH Tryz.prog 48 q2A:=qad (d:=qmM) (Fo:=q29) tl0 [] [] [] qan (by kernel_rfl) ⟨fun o v=>by kernel_rfl⟩ Tryz.func48 Tryz.call48
def qoQ (o:DOps)(l:List Int):Option (List UInt8) :=
 o.fix (((qal,()),(),l,(l.length:Int),(0:Int),())) fun r1 ((z2,_),_,z3,n4,n5,_)=>bif decide (n5<n4) then ix o z3 n5 (0:Int) fun n6=>o.letv (wu n6) fun n7=>o.bind (qcQ n7) fun z8=>rm (z2.length+z8.length) 1 <| o.letv (List.take z2.length z2++List.take z8.length z8) fun z9=>inc o n5 fun n10=>rs (z2.length+z8.length) z9.length <| r1 (((z9,()),(),z3,n4,n10,())) else rs z2.length z2.length <| some z2
def qiT:DFn:={ro:=true,own:=[true],lend:=fun j=>Nat.beq j 0,args:=(.nilsl (.sl 1 .nil)),out:={slots:=(.dd 4 (.row 0 900 (.dd 15 .nil))),blks:=[(900,.row 0)],boxes:=[(4,900,0)]},T:=List (UInt8),to:=fun(v:(List (UInt8)×Unit)×(Unit)×(Unit))=>v.1.1,of:=fun x=>((x,()),(),())}
def qep:=qoQ DOps.ev
def qxi (o:DOps):qiT.In→Option qiT.T:=fun v=>qoQ o v.2.2.1
def qxj:DSpec:=qae qiT Tryz.f108 (qxi DOps.ev)
theorem q0j:DH Tryz.prog 108 qxj:=qad (d:=qiT) (Fo:=qxi) tl0 [(2,{slots:=(.row 0 900 (.dd 6 (.sl 1 (.int .i64 (.int .i64 (.dd 10 .nil)))))),blks:=[(900,.row 0)],boxes:=[(0,900,0)]})] [] [] qan (by kernel_rfl) ⟨fun o v=>by kernel_rfl⟩ Tryz.func108 Tryz.call108
def qeq (o:DOps)(s:SiteT):Option (Int) :=
 o.fix (((),((s,()),()),(0:Int),(s.groups.length:Int),(0:Int),())) fun r1 (_,((x2,_),_),n3,n4,n5,_)=>bif decide (n5<n4) then o.fix (((),((x2,()),()),n3,n5,n4,n5,(x2.groups.length:Int),(0:Int),())) fun r6 (_,((x7,_),_),n8,n9,n10,n11,n12,n13,_)=>bif decide (n13<n12) then o.bind (qfo x7 n9 n13) fun b15=>bif b15 then o.bind (qdY x7 n9 n13) fun n17=>o.letv (max n8 n17) fun n18=>inc o n13 fun n19=>r6 (((),((x7,()),()),n18,n9,n10,n11,n12,n19,())) else inc o n13 fun n16=>r6 (((),((x7,()),()),n8,n9,n10,n11,n12,n16,())) else inc o n11 fun n14=>r1 (((),((x7,()),()),n8,n10,n14,())) else some n3
def qcl:DFn:={ro:=true,args:=(.agg (.seg 25 .nil) .nil),out:={slots:=(.dd 2 (.int .i64 (.dd 28 .nil)))},T:=Int,to:=fun(v:(Unit)×(Unit)×(Int×Unit))=>v.2.2.1,of:=fun x=>((),(),(x,()))}
def qbX:=qeq DOps.ev
def qiU (o:DOps):qcl.In→Option qcl.T:=fun v=>qeq o v.2.2.1.1
def qiV:DSpec:=qae qcl Tryz.f165 (qiU DOps.ev)
theorem qoR:DH Tryz.prog 165 qiV:=qad (d:=qcl) (Fo:=qiU) tl0 [(3,{slots:=(.dead (.ptr 1000 0 (.dead (.int .i64 (.dd 4 (.int .i64 (.int .i64 (.dd 21 .nil)))))))),blks:=[(1000,.cells (.seg 25 .nil))]}),(6,{slots:=(.dead (.ptr 1000 0 (.dead (.int .i64 (.int .i64 (.dd 3 (.int .i64 (.int .i64 (.dd 4 (.int .i64 (.int .i64 (.dd 15 .nil)))))))))))),blks:=[(1000,.cells (.seg 25 .nil))]})] [] [] qan (by kernel_rfl) ⟨fun o v=>by kernel_rfl⟩ Tryz.func165 Tryz.call165
def qbq (o:DOps)(m:Msg):Option (List UInt8×Int) :=
 bif decide ((m.body.length:Int) > 512) then some ((qal,(3:Int))) else o.letv (wu (↑m.seq.toNat:Int)) fun n1=>o.bind (qwx n1 (4:Int)) fun(z2,n3)=>o.join (fun J4=>sm o [req (decide ((1+z2.length)*1≤140737488355328)) <| o.letv (UInt8.ofNat (↑m.kind.toNat:Int).toNat::List.append._f [] PUnit.unit (List.take z2.length z2)) fun z5=>req (decide ((1+z2.length+m.body.length)*1≤140737488355328)) <| o.letv (List.take (1+z2.length) z5++m.body) fun z6=>rs (1+z2.length+m.body.length) z6.length <| J4 (((z6,()),(),()))] (.n (.n (.l 0) (.n (.l 0) (.l 0))) (.n (.n (.l 0) (.l 0)) (.l 0)))) fun((z17,_),_,_)=>o.bind (q2o (List.take z17.length z17)) fun n18=>o.letv (wu n18) fun n19=>o.bind (qwx n19 (4:Int)) fun(z20,n21)=>rm (z17.length+z20.length) 1 <| o.letv (List.take z17.length z17++List.take z20.length z20) fun z22=>rs (z17.length+z20.length) z22.length <| some ((z22,(0:Int)))
def qdb:DFn:={ro:=true,args:=(.agg (.seg 8 .nil) .nil),out:={slots:=(.dd 2 (.row 0 902 (.int .i64 (.dd 34 .nil)))),blks:=[(902,.row 0)],boxes:=[(2,902,0)]},T:=List (UInt8)×Int,to:=fun(v:(List (UInt8)×Unit)×(Unit)×(Int×Unit))=>(v.1.1,v.2.2.1),of:=fun x=>((x.1,()),(),(x.2,()))}
def qhF:=qbq DOps.ev
def qlO (o:DOps):qdb.In→Option qdb.T:=fun v=>qbq o v.2.2.1.1
def qlP:DSpec:=qae qdb Tryz.f103 (qlO DOps.ev)
theorem qqJ (m:Msg):qbq DOps.std m=qbq DOps.ev m:=by unfold qbq;simp (disch:=first|rfl|(simp only[qaD];exact req5 _ _ _ _ _ _)|(simp only[mks];first|exact qaC _ _ _|exact qcw _ _ _ _|exact qcx _ _ _ _|exact qcy _ _ _ _|exact qcz _ _ _ _|exact qc0 _ _ _ _)) only[sm_l,sm_n,qdp,qdq,qhp,qaw,qbg];kernel_rfl
theorem qqK:DH Tryz.prog 103 qlP:=qad (d:=qdb) (Fo:=qlO) tl0 [] [(4,{slots:=(.dd 6 (.row 0 906 (.dd 31 .nil))),blks:=[(906,.row 0)],boxes:=[(6,906,0)]})] [] qan (funext fun v=>qqJ _) ⟨fun o v=>by kernel_rfl⟩ Tryz.func103 Tryz.call103
def qkB (o:DOps)(b:List UInt8):Option (Int×Int×Int×List UInt8) :=
 o.letv (wi ((b.length:Int)-4)) fun n1=>bif bif decide (n1<5) then true else decide (n1 > 517) then some (((8:Int),(0:Int),(0:Int),qal)) else req (decide ((5:Int)≤b.length)) <| o.bind (qwt (List.drop (Int.toNat (1:Int)) (List.take (Int.toNat (5:Int)) b))) fun(n2,n3)=>req (decide (0≤n1)) <| req (decide (n1≤b.length)) <| o.bind (qwt (List.drop n1.toNat b)) fun(n4,n5)=>req (decide (0≤n1)) <| req (decide (n1≤b.length)) <| o.bind (q2o (List.take n1.toNat b)) fun n6=>o.letv (wu n6) fun n7=>bif n7 != n4 then some (((8:Int),(0:Int),(0:Int),qal)) else req (decide ((0:Int)<b.length)) <| o.letv (b.getD (Int.toNat (0:Int)) (0:UInt8)) fun x8=>o.letv (wq n2) fun n9=>req (decide (5≤n1)) <| req (decide (n1≤b.length)) <| o.bind (qcq (List.drop (Int.toNat (5:Int)) (List.take n1.toNat b))) fun z10=>rs z10.length z10.length <| some (((0:Int),(↑x8.toNat:Int),n9,z10))
def qgo:DFn:={ro:=true,args:=(.sl 0 .nil),out:={slots:=(.dd 2 (.ptr 1000 0 (.int .i64 (.dd 46 .nil)))),blks:=[(1000,.cells (.int .u8 (.int .u32 (.row 0 950 .nil)))),(950,.row 0)],boxes:=[(1000202,950,0)]},T:=Int×Int×Int×List (UInt8),to:=fun(v:(List (UInt8)×Unit)×((Int×Int×Unit)×Unit)×(Int×Unit))=>(v.2.2.1,v.2.1.1.1,v.2.1.1.2.1,v.1.1),of:=fun x=>((x.2.2.2,()),((x.2.1,(x.2.2.1,())),()),(x.1,()))}
def qoS:=qkB DOps.ev
def qsd (o:DOps):qgo.In→Option qgo.T:=fun v=>qkB o v.2.2.1
def qse:DSpec:=qae qgo Tryz.f207 (qsd DOps.ev)
theorem qxk:DH Tryz.prog 207 qse:=qad (d:=qgo) (Fo:=qsd) tl0 [] [] [] qan (by kernel_rfl) ⟨fun o v=>by kernel_rfl⟩ Tryz.func207 Tryz.call207
end
end Go.Proofs.YtcdppfnjidlknaaGreatDoor
