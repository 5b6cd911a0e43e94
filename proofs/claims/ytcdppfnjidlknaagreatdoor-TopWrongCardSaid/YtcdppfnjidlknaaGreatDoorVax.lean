import Derived.Test.YtcdppfnjidlknaaGreatDoorVaw
set_option linter.unusedVariables false
set_option linter.unusedSimpArgs false
namespace Go.Proofs.YtcdppfnjidlknaaGreatDoor
open Go Go.Eng Go.Proofs
set_option maxRecDepth 8000
noncomputable section
def qzU (o:DOps)(x:Int)(from0:Int)(to:Int):Option (Bool) :=
 some (bif decide (x≥from0) then decide (x≤to) else false)
def qun:DFn:={ro:=true,args:=(.int .i64 (.int .i64 (.int .i64 .nil))),out:={slots:=(.dd 6 (.bool (.dd 8 .nil)))},T:=Bool,to:=fun(v:(Unit)×(Unit)×(Bool×Unit))=>v.2.2.1,of:=fun x=>((),(),(x,()))}
def qch:=qzU DOps.ev
def q6o (o:DOps):qun.In→Option qun.T:=fun v=>qzU o v.2.2.1 v.2.2.2.1 v.2.2.2.2.1
def q6p:DSpec:=qae qun Tryz.f51 (q6o DOps.ev)
theorem q6q:DH Tryz.prog 51 q6p:=qad (d:=qun) (Fo:=q6o) ([]:DT) [] [] [] (trivial:DTok Tryz.prog []) (by kernel_rfl) ⟨fun o v=>by kernel_rfl⟩ Tryz.func51 Tryz.call51
def qup (o:DOps)(i:Int):Option (Int) :=
 bif bif decide (i<0) then true else decide (i > 31) then some ((0:Int)) else req (decide (0≤i)) <| o.letv (wq ((1:Int)*2 ^ min i.toNat IntKind.u32.bits)) fun n1=>some n1
def qmD:DFn:={ro:=true,args:=(.int .i64 .nil),out:={slots:=(.dd 2 (.int .u32 (.dd 8 .nil)))},T:=Int,to:=fun(v:(Unit)×(Unit)×(Int×Unit))=>v.2.2.1,of:=fun x=>((),(),(x,()))}
def qob:=qup DOps.ev
def q2p (o:DOps):qmD.In→Option qmD.T:=fun v=>qup o v.2.2.1
def q2q:DSpec:=qae qmD Tryz.f171 (q2p DOps.ev)
theorem q4a:DH Tryz.prog 171 q2q:=qad (d:=qmD) (Fo:=q2p) ([]:DT) [] [] [] (trivial:DTok Tryz.prog []) (by kernel_rfl) ⟨fun o v=>by kernel_rfl⟩ Tryz.func171 Tryz.call171
def tab0:ByteArray:={data:=(([(0:UInt8),(1:UInt8),(1:UInt8),(2:UInt8),(1:UInt8),(2:UInt8),(2:UInt8),(3:UInt8),(1:UInt8),(2:UInt8),(2:UInt8),(3:UInt8),(2:UInt8),(3:UInt8),(3:UInt8),(4:UInt8),(1:UInt8),(2:UInt8),(2:UInt8),(3:UInt8),(2:UInt8),(3:UInt8),(3:UInt8),(4:UInt8),(2:UInt8),(3:UInt8),(3:UInt8),(4:UInt8),(3:UInt8),(4:UInt8),(4:UInt8),(5:UInt8),(1:UInt8),(2:UInt8),(2:UInt8),(3:UInt8),(2:UInt8),(3:UInt8),(3:UInt8),(4:UInt8),(2:UInt8),(3:UInt8),(3:UInt8),(4:UInt8),(3:UInt8),(4:UInt8),(4:UInt8),(5:UInt8),(2:UInt8),(3:UInt8),(3:UInt8),(4:UInt8),(3:UInt8),(4:UInt8),(4:UInt8),(5:UInt8),(3:UInt8),(4:UInt8),(4:UInt8),(5:UInt8),(4:UInt8),(5:UInt8),(5:UInt8),(6:UInt8)].append [(1:UInt8),(2:UInt8),(2:UInt8),(3:UInt8),(2:UInt8),(3:UInt8),(3:UInt8),(4:UInt8),(2:UInt8),(3:UInt8),(3:UInt8),(4:UInt8),(3:UInt8),(4:UInt8),(4:UInt8),(5:UInt8),(2:UInt8),(3:UInt8),(3:UInt8),(4:UInt8),(3:UInt8),(4:UInt8),(4:UInt8),(5:UInt8),(3:UInt8),(4:UInt8),(4:UInt8),(5:UInt8),(4:UInt8),(5:UInt8),(5:UInt8),(6:UInt8),(2:UInt8),(3:UInt8),(3:UInt8),(4:UInt8),(3:UInt8),(4:UInt8),(4:UInt8),(5:UInt8),(3:UInt8),(4:UInt8),(4:UInt8),(5:UInt8),(4:UInt8),(5:UInt8),(5:UInt8),(6:UInt8),(3:UInt8),(4:UInt8),(4:UInt8),(5:UInt8),(4:UInt8),(5:UInt8),(5:UInt8),(6:UInt8),(4:UInt8),(5:UInt8),(5:UInt8),(6:UInt8),(5:UInt8),(6:UInt8),(6:UInt8),(7:UInt8)]).append ([(1:UInt8),(2:UInt8),(2:UInt8),(3:UInt8),(2:UInt8),(3:UInt8),(3:UInt8),(4:UInt8),(2:UInt8),(3:UInt8),(3:UInt8),(4:UInt8),(3:UInt8),(4:UInt8),(4:UInt8),(5:UInt8),(2:UInt8),(3:UInt8),(3:UInt8),(4:UInt8),(3:UInt8),(4:UInt8),(4:UInt8),(5:UInt8),(3:UInt8),(4:UInt8),(4:UInt8),(5:UInt8),(4:UInt8),(5:UInt8),(5:UInt8),(6:UInt8),(2:UInt8),(3:UInt8),(3:UInt8),(4:UInt8),(3:UInt8),(4:UInt8),(4:UInt8),(5:UInt8),(3:UInt8),(4:UInt8),(4:UInt8),(5:UInt8),(4:UInt8),(5:UInt8),(5:UInt8),(6:UInt8),(3:UInt8),(4:UInt8),(4:UInt8),(5:UInt8),(4:UInt8),(5:UInt8),(5:UInt8),(6:UInt8),(4:UInt8),(5:UInt8),(5:UInt8),(6:UInt8),(5:UInt8),(6:UInt8),(6:UInt8),(7:UInt8)].append [(2:UInt8),(3:UInt8),(3:UInt8),(4:UInt8),(3:UInt8),(4:UInt8),(4:UInt8),(5:UInt8),(3:UInt8),(4:UInt8),(4:UInt8),(5:UInt8),(4:UInt8),(5:UInt8),(5:UInt8),(6:UInt8),(3:UInt8),(4:UInt8),(4:UInt8),(5:UInt8),(4:UInt8),(5:UInt8),(5:UInt8),(6:UInt8),(4:UInt8),(5:UInt8),(5:UInt8),(6:UInt8),(5:UInt8),(6:UInt8),(6:UInt8),(7:UInt8),(3:UInt8),(4:UInt8),(4:UInt8),(5:UInt8),(4:UInt8),(5:UInt8),(5:UInt8),(6:UInt8),(4:UInt8),(5:UInt8),(5:UInt8),(6:UInt8),(5:UInt8),(6:UInt8),(6:UInt8),(7:UInt8),(4:UInt8),(5:UInt8),(5:UInt8),(6:UInt8),(5:UInt8),(6:UInt8),(6:UInt8),(7:UInt8),(5:UInt8),(6:UInt8),(6:UInt8),(7:UInt8),(6:UInt8),(7:UInt8),(7:UInt8),(8:UInt8)])).toArray:ByteArray}
def qcd (o:DOps)(x:Int):Option (Int) :=
 o.letv (x.fdiv ((2:Int) ^ min (Int.toNat (24:Int)) IntKind.u32.bits)) fun n1=>req (decide (0≤n1)) <| req (decide (n1<(↑tab0.size:Int))) <| o.letv (qvX tab0 n1) fun n2=>o.letv (x.fdiv ((2:Int) ^ min (Int.toNat (16:Int)) IntKind.u32.bits)) fun n3=>o.letv (bits BinOp.and IntKind.u32 n3 (255:Int)) fun n4=>req (decide (0≤n4)) <| req (decide (n4<(↑tab0.size:Int))) <| o.letv (qvX tab0 n4) fun n5=>o.letv (wb (n2+n5)) fun n6=>o.letv (x.fdiv ((2:Int) ^ min (Int.toNat (8:Int)) IntKind.u32.bits)) fun n7=>o.letv (bits BinOp.and IntKind.u32 n7 (255:Int)) fun n8=>req (decide (0≤n8)) <| req (decide (n8<(↑tab0.size:Int))) <| o.letv (qvX tab0 n8) fun n9=>o.letv (wb (n6+n9)) fun n10=>o.letv (bits BinOp.and IntKind.u32 x (255:Int)) fun n11=>req (decide (0≤n11)) <| req (decide (n11<(↑tab0.size:Int))) <| o.letv (qvX tab0 n11) fun n12=>o.letv (wb (n10+n12)) fun n13=>o.letv (wi n13) fun n14=>some n14
def qbd:DFn:={ro:=true,args:=(.int .u32 .nil),out:={slots:=(.dd 2 (.int .i64 (.dd 18 .nil)))},T:=Int,to:=fun(v:(Unit)×(Unit)×(Int×Unit))=>v.2.2.1,of:=fun x=>((),(),(x,()))}
def qcA:=qcd DOps.ev
def qeL (o:DOps):qbd.In→Option qbd.T:=fun v=>qcd o v.2.2.1
def qeM:DSpec:=qae qbd Tryz.f173 (qeL DOps.ev)
theorem qiC:DH Tryz.prog 173 qeM:=qad (d:=qbd) (Fo:=qeL) ([]:DT) [] [] [] (trivial:DTok Tryz.prog []) (by kernel_rfl) ⟨fun o v=>by kernel_rfl⟩ Tryz.func173 Tryz.call173
def qh5 (o:DOps)(d:List UInt8):Option (Int) :=
 req ((!!bif decide ((d.length:Int)<64) then true else decide ((d.length:Int) > 4096))||decide ((64:Int)≠(0:Int))) <| o.letv ((d.length:Int).tmod (64:Int)) fun n1=>bif bif bif decide ((d.length:Int)<64) then true else decide ((d.length:Int) > 4096) then true else n1 != 0 then some ((180:Int)) else some ((0:Int))
def qdX:DFn:={ro:=true,args:=(.agg (.sl 0 .nil) .nil),out:={slots:=(.dd 2 (.int .i64 (.dd 15 .nil)))},T:=Int,to:=fun(v:(Unit)×(Unit)×(Int×Unit))=>v.2.2.1,of:=fun x=>((),(),(x,()))}
def qd4:=qh5 DOps.ev
def qoc (o:DOps):qdX.In→Option qdX.T:=fun v=>qh5 o v.2.2.1.1
def qod:DSpec:=qae qdX Tryz.f59 (qoc DOps.ev)
theorem quq:DH Tryz.prog 59 qod:=qad (d:=qdX) (Fo:=qoc) ([]:DT) [] [] [] (trivial:DTok Tryz.prog []) (by kernel_rfl) ⟨fun o v=>by kernel_rfl⟩ Tryz.func59 Tryz.call59
def qur (o:DOps)(d:List UInt8)(n:Int):Option (List UInt8) :=
 o.letv (wi (n*64)) fun n1=>req (decide (0≤n1)) <| req (decide (n1≤d.length)) <| req (decide ((64:Int)≤(↑(List.drop n1.toNat d).length:Int))) <| some (List.take (Int.toNat (64:Int)) (List.drop n1.toNat d))
def qmE:DFn:={ro:=false,args:=(.agg (.sl 0 .nil) (.int .i64 .nil)),out:={slots:=(.dd 4 (.sl 0 (.dd 6 .nil))),fz:=true},T:=List UInt8,to:=fun(v:(Unit)×(Unit)×(List UInt8×Unit))=>v.2.2.1,of:=fun x=>((),(),(x,()))}
def qzV:=qur DOps.ev
def q2r (o:DOps):qmE.In→Option qmE.T:=fun v=>qur o v.2.2.1.1 v.2.2.2.1
def q2s:DSpec:=qae qmE Tryz.f74 (q2r DOps.ev)
theorem q4b:DH Tryz.prog 74 q2s:=qad (d:=qmE) (Fo:=q2r) ([]:DT) [] [] [] (trivial:DTok Tryz.prog []) (by kernel_rfl) ⟨fun o v=>by kernel_rfl⟩ Tryz.func74 Tryz.call74
def qbG (o:DOps)(b:List UInt8):Option (List UInt8) :=
 bif b.isEmpty then sm o [some qal,req (decide ((0+b.length)*1≤140737488355328)) <| o.letv ([]++b) fun z2=>rs (0+b.length) z2.length <| some z2] (.n (.l 0) (.l 1)) else req (decide ((0+b.length)*1≤140737488355328)) <| o.letv ([]++b) fun z1=>rs (0+b.length) z1.length <| some z1
def qdY:DFn:={ro:=true,args:=(.sl 0 .nil),out:={slots:=(.dd 2 (.row 0 902 (.dd 5 .nil))),blks:=[(902,.row 0)],boxes:=[(2,902,0)]},T:=List (UInt8),to:=fun(v:(List (UInt8)×Unit)×(Unit)×(Unit))=>v.1.1,of:=fun x=>((x,()),(),())}
def qcr:=qbG DOps.ev
def qoe (o:DOps):qdY.In→Option qdY.T:=fun v=>qbG o v.2.2.1
def qof:DSpec:=qae qdY Tryz.f73 (qoe DOps.ev)
theorem qus (b:List UInt8):qbG DOps.std b=qbG DOps.ev b:=by cases b with|nil=>(unfold qbG;simp only[List.isEmpty_nil,cond_true,sm_l,sm_n,qdr,qds];exact qaw (by kernel_rfl))|cons x l=>kernel_rfl
theorem qut:DH Tryz.prog 73 qof:=qad (d:=qdY) (Fo:=qoe) ([]:DT) [] [] [] (trivial:DTok Tryz.prog []) (funext fun v=>qus _) ⟨fun o v=>by kernel_rfl⟩ Tryz.func73 Tryz.call73
def qzW (o:DOps)(b:List UInt8):Option (Int×Int) :=
 bif bif decide ((b.length:Int)<1) then true else decide ((b.length:Int) > 8) then some (((0:Int),(8:Int))) else o.fix (((),(),(0:Int),b,(b.length:Int),(0:Int),())) fun r1 (_,_,n2,z3,n4,n5,_)=>bif decide (n5<n4) then ix o z3 n5 (0:UInt8) fun x6=>o.letv (wu (↑x6.toNat:Int)) fun n7=>o.letv (wi ((8:Int)*n5)) fun n8=>req (decide (0≤n8)) <| o.letv (wu (n7*2 ^ min n8.toNat IntKind.u64.bits)) fun n9=>o.letv (bits BinOp.or IntKind.u64 n2 n9) fun n10=>inc o n5 fun n11=>r1 (((),(),n10,z3,n4,n11,())) else some ((n2,(0:Int)))
def quu:DFn:={ro:=true,args:=(.sl 0 .nil),out:={slots:=(.dd 2 (.int .u64 (.int .i64 (.dd 26 .nil))))},T:=Int×Int,to:=fun(v:(Unit)×(Unit)×(Int×Int×Unit))=>(v.2.2.1,v.2.2.2.1),of:=fun x=>((),(),(x.1,(x.2,())))}
def qw2:=qzW DOps.ev
def q6r (o:DOps):quu.In→Option quu.T:=fun v=>qzW o v.2.2.1
def q6s:DSpec:=qae quu Tryz.f211 (q6r DOps.ev)
theorem q6t:DH Tryz.prog 211 q6s:=qad (d:=quu) (Fo:=q6r) ([]:DT) [(4,{slots:=(.dd 2 (.int .u64 (.dd 11 (.sl 0 (.int .i64 (.int .i64 (.dd 13 .nil)))))))})] [] [] (trivial:DTok Tryz.prog []) (by kernel_rfl) ⟨fun o v=>by kernel_rfl⟩ Tryz.func211 Tryz.call211
def quv (o:DOps)(b:List UInt8):Option (Int×Int×Int) :=
 o.fix (((),(),(0:Int),b,(b.length:Int),(0:Int),())) fun r1 (_,_,n2,z3,n4,n5,_)=>bif decide (n5<n4) then ix o z3 n5 (0:UInt8) fun x6=>bif bif n5==9 then decide ((↑x6.toNat:Int) > 1) else false then some (((0:Int),(0:Int),(8:Int))) else o.letv (bits BinOp.and IntKind.u8 (↑x6.toNat:Int) (127:Int)) fun n7=>o.letv (wu n7) fun n8=>o.letv (wi ((7:Int)*n5)) fun n9=>req (decide (0≤n9)) <| o.letv (wu (n8*2 ^ min n9.toNat IntKind.u64.bits)) fun n10=>o.letv (bits BinOp.or IntKind.u64 n2 n10) fun n11=>bif decide ((↑x6.toNat:Int)<128) then bif bif (↑x6.toNat:Int)==0 then decide (n5 > 0) else false then some (((0:Int),(0:Int),(8:Int))) else inc o n5 fun n13=>some ((n11,n13,(0:Int))) else inc o n5 fun n12=>r1 (((),(),n11,z3,n4,n12,())) else some (((0:Int),(0:Int),(8:Int)))
def qmF:DFn:={ro:=true,args:=(.sl 0 .nil),out:={slots:=(.dd 2 (.int .u64 (.int .i64 (.int .i64 (.dd 36 .nil)))))},T:=Int×Int×Int,to:=fun(v:(Unit)×(Unit)×(Int×Int×Int×Unit))=>(v.2.2.1,v.2.2.2.1,v.2.2.2.2.1),of:=fun x=>((),(),(x.1,(x.2.1,(x.2.2,()))))}
def qkl:=quv DOps.ev
def q2t (o:DOps):qmF.In→Option qmF.T:=fun v=>quv o v.2.2.1
def q2u:DSpec:=qae qmF Tryz.f105 (q2t DOps.ev)
theorem q4c:DH Tryz.prog 105 q2u:=qad (d:=qmF) (Fo:=q2t) ([]:DT) [(3,{slots:=(.dd 5 (.int .u64 (.dd 2 (.sl 0 (.int .i64 (.int .i64 (.dd 30 .nil)))))))})] [] [] (trivial:DTok Tryz.prog []) (by kernel_rfl) ⟨fun o v=>by kernel_rfl⟩ Tryz.func105 Tryz.call105
def qog (o:DOps)(n:Int):Option (List UInt8) :=
 o.fix (((qal,()),(),n,())) fun r1 ((z2,_),_,n3,_)=>bif decide (n3 > 127) then o.letv (wb n3) fun n6=>o.letv (bits BinOp.or IntKind.u8 n6 (128:Int)) fun n7=>rm (z2.length+1) 1 <| o.letv (List.take z2.length z2++[UInt8.ofNat n7.toNat]) fun z8=>o.letv (n3.fdiv ((2:Int) ^ min (Int.toNat (7:Int)) IntKind.u64.bits)) fun n9=>rs (z2.length+1) z8.length <| r1 (((z8,()),(),n9,())) else o.letv (wb n3) fun n4=>rm (z2.length+1) 1 <| o.letv (List.take z2.length z2++[UInt8.ofNat n4.toNat]) fun z5=>rs (z2.length+1) z5.length <| some z5
def qiD:DFn:={ro:=true,args:=(.int .u64 .nil),out:={slots:=(.dd 2 (.row 0 902 (.dd 16 .nil))),blks:=[(902,.row 0)],boxes:=[(2,902,0)]},T:=List (UInt8),to:=fun(v:(List (UInt8)×Unit)×(Unit)×(Unit))=>v.1.1,of:=fun x=>((x,()),(),())}
def qcR:=qog DOps.ev
def qw3 (o:DOps):qiD.In→Option qiD.T:=fun v=>qog o v.2.2.1
def qw4:DSpec:=qae qiD Tryz.f170 (qw3 DOps.ev)
theorem qzX:DH Tryz.prog 170 qw4:=qad (d:=qiD) (Fo:=qw3) ([]:DT) [(2,{slots:=(.int .u64 (.dd 2 (.row 0 903 (.dd 15 .nil)))),blks:=[(903,.row 0)],boxes:=[(3,903,0)]})] [] [] (trivial:DTok Tryz.prog []) (by kernel_rfl) ⟨fun o v=>by kernel_rfl⟩ Tryz.func170 Tryz.call170
def qh6 (o:DOps)(a:List UInt8)(b:List UInt8):Option (Bool) :=
 some (a.toArray.toList==b.toArray.toList)
def qdZ:DFn:={ro:=true,args:=(.sl 0 (.sl 0 .nil)),out:={slots:=(.dd 4 (.bool (.dd 5 .nil)))},T:=Bool,to:=fun(v:(Unit)×(Unit)×(Bool×Unit))=>v.2.2.1,of:=fun x=>((),(),(x,()))}
def qd5:=qh6 DOps.ev
def qoh (o:DOps):qdZ.In→Option qdZ.T:=fun v=>qh6 o v.2.2.1 v.2.2.2.1
def qoi:DSpec:=qae qdZ Tryz.f50 (qoh DOps.ev)
theorem quw:DH Tryz.prog 50 qoi:=qad (d:=qdZ) (Fo:=qoh) ([]:DT) [] [] [] (trivial:DTok Tryz.prog []) (by kernel_rfl) ⟨fun o v=>by kernel_rfl⟩ Tryz.func50 Tryz.call50
def qkm (o:DOps)(n:Int):Option (Bool) :=
 some (bif decide (n≥0) then decide (n≤65535) else false)
def qfT:DFn:={ro:=true,args:=(.int .i64 .nil),out:={slots:=(.dd 2 (.bool (.dd 6 .nil)))},T:=Bool,to:=fun(v:(Unit)×(Unit)×(Bool×Unit))=>v.2.2.1,of:=fun x=>((),(),(x,()))}
def qiE:=qkm DOps.ev
def qr1 (o:DOps):qfT.In→Option qfT.T:=fun v=>qkm o v.2.2.1
def qr2:DSpec:=qae qfT Tryz.f106 (qr1 DOps.ev)
theorem qw5:DH Tryz.prog 106 qr2:=qad (d:=qfT) (Fo:=qr1) ([]:DT) [] [] [] (trivial:DTok Tryz.prog []) (by kernel_rfl) ⟨fun o v=>by kernel_rfl⟩ Tryz.func106 Tryz.call106
def qzY (o:DOps)(n:Int)(width:Int):Option (List UInt8×Int) :=
 o.letv (wi ((8:Int)*width)) fun n1=>req (!decide (width<8)||((!!bif decide (width<1) then true else decide (width > 8))||decide (0≤n1))) <| o.letv (n.fdiv ((2:Int) ^ min n1.toNat IntKind.u64.bits)) fun n2=>bif bif bif decide (width<1) then true else decide (width > 8) then true else bif decide (width<8) then n2 != 0 else false then some ((qal,(2:Int))) else req (decide (0≤width∧width≤width∧width*(↑1:Int)≤140737488355328)) <| rs width.toNat (List.replicate width.toNat (UInt8.ofNat 0)).length <| o.fix (((List.replicate width.toNat (UInt8.ofNat 0),()),(),n,(↑width.toNat:Int),(0:Int),())) fun r3 ((z4,_),_,n5,n6,n7,_)=>bif decide (n7<n6) then o.letv (wi ((8:Int)*n7)) fun n8=>req (decide (0≤n8)) <| o.letv (n5.fdiv ((2:Int) ^ min n8.toNat IntKind.u64.bits)) fun n9=>o.letv (wb n9) fun n10=>rb n7 z4.length <| req (decide (0+n7.toNat<z4.length)) <| o.letv (z4.set (0+n7.toNat) (UInt8.ofNat n10.toNat)) fun z11=>inc o n7 fun n12=>rs z4.length z11.length <| r3 (((z11,()),(),n5,n6,n12,())) else rs z4.length z4.length <| some ((z4,(0:Int)))
def qux:DFn:={ro:=true,args:=(.int .u64 (.int .i64 .nil)),out:={slots:=(.dd 4 (.row 0 904 (.int .i64 (.dd 36 .nil)))),blks:=[(904,.row 0)],boxes:=[(4,904,0)]},T:=List (UInt8)×Int,to:=fun(v:(List (UInt8)×Unit)×(Unit)×(Int×Unit))=>(v.1.1,v.2.2.1),of:=fun x=>((x.1,()),(),(x.2,()))}
def qw6:=qzY DOps.ev
def q6u (o:DOps):qux.In→Option qux.T:=fun v=>qzY o v.2.2.1 v.2.2.2.1
def q6v:DSpec:=qae qux Tryz.f167 (q6u DOps.ev)
theorem q6w:DH Tryz.prog 167 q6v:=qad (d:=qux) (Fo:=q6u) ([]:DT) [(5,{slots:=(.int .u64 (.dd 5 (.row 0 4001 (.dd 21 (.int .i64 (.int .i64 (.dd 12 .nil))))))),blks:=[(4001,.row 0)]})] [] [] (trivial:DTok Tryz.prog []) (by kernel_rfl) ⟨fun o v=>by kernel_rfl⟩ Tryz.func167 Tryz.call167
def qkn (o:DOps)(s:SiteT)(a:Int)(b:Int):Option (Bool) :=
 ix o s.apart a (0:UInt32) fun x1=>req (decide (0≤b)) <| o.letv ((↑x1.toNat:Int).fdiv ((2:Int) ^ min b.toNat IntKind.u32.bits)) fun n2=>o.letv (bits BinOp.and IntKind.u32 n2 (1:Int)) fun n3=>some (n3==1)
def qfU:DFn:={ro:=true,args:=(.agg (.seg 25 .nil) (.int .i64 (.int .i64 .nil))),out:={slots:=(.dd 6 (.bool (.dd 9 .nil)))},T:=Bool,to:=fun(v:(Unit)×(Unit)×(Bool×Unit))=>v.2.2.1,of:=fun x=>((),(),(x,()))}
def qfq:=qkn DOps.ev
def qr3 (o:DOps):qfU.In→Option qfU.T:=fun v=>qkn o v.2.2.1.1 v.2.2.2.1 v.2.2.2.2.1
def qr4:DSpec:=qae qfU Tryz.f199 (qr3 DOps.ev)
theorem qw7:DH Tryz.prog 199 qr4:=qad (d:=qfU) (Fo:=qr3) ([]:DT) [] [] [] (trivial:DTok Tryz.prog []) (by kernel_rfl) ⟨fun o v=>by kernel_rfl⟩ Tryz.func199 Tryz.call199
def qfr (o:DOps)(s:SiteT)(a:Int)(b:Int):Option (Int) :=
 ix o s.between a (dflt 7) fun z1=>ix o z1 b (0:Int) fun n2=>some n2
def qcS:DFn:={ro:=true,args:=(.agg (.seg 25 .nil) (.int .i64 (.int .i64 .nil))),out:={slots:=(.dd 6 (.int .i64 (.dd 8 .nil)))},T:=Int,to:=fun(v:(Unit)×(Unit)×(Int×Unit))=>v.2.2.1,of:=fun x=>((),(),(x,()))}
def qea:=qfr DOps.ev
def ql9 (o:DOps):qcS.In→Option qcS.T:=fun v=>qfr o v.2.2.1.1 v.2.2.2.1 v.2.2.2.2.1
def qlA:DSpec:=qae qcS Tryz.f203 (ql9 DOps.ev)
theorem qqE:DH Tryz.prog 203 qlA:=qad (d:=qcS) (Fo:=ql9) ([]:DT) [] [] [] (trivial:DTok Tryz.prog []) (by kernel_rfl) ⟨fun o v=>by kernel_rfl⟩ Tryz.func203 Tryz.call203
def qfs (o:DOps)(kept:Int):Option (Int×Int×Bool) :=
 bif bif kept==2 then true else kept==3 then some (((2:Int),(0:Int),false)) else some (((1:Int),(0:Int),false))
def qcT:DFn:={ro:=true,args:=(.int .u8 .nil),out:={slots:=(.dd 2 (.ptr 1000 0 (.dd 10 .nil))),blks:=[(1000,.cells (.int .u8 (.int .i64 (.bool .nil))))]},T:=Int×Int×Bool,to:=fun(v:(Unit)×((Int×Int×Bool×Unit)×Unit)×(Unit))=>(v.2.1.1.1,v.2.1.1.2.1,v.2.1.1.2.2.1),of:=fun x=>((),((x.1,(x.2.1,(x.2.2,()))),()),())}
def qeb:=qfs DOps.ev
def qlB (o:DOps):qcT.In→Option qcT.T:=fun v=>qfs o v.2.2.1
def qlC:DSpec:=qae qcT Tryz.f63 (qlB DOps.ev)
theorem qqF:DH Tryz.prog 63 qlC:=qad (d:=qcT) (Fo:=qlB) ([]:DT) [] [] [] (trivial:DTok Tryz.prog []) (by kernel_rfl) ⟨fun o v=>by kernel_rfl⟩ Tryz.func63 Tryz.call63
def qko (o:DOps)(l:Bool)(l2:Int)(l3:Int):Option (Int) :=
 bif bif bif decide (l3<0) then true else decide (l3 > 1048576) then true else bif !l then l2 != 0 else false then some ((8:Int)) else some ((0:Int))
def qfV:DFn:={ro:=true,args:=(.agg (.bool (.int .u32 (.int .i64 .nil))) .nil),out:={slots:=(.dd 2 (.int .i64 (.dd 18 .nil)))},T:=Int,to:=fun(v:(Unit)×(Unit)×(Int×Unit))=>v.2.2.1,of:=fun x=>((),(),(x,()))}
def qoj:=qko DOps.ev
def qr5 (o:DOps):qfV.In→Option qfV.T:=fun v=>qko o v.2.2.1.1 v.2.2.1.2.1 v.2.2.1.2.2.1
def qr6:DSpec:=qae qfV Tryz.f123 (qr5 DOps.ev)
theorem qw8:DH Tryz.prog 123 qr6:=qad (d:=qfV) (Fo:=qr5) ([]:DT) [] [] [] (trivial:DTok Tryz.prog []) (by kernel_rfl) ⟨fun o v=>by kernel_rfl⟩ Tryz.func123 Tryz.call123
def qok (o:DOps)(last:Int):Option (Int×Int) :=
 bif last==4294967295 then some (((0:Int),(2:Int))) else o.letv (wq (last+1)) fun n1=>some ((n1,(0:Int)))
def qiF:DFn:={ro:=true,args:=(.int .u32 .nil),out:={slots:=(.dd 2 (.int .u32 (.int .i64 (.dd 4 .nil))))},T:=Int×Int,to:=fun(v:(Unit)×(Unit)×(Int×Int×Unit))=>(v.2.2.1,v.2.2.2.1),of:=fun x=>((),(),(x.1,(x.2,())))}
def quy:=qok DOps.ev
def qw9 (o:DOps):qiF.In→Option qiF.T:=fun v=>qok o v.2.2.1
def qwA:DSpec:=qae qiF Tryz.f99 (qw9 DOps.ev)
theorem qzZ:DH Tryz.prog 99 qwA:=qad (d:=qiF) (Fo:=qw9) ([]:DT) [] [] [] (trivial:DTok Tryz.prog []) (by kernel_rfl) ⟨fun o v=>by kernel_rfl⟩ Tryz.func99 Tryz.call99
def q0a (o:DOps)(b:List UInt8):Option (Int) :=
 o.fix (((UInt32.ofNat (Int.toNat (0:Int))::UInt32.ofNat (Int.toNat (498536548:Int))::UInt32.ofNat (Int.toNat (997073096:Int))::UInt32.ofNat (Int.toNat (651767980:Int))::UInt32.ofNat (Int.toNat (1994146192:Int))::UInt32.ofNat (Int.toNat (1802195444:Int))::UInt32.ofNat (Int.toNat (1303535960:Int))::UInt32.ofNat (Int.toNat (1342533948:Int))::UInt32.ofNat (Int.toNat (3988292384:Int))::UInt32.ofNat (Int.toNat (4027552580:Int))::UInt32.ofNat (Int.toNat (3604390888:Int))::UInt32.ofNat (Int.toNat (3412177804:Int))::UInt32.ofNat (Int.toNat (2607071920:Int))::UInt32.ofNat (Int.toNat (2262029012:Int))::UInt32.ofNat (Int.toNat (2685067896:Int))::UInt32.ofNat (Int.toNat (3183342108:Int))::nilL2,()),(),(4294967295:Int),b,(b.length:Int),(0:Int),())) fun r1 ((z2,_),_,n3,z4,n5,n6,_)=>bif decide (n6<n5) then ix o z4 n6 (0:UInt8) fun x8=>o.letv (n3.fdiv ((2:Int) ^ min (Int.toNat (4:Int)) IntKind.u32.bits)) fun n9=>o.letv (wq (↑x8.toNat:Int)) fun n10=>o.letv (bits BinOp.xor IntKind.u32 n3 n10) fun n11=>o.letv (bits BinOp.and IntKind.u32 n11 (15:Int)) fun n12=>req (decide (0≤n12)) <| req (decide (n12<(↑16:Int))) <| req (decide (n12.toNat<z2.length)) <| o.letv ((↑(z2.getD n12.toNat (0:UInt32)).toNat:Int)) fun n13=>o.letv (bits BinOp.xor IntKind.u32 n9 n13) fun n14=>o.letv (n14.fdiv ((2:Int) ^ min (Int.toNat (4:Int)) IntKind.u32.bits)) fun n15=>o.letv ((↑x8.toNat:Int).fdiv ((2:Int) ^ min (Int.toNat (4:Int)) IntKind.u8.bits)) fun n16=>o.letv (wq n16) fun n17=>o.letv (bits BinOp.xor IntKind.u32 n14 n17) fun n18=>o.letv (bits BinOp.and IntKind.u32 n18 (15:Int)) fun n19=>req (decide (0≤n19)) <| req (decide (n19<(↑16:Int))) <| req (decide (n19.toNat<z2.length)) <| o.letv ((↑(z2.getD n19.toNat (0:UInt32)).toNat:Int)) fun n20=>o.letv (bits BinOp.xor IntKind.u32 n15 n20) fun n21=>inc o n6 fun n22=>r1 (((z2,()),(),n21,z4,n5,n22,())) else o.letv (bits BinOp.xor IntKind.u32 (4294967295:Int) n3) fun n7=>some n7
def quz:DFn:={ro:=true,args:=(.sl 0 .nil),out:={slots:=(.dd 2 (.int .u32 (.dd 35 .nil)))},T:=Int,to:=fun(v:(Unit)×(Unit)×(Int×Unit))=>v.2.2.1,of:=fun x=>((),(),(x,()))}
def q2v:=q0a DOps.ev
def q6x (o:DOps):quz.In→Option quz.T:=fun v=>q0a o v.2.2.1
def q6y:DSpec:=qae quz Tryz.f168 (q6x DOps.ev)
theorem q6z:DH Tryz.prog 168 q6y:=qad (d:=quz) (Fo:=q6x) ([]:DT) [(4,{slots:=(.dd 3 (.ptr 2001 0 (.int .u32 (.dd 3 (.sl 0 (.int .i64 (.int .i64 (.dd 27 .nil)))))))),blks:=[(2001,.row 2)]})] [] [] (trivial:DTok Tryz.prog []) (by kernel_rfl) ⟨fun o v=>by kernel_rfl⟩ Tryz.func168 Tryz.call168
def qh7 (o:DOps)(b:List UInt8):Option (List UInt8) :=
 req (decide ((0:Int)≤0∧(0:Int)≤b.length∧(b.length:Int)*(↑1:Int)≤140737488355328)) <| o.fix (((qal,()),(),b,(b.length:Int),(0:Int),())) fun r1 ((z2,_),_,z3,n4,n5,_)=>bif decide (n5<n4) then ix o z3 n5 (0:UInt8) fun x6=>bif bif (↑x6.toNat:Int)==125 then true else (↑x6.toNat:Int)==126 then rm (z2.length+1) 1 <| o.letv (List.take z2.length z2++[UInt8.ofNat 125]) fun z9=>o.letv (wb ((↑x6.toNat:Int)-32)) fun n10=>req (decide ((z2.length+1+1)*1≤140737488355328)) <| o.letv (List.take (z2.length+1) z9++[UInt8.ofNat n10.toNat]) fun z11=>inc o n5 fun n12=>rs (z2.length+1+1) z11.length <| r1 (((z11,()),(),z3,n4,n12,())) else rm (z2.length+1) 1 <| o.letv (List.take z2.length z2++[UInt8.ofNat (↑x6.toNat:Int).toNat]) fun z7=>inc o n5 fun n8=>rs (z2.length+1) z7.length <| r1 (((z7,()),(),z3,n4,n8,())) else rs z2.length z2.length <| some z2
def qec:DFn:={ro:=true,args:=(.sl 0 .nil),out:={slots:=(.dd 2 (.row 0 902 (.dd 29 .nil))),blks:=[(902,.row 0)],boxes:=[(2,902,0)]},T:=List (UInt8),to:=fun(v:(List (UInt8)×Unit)×(Unit)×(Unit))=>v.1.1,of:=fun x=>((x,()),(),())}
def qkp:=qh7 DOps.ev
def qol (o:DOps):qec.In→Option qec.T:=fun v=>qh7 o v.2.2.1
def qom:DSpec:=qae qec Tryz.f104 (qol DOps.ev)
theorem qu0:DH Tryz.prog 104 qom:=qad (d:=qec) (Fo:=qol) ([]:DT) [(3,{slots:=(.dd 3 (.row 0 903 (.dd 5 (.sl 0 (.int .i64 (.int .i64 (.dd 20 .nil))))))),blks:=[(903,.row 0)],boxes:=[(3,903,0)]})] [] [] (trivial:DTok Tryz.prog []) (by kernel_rfl) ⟨fun o v=>by kernel_rfl⟩ Tryz.func104 Tryz.call104
def qkq (o:DOps)(b:List UInt8):Option (List UInt8×Int) :=
 req (decide ((0:Int)≤0∧(0:Int)≤b.length∧(b.length:Int)*(↑1:Int)≤140737488355328)) <| o.fix (((qal,()),(),false,b,(b.length:Int),(0:Int),())) fun r1 ((z2,_),_,b3,z4,n5,n6,_)=>bif decide (n6<n5) then ix o z4 n6 (0:UInt8) fun x7=>bif bif bif b3 then (↑x7.toNat:Int) != 93 else false then (↑x7.toNat:Int) != 94 else false then bif bif bif b3 then (↑x7.toNat:Int) != 93 else false then (↑x7.toNat:Int) != 94 else false then some ((qal,(8:Int))) else bif b3 then o.letv (wb ((↑x7.toNat:Int)+32)) fun n17=>rm (z2.length+1) 1 <| o.letv (List.take z2.length z2++[UInt8.ofNat n17.toNat]) fun z18=>inc o n6 fun n19=>rs (z2.length+1) z18.length <| r1 (((z18,()),(),false,z4,n5,n19,())) else bif (↑x7.toNat:Int)==125 then inc o n6 fun n16=>rs z2.length z2.length <| r1 (((z2,()),(),true,z4,n5,n16,())) else rm (z2.length+1) 1 <| o.letv (List.take z2.length z2++[UInt8.ofNat (↑x7.toNat:Int).toNat]) fun z14=>inc o n6 fun n15=>rs (z2.length+1) z14.length <| r1 (((z14,()),(),b3,z4,n5,n15,())) else bif (↑x7.toNat:Int)==126 then some ((qal,(8:Int))) else bif b3 then o.letv (wb ((↑x7.toNat:Int)+32)) fun n11=>rm (z2.length+1) 1 <| o.letv (List.take z2.length z2++[UInt8.ofNat n11.toNat]) fun z12=>inc o n6 fun n13=>rs (z2.length+1) z12.length <| r1 (((z12,()),(),false,z4,n5,n13,())) else bif (↑x7.toNat:Int)==125 then inc o n6 fun n10=>rs z2.length z2.length <| r1 (((z2,()),(),true,z4,n5,n10,())) else rm (z2.length+1) 1 <| o.letv (List.take z2.length z2++[UInt8.ofNat (↑x7.toNat:Int).toNat]) fun z8=>inc o n6 fun n9=>rs (z2.length+1) z8.length <| r1 (((z8,()),(),b3,z4,n5,n9,())) else bif b3 then some ((qal,(8:Int))) else rs z2.length z2.length <| some ((z2,(0:Int)))
def qfW:DFn:={ro:=true,args:=(.sl 0 .nil),out:={slots:=(.dd 2 (.row 0 902 (.int .i64 (.dd 42 .nil)))),blks:=[(902,.row 0)],boxes:=[(2,902,0)]},T:=List (UInt8)×Int,to:=fun(v:(List (UInt8)×Unit)×(Unit)×(Int×Unit))=>(v.1.1,v.2.2.1),of:=fun x=>((x.1,()),(),(x.2,()))}
def qon:=qkq DOps.ev
def qr7 (o:DOps):qfW.In→Option qfW.T:=fun v=>qkq o v.2.2.1
def qr8:DSpec:=qae qfW Tryz.f206 (qr7 DOps.ev)
theorem qwB:DH Tryz.prog 206 qr8:=qad (d:=qfW) (Fo:=qr7) ([]:DT) [(4,{slots:=(.dd 4 (.row 0 904 (.bool (.dd 5 (.sl 0 (.int .i64 (.int .i64 (.dd 32 .nil)))))))),blks:=[(904,.row 0)],boxes:=[(4,904,0)]})] [] [] (trivial:DTok Tryz.prog []) (by kernel_rfl) ⟨fun o v=>by kernel_rfl⟩ Tryz.func206 Tryz.call206
def qaS (o:DOps)(s:List UInt8)(c:Int):Option (Int) :=
 o.letv (wi ((s.length:Int)-1)) fun n1=>o.fix (((),(),s,c,n1,())) fun r2 (_,_,z3,n4,n5,_)=>bif decide (n5≥0) then ix o z3 n5 (0:UInt8) fun x6=>bif (↑x6.toNat:Int)==n4 then some n5 else o.letv (wi (n5-1)) fun n7=>r2 (((),(),z3,n4,n7,())) else some ((-1:Int))
def qa7:DFn:={ro:=true,args:=(.sl 0 (.int .u8 .nil)),out:={slots:=(.dd 4 (.int .i64 (.dd 15 .nil)))},T:=Int,to:=fun(v:(Unit)×(Unit)×(Int×Unit))=>v.2.2.1,of:=fun x=>((),(),(x,()))}
def qaX:=qaS DOps.ev
def qbW (o:DOps):qa7.In→Option qa7.T:=fun v=>qaS o v.2.2.1 v.2.2.2.1
def qbX:DSpec:=qae qa7 Tryz.f179 (qbW DOps.ev)
theorem qed:DH Tryz.prog 179 qbX:=qad (d:=qa7) (Fo:=qbW) ([]:DT) [(2,{slots:=(.sl 0 (.int .u8 (.dd 3 (.int .i64 (.dd 14 .nil)))))})] [] [] (trivial:DTok Tryz.prog []) (by kernel_rfl) ⟨fun o v=>by kernel_rfl⟩ Tryz.func179 Tryz.call179
def qoo (o:DOps):Option (Bool×Bool×Bool) :=
 some ((false,false,true))
def qiG:DFn:={ro:=true,args:=.nil,out:={slots:=(.ptr 2001 0 (.dd 2 .nil)),blks:=[(2001,.cells (.nilsl (.bool (.bool (.bool .nil)))))]},T:=Bool×Bool×Bool,to:=fun(v:(Unit)×((Bool×Bool×Bool×Unit)×Unit)×(Unit))=>(v.2.1.1.1,v.2.1.1.2.1,v.2.1.1.2.2.1),of:=fun x=>((),((x.1,(x.2.1,(x.2.2,()))),()),())}
def qu1:=qoo DOps.ev
def qwC (o:DOps):qiG.In→Option qiG.T:=fun v=>qoo o
def qwD:DSpec:=qae qiG Tryz.f120 (qwC DOps.ev)
theorem q0b:DH Tryz.prog 120 qwD:=qad (d:=qiG) (Fo:=qwC) ([]:DT) [] [] [] (trivial:DTok Tryz.prog []) (by kernel_rfl) ⟨fun o v=>by kernel_rfl⟩ Tryz.func120 Tryz.call120
def qop (o:DOps)(s:SiteT)(phase:Int):Option (Int) :=
 inc o phase fun n1=>req (decide ((s.phases.length:Int)≠(0:Int))) <| o.letv (n1.tmod (s.phases.length:Int)) fun n2=>some n2
def qiH:DFn:={ro:=true,args:=(.agg (.seg 25 .nil) (.int .i64 .nil)),out:={slots:=(.dd 4 (.int .i64 (.dd 6 .nil)))},T:=Int,to:=fun(v:(Unit)×(Unit)×(Int×Unit))=>v.2.2.1,of:=fun x=>((),(),(x,()))}
def qmG:=qop DOps.ev
def qwE (o:DOps):qiH.In→Option qiH.T:=fun v=>qop o v.2.2.1.1 v.2.2.2.1
def qwF:DSpec:=qae qiH Tryz.f147 (qwE DOps.ev)
theorem q0c:DH Tryz.prog 147 qwF:=qad (d:=qiH) (Fo:=qwE) ([]:DT) [] [] [] (trivial:DTok Tryz.prog []) (by kernel_rfl) ⟨fun o v=>by kernel_rfl⟩ Tryz.func147 Tryz.call147
def qkr (o:DOps)(n:Int)(most:Int):Option (Int) :=
 inc o n fun n1=>o.letv (min n1 most) fun n2=>some n2
def qfX:DFn:={ro:=true,args:=(.int .i64 (.int .i64 .nil)),out:={slots:=(.dd 4 (.int .i64 (.dd 4 .nil)))},T:=Int,to:=fun(v:(Unit)×(Unit)×(Int×Unit))=>v.2.2.1,of:=fun x=>((),(),(x,()))}
def qax:=qkr DOps.ev
def qr9 (o:DOps):qfX.In→Option qfX.T:=fun v=>qkr o v.2.2.1 v.2.2.2.1
def qrA:DSpec:=qae qfX Tryz.f45 (qr9 DOps.ev)
theorem qwG:DH Tryz.prog 45 qrA:=qad (d:=qfX) (Fo:=qr9) ([]:DT) [] [] [] (trivial:DTok Tryz.prog []) (by kernel_rfl) ⟨fun o v=>by kernel_rfl⟩ Tryz.func45 Tryz.call45
def qh8 (o:DOps)(s1:List Int)(s2:List Int):Option (Bool) :=
 bif (s1.length:Int) != (s2.length:Int) then some false else o.fix (((),(),s1,s2,(s1.length:Int),(0:Int),())) fun r1 (_,_,z2,z3,n4,n5,_)=>bif decide (n5<n4) then ix o z2 n5 (0:Int) fun n6=>ix o z3 n5 (0:Int) fun n7=>bif n6 != n7 then some false else inc o n5 fun n8=>r1 (((),(),z2,z3,n4,n8,())) else some true
def qee:DFn:={ro:=true,args:=(.sl 1 (.sl 1 .nil)),out:={slots:=(.dd 4 (.bool (.dd 21 .nil)))},T:=Bool,to:=fun(v:(Unit)×(Unit)×(Bool×Unit))=>v.2.2.1,of:=fun x=>((),(),(x,()))}
def qks:=qh8 DOps.ev
def qoq (o:DOps):qee.In→Option qee.T:=fun v=>qh8 o v.2.2.1 v.2.2.2.1
def qor:DSpec:=qae qee Tryz.f125 (qoq DOps.ev)
theorem qu2:DH Tryz.prog 125 qor:=qad (d:=qee) (Fo:=qoq) ([]:DT) [(4,{slots:=(.sl 1 (.sl 1 (.dd 10 (.int .i64 (.int .i64 (.dd 12 .nil))))))})] [] [] (trivial:DTok Tryz.prog []) (by kernel_rfl) ⟨fun o v=>by kernel_rfl⟩ Tryz.func125 Tryz.call125
def qkt (o:DOps)(now:List SeenT)(now2:Int)(now3:Bool):Option (List UInt8) :=
 mks (now.length:Int) 1 <| rs (now.length:Int).toNat (List.replicate (now.length:Int).toNat (UInt8.ofNat 0)).length <| o.fix (((List.replicate (now.length:Int).toNat (UInt8.ofNat 0),()),(),now,(now.length:Int),(0:Int),())) fun r1 ((z2,_),_,z3,n4,n5,_)=>bif decide (n5<n4) then ix o z3 n5 (dflt 20) fun x6=>rb n5 z2.length <| req (decide (0+n5.toNat<z2.length)) <| o.letv (z2.set (0+n5.toNat) (UInt8.ofNat x6.aspectf.toNat)) fun z7=>inc o n5 fun n8=>rs z2.length z7.length <| r1 (((z7,()),(),z3,n4,n8,())) else rs z2.length z2.length <| some z2
def qfY:DFn:={ro:=true,args:=(.agg (.sl 20 (.int .i64 (.bool .nil))) .nil),out:={slots:=(.dd 2 (.row 0 902 (.dd 22 .nil))),blks:=[(902,.row 0)],boxes:=[(2,902,0)]},T:=List (UInt8),to:=fun(v:(List (UInt8)×Unit)×(Unit)×(Unit))=>v.1.1,of:=fun x=>((x,()),(),())}
def qos:=qkt DOps.ev
def qrB (o:DOps):qfY.In→Option qfY.T:=fun v=>qkt o v.2.2.1.1 v.2.2.1.2.1 v.2.2.1.2.2.1
def qrC:DSpec:=qae qfY Tryz.f156 (qrB DOps.ev)
theorem qwH:DH Tryz.prog 156 qrC:=qad (d:=qfY) (Fo:=qrB) ([]:DT) [(3,{slots:=(.dd 3 (.row 0 2003 (.dd 7 (.sl 20 (.int .i64 (.int .i64 (.dd 11 .nil))))))),blks:=[(2003,.row 0)]})] [] [] (trivial:DTok Tryz.prog []) (by kernel_rfl) ⟨fun o v=>by kernel_rfl⟩ Tryz.func156 Tryz.call156
def qu3 (o:DOps)(a:Int):Option (Bool) :=
 some (a==1)
def qmH:DFn:={ro:=true,args:=(.int .u8 .nil),out:={slots:=(.dd 2 (.bool (.dd 2 .nil)))},T:=Bool,to:=fun(v:(Unit)×(Unit)×(Bool×Unit))=>v.2.2.1,of:=fun x=>((),(),(x,()))}
def qot:=qu3 DOps.ev
def q2w (o:DOps):qmH.In→Option qmH.T:=fun v=>qu3 o v.2.2.1
def q2y:DSpec:=qae qmH Tryz.f161 (q2w DOps.ev)
theorem q4d:DH Tryz.prog 161 q2y:=qad (d:=qmH) (Fo:=q2w) ([]:DT) [] [] [] (trivial:DTok Tryz.prog []) (by kernel_rfl) ⟨fun o v=>by kernel_rfl⟩ Tryz.func161 Tryz.call161
def qef (o:DOps)(s:List UInt8)(v0:Int):Option (Int) :=
 o.fix (((),(),s,v0,(s.length:Int),(0:Int),())) fun r1 (_,_,z2,n3,n4,n5,_)=>bif decide (n5<n4) then ix o z2 n5 (0:UInt8) fun x6=>bif n3==(↑x6.toNat:Int) then some n5 else inc o n5 fun n7=>r1 (((),(),z2,n3,n4,n7,())) else some ((-1:Int))
def qck:DFn:={ro:=true,args:=(.sl 0 (.int .u8 .nil)),out:={slots:=(.dd 4 (.int .i64 (.dd 14 .nil)))},T:=Int,to:=fun(v:(Unit)×(Unit)×(Int×Unit))=>v.2.2.1,of:=fun x=>((),(),(x,()))}
def qft:=qef DOps.ev
def qiI (o:DOps):qck.In→Option qck.T:=fun v=>qef o v.2.2.1 v.2.2.2.1
def qiJ:DSpec:=qae qck Tryz.f200 (qiI DOps.ev)
theorem qou:DH Tryz.prog 200 qiJ:=qad (d:=qck) (Fo:=qiI) ([]:DT) [(2,{slots:=(.sl 0 (.int .u8 (.dd 5 (.int .i64 (.int .i64 (.dd 10 .nil))))))})] [] [] (trivial:DTok Tryz.prog []) (by kernel_rfl) ⟨fun o v=>by kernel_rfl⟩ Tryz.func200 Tryz.call200
def qov (o:DOps)(n:Int):Option (Int) :=
 o.letv (max n (0:Int)) fun n1=>o.letv (min n1 (1048576:Int)) fun n2=>some n2
def qiK:DFn:={ro:=true,args:=(.int .i64 .nil),out:={slots:=(.dd 2 (.int .i64 (.dd 3 .nil)))},T:=Int,to:=fun(v:(Unit)×(Unit)×(Int×Unit))=>v.2.2.1,of:=fun x=>((),(),(x,()))}
def qfZ:=qov DOps.ev
def qwI (o:DOps):qiK.In→Option qiK.T:=fun v=>qov o v.2.2.1
def qwJ:DSpec:=qae qiK Tryz.f197 (qwI DOps.ev)
theorem q0d:DH Tryz.prog 197 qwJ:=qad (d:=qiK) (Fo:=qwI) ([]:DT) [] [] [] (trivial:DTok Tryz.prog []) (by kernel_rfl) ⟨fun o v=>by kernel_rfl⟩ Tryz.func197 Tryz.call197
def qow (o:DOps)(a:Int):Option (Bool) :=
 some (bif decide (a≥1) then decide (a≤3) else false)
def qiL:DFn:={ro:=true,args:=(.int .u8 .nil),out:={slots:=(.dd 2 (.bool (.dd 6 .nil)))},T:=Bool,to:=fun(v:(Unit)×(Unit)×(Bool×Unit))=>v.2.2.1,of:=fun x=>((),(),(x,()))}
def qmI:=qow DOps.ev
def qwK (o:DOps):qiL.In→Option qiL.T:=fun v=>qow o v.2.2.1
def qwL:DSpec:=qae qiL Tryz.f201 (qwK DOps.ev)
theorem q0e:DH Tryz.prog 201 qwL:=qad (d:=qiL) (Fo:=qwK) ([]:DT) [] [] [] (trivial:DTok Tryz.prog []) (by kernel_rfl) ⟨fun o v=>by kernel_rfl⟩ Tryz.func201 Tryz.call201
def qfu (o:DOps)(a:Int)(b:Int):Option (Bool) :=
 some (bif bif a==1&&b==2 then true else a==2&&b==3 then true else a==3&&b==1)
def qcU:DFn:={ro:=true,args:=(.int .u8 (.int .u8 .nil)),out:={slots:=(.dd 4 (.bool (.dd 17 .nil)))},T:=Bool,to:=fun(v:(Unit)×(Unit)×(Bool×Unit))=>v.2.2.1,of:=fun x=>((),(),(x,()))}
def qh9:=qfu DOps.ev
def qlD (o:DOps):qcU.In→Option qcU.T:=fun v=>qfu o v.2.2.1 v.2.2.2.1
def qlE:DSpec:=qae qcU Tryz.f202 (qlD DOps.ev)
theorem qqG:DH Tryz.prog 202 qlE:=holdsD0 (d:=qcU) (Fo:=qlD) ([]:DT) [] [] [] (trivial:DTok Tryz.prog []) (by kernel_rfl) ⟨fun o v=>by kernel_rfl⟩ Tryz.func202 Tryz.call202
def q0f (o:DOps)(p:Pls)(many:Int)(hold:Int):Option (Int) :=
 bif bif decide (p.sincef<0) then true else decide (p.sincef > 1048576) then some ((8:Int)) else bif decide (many > 4096) then some ((4:Int)) else bif bif decide (hold<1) then true else decide (hold > 1048576) then some ((2:Int)) else some ((0:Int))
def qeg:DFn:={ro:=true,args:=(.agg (.seg 21 .nil) (.int .i64 (.int .i64 .nil))),out:={slots:=(.dd 6 (.int .i64 (.dd 19 .nil)))},T:=Int,to:=fun(v:(Unit)×(Unit)×(Int×Unit))=>v.2.2.1,of:=fun x=>((),(),(x,()))}
def qox (o:DOps):qeg.In→Option qeg.T:=fun v=>q0f o v.2.2.1.1 v.2.2.2.1 v.2.2.2.2.1
def qoy:DSpec:=qae qeg Tryz.f184 (qox DOps.ev)
theorem qu4:DH Tryz.prog 184 qoy:=qad (d:=qeg) (Fo:=qox) ([]:DT) [] [] [] (trivial:DTok Tryz.prog []) (by kernel_rfl) ⟨fun o v=>by kernel_rfl⟩ Tryz.func184 Tryz.call184
def qhA (o:DOps)(s:SiteT):Option (Int×SiteT) :=
 some (((s.phases.length:Int),s))
def qeh:DFn:={ro:=false,own:=[false],args:=(.ptr 0 0 .nil),B:=[.cells (.seg 25 .nil)],out:={slots:=(.dead (.int .i64 (.dd 3 .nil))),blks:=[(0,.cells (.seg 25 .nil))],fz:=true},T:=Int×SiteT,to:=fun(v:(Unit)×((SiteT×Unit)×Unit)×(Int×Unit))=>(v.2.2.1,v.2.1.1.1),of:=fun x=>((),((x.2,()),()),(x.1,()))}
def qku:=qhA DOps.ev
def qoz (o:DOps):qeh.In→Option qeh.T:=fun v=>qhA o v.2.1.1.1
def qo0:DSpec:=qae qeh Tryz.f209 (qoz DOps.ev)
theorem qu5:DH Tryz.prog 209 qo0:=qad (d:=qeh) (Fo:=qoz) ([]:DT) [] [] [] (trivial:DTok Tryz.prog []) (by kernel_rfl) ⟨fun o v=>by kernel_rfl⟩ Tryz.func209 Tryz.call209
def qwM:DSpec:=inlS (mkDC Tryz.prog tyC ([]:DT) [] [] [] []) true [false] (fun _=>true) Tryz.f74
theorem q0g:DH Tryz.prog 74 qwM:=q5k (enV:=mkDC Tryz.prog tyC ([]:DT) [] [] [] []) rfl (qfM (trivial:DTok Tryz.prog [])) Tryz.func74 Tryz.call74
def qo1 (o:DOps)(g:Gpd):Option (Int) :=
 o.letv (min (min g.heldf g.openf) g.camef) fun n1=>o.letv (max g.heldf g.openf) fun n2=>bif bif bif decide (n1<0) then true else decide (n2 > 1048576) then true else decide (g.camef > 1073741824) then some ((8:Int)) else bif bif g.upf then g.openf != 0 else false then bif bif g.upf then g.openf != 0 else false then some ((8:Int)) else some ((0:Int)) else bif bif !g.upf then g.heldf != 0 else false then bif bif !g.upf then g.heldf != 0 else false then some ((8:Int)) else some ((0:Int)) else o.letv (bits BinOp.and IntKind.u64 g.lastf (1:Int)) fun n3=>bif !g.upf==(n3==1) then some ((8:Int)) else some ((0:Int))
def qiM:DFn:={ro:=true,args:=(.agg (.seg 22 .nil) .nil),out:={slots:=(.dd 2 (.int .i64 (.dd 45 .nil)))},T:=Int,to:=fun(v:(Unit)×(Unit)×(Int×Unit))=>v.2.2.1,of:=fun x=>((),(),(x,()))}
def qmJ:=qo1 DOps.ev
def qwN (o:DOps):qiM.In→Option qiM.T:=fun v=>qo1 o v.2.2.1.1
def qwO:DSpec:=qae qiM Tryz.f130 (qwN DOps.ev)
theorem q0h:DH Tryz.prog 130 qwO:=qad (d:=qiM) (Fo:=qwN) ([]:DT) [] [] [] (trivial:DTok Tryz.prog []) (by kernel_rfl) ⟨fun o v=>by kernel_rfl⟩ Tryz.func130 Tryz.call130
def q0i (o:DOps)(x:Lkd):Option (Bool) :=
 o.letv (min x.samef x.wellf) fun n1=>o.letv (max x.samef x.wellf) fun n2=>some (bif bif decide (n1≥0) then decide (n2≤1048576) else false then bif x.badf then true else x.wellf==0 else false)
def qu6:DFn:={ro:=true,args:=(.agg (.seg 23 .nil) .nil),out:={slots:=(.dd 2 (.bool (.dd 23 .nil)))},T:=Bool,to:=fun(v:(Unit)×(Unit)×(Bool×Unit))=>v.2.2.1,of:=fun x=>((),(),(x,()))}
def q60:=q0i DOps.ev
def q61 (o:DOps):qu6.In→Option qu6.T:=fun v=>q0i o v.2.2.1.1
def q62:DSpec:=qae qu6 Tryz.f186 (q61 DOps.ev)
theorem q63:DH Tryz.prog 186 q62:=qad (d:=qu6) (Fo:=q61) ([]:DT) [] [] [] (trivial:DTok Tryz.prog []) (by kernel_rfl) ⟨fun o v=>by kernel_rfl⟩ Tryz.func186 Tryz.call186
def qce (o:DOps)(x:Int):Option (Int) :=
 o.letv (x.fdiv ((2:Int) ^ min (Int.toNat (1:Int)) IntKind.u64.bits)) fun n1=>o.letv (bits BinOp.and IntKind.u64 n1 (6148914691236517205:Int)) fun n2=>o.letv (bits BinOp.and IntKind.u64 x (6148914691236517205:Int)) fun n3=>o.letv (wu (n2+n3)) fun n4=>o.letv (n4.fdiv ((2:Int) ^ min (Int.toNat (2:Int)) IntKind.u64.bits)) fun n5=>o.letv (bits BinOp.and IntKind.u64 n5 (3689348814741910323:Int)) fun n6=>o.letv (bits BinOp.and IntKind.u64 n4 (3689348814741910323:Int)) fun n7=>o.letv (wu (n6+n7)) fun n8=>o.letv (n8.fdiv ((2:Int) ^ min (Int.toNat (4:Int)) IntKind.u64.bits)) fun n9=>o.letv (wu (n9+n8)) fun n10=>o.letv (bits BinOp.and IntKind.u64 n10 (1085102592571150095:Int)) fun n11=>o.letv (n11.fdiv ((2:Int) ^ min (Int.toNat (8:Int)) IntKind.u64.bits)) fun n12=>o.letv (wu (n11+n12)) fun n13=>o.letv (n13.fdiv ((2:Int) ^ min (Int.toNat (16:Int)) IntKind.u64.bits)) fun n14=>o.letv (wu (n13+n14)) fun n15=>o.letv (n15.fdiv ((2:Int) ^ min (Int.toNat (32:Int)) IntKind.u64.bits)) fun n16=>o.letv (wu (n15+n16)) fun n17=>o.letv (wi n17) fun n18=>o.letv (bits BinOp.and IntKind.i64 n18 (127:Int)) fun n19=>some n19
def qbe:DFn:={ro:=true,args:=(.int .u64 .nil),out:={slots:=(.dd 2 (.int .i64 (.dd 32 .nil)))},T:=Int,to:=fun(v:(Unit)×(Unit)×(Int×Unit))=>v.2.2.1,of:=fun x=>((),(),(x,()))}
def qb4:=qce DOps.ev
def qeN (o:DOps):qbe.In→Option qbe.T:=fun v=>qce o v.2.2.1
def qeO:DSpec:=qae qbe Tryz.f187 (qeN DOps.ev)
theorem qiN:DH Tryz.prog 187 qeO:=qad (d:=qbe) (Fo:=qeN) ([]:DT) [] [] [] (trivial:DTok Tryz.prog []) (by kernel_rfl) ⟨fun o v=>by kernel_rfl⟩ Tryz.func187 Tryz.call187
def qkv (o:DOps)(s:SiteT)(phase:Int)(group:Int):Option (Bool) :=
 ix o s.phases phase (dflt 18) fun x1=>req (decide (0≤group)) <| o.letv (x1.groupsf.fdiv ((2:Int) ^ min group.toNat IntKind.u32.bits)) fun n2=>o.letv (bits BinOp.and IntKind.u32 n2 (1:Int)) fun n3=>some (n3==1)
def qga:DFn:={ro:=true,args:=(.agg (.seg 25 .nil) (.int .i64 (.int .i64 .nil))),out:={slots:=(.dd 6 (.bool (.dd 10 .nil)))},T:=Bool,to:=fun(v:(Unit)×(Unit)×(Bool×Unit))=>v.2.2.1,of:=fun x=>((),(),(x,()))}
def qiO:=qkv DOps.ev
def qrD (o:DOps):qga.In→Option qga.T:=fun v=>qkv o v.2.2.1.1 v.2.2.2.1 v.2.2.2.2.1
def qrE:DSpec:=qae qga Tryz.f188 (qrD DOps.ev)
theorem qwP:DH Tryz.prog 188 qrE:=qad (d:=qga) (Fo:=qrD) ([]:DT) [] [] [] (trivial:DTok Tryz.prog []) (by kernel_rfl) ⟨fun o v=>by kernel_rfl⟩ Tryz.func188 Tryz.call188
def qfv (o:DOps)(x:Lkd):Option (Bool) :=
 some (!x.badf)
def qcV:DFn:={ro:=true,args:=(.agg (.seg 23 .nil) .nil),out:={slots:=(.dd 2 (.bool (.dd 3 .nil)))},T:=Bool,to:=fun(v:(Unit)×(Unit)×(Bool×Unit))=>v.2.2.1,of:=fun x=>((),(),(x,()))}
def qhB:=qfv DOps.ev
def qlF (o:DOps):qcV.In→Option qcV.T:=fun v=>qfv o v.2.2.1.1
def qlG:DSpec:=qae qcV Tryz.f141 (qlF DOps.ev)
theorem qqH:DH Tryz.prog 141 qlG:=qad (d:=qcV) (Fo:=qlF) ([]:DT) [] [] [] (trivial:DTok Tryz.prog []) (by kernel_rfl) ⟨fun o v=>by kernel_rfl⟩ Tryz.func141 Tryz.call141
def qo2 (o:DOps)(x:Lkd):Option (Bool) :=
 some (bif x.upf then true else x.badf)
def qiP:DFn:={ro:=true,args:=(.agg (.seg 23 .nil) .nil),out:={slots:=(.dd 2 (.bool (.dd 6 .nil)))},T:=Bool,to:=fun(v:(Unit)×(Unit)×(Bool×Unit))=>v.2.2.1,of:=fun x=>((),(),(x,()))}
def qu7:=qo2 DOps.ev
def qwQ (o:DOps):qiP.In→Option qiP.T:=fun v=>qo2 o v.2.2.1.1
def qwR:DSpec:=qae qiP Tryz.f189 (qwQ DOps.ev)
theorem q0j:DH Tryz.prog 189 qwR:=qad (d:=qiP) (Fo:=qwQ) ([]:DT) [] [] [] (trivial:DTok Tryz.prog []) (by kernel_rfl) ⟨fun o v=>by kernel_rfl⟩ Tryz.func189 Tryz.call189
def qkw (o:DOps)(s:SiteT)(c:Int)(phase:Int):Option (Int) :=
 o.letv (c.fdiv ((2:Int) ^ min (s.phases.length:Int).toNat IntKind.u32.bits)) fun n1=>bif n1 != 0 then some ((8:Int)) else bif bif decide (phase<(-1:Int)) then true else decide (phase≥s.phases.length) then some ((2:Int)) else some ((0:Int))
def qgb:DFn:={ro:=true,args:=(.agg (.seg 25 .nil) (.int .u32 (.int .i64 .nil))),out:={slots:=(.dd 6 (.int .i64 (.dd 17 .nil)))},T:=Int,to:=fun(v:(Unit)×(Unit)×(Int×Unit))=>v.2.2.1,of:=fun x=>((),(),(x,()))}
def qo3:=qkw DOps.ev
def qrF (o:DOps):qgb.In→Option qgb.T:=fun v=>qkw o v.2.2.1.1 v.2.2.2.1 v.2.2.2.2.1
def qrG:DSpec:=qae qgb Tryz.f137 (qrF DOps.ev)
theorem qwS:DH Tryz.prog 137 qrG:=qad (d:=qgb) (Fo:=qrF) ([]:DT) [] [] [] (trivial:DTok Tryz.prog []) (by kernel_rfl) ⟨fun o v=>by kernel_rfl⟩ Tryz.func137 Tryz.call137
def qhC (o:DOps)(s:SiteT)(l:List UInt8):Option (Int) :=
 bif (l.length:Int) != (s.groups.length:Int) then some ((4:Int)) else o.fix (((),(),l,(l.length:Int),(0:Int),())) fun r1 (_,_,z2,n3,n4,_)=>bif decide (n4<n3) then ix o z2 n4 (0:UInt8) fun x5=>bif decide ((↑x5.toNat:Int) > 4) then some ((2:Int)) else inc o n4 fun n6=>r1 (((),(),z2,n3,n6,())) else some ((0:Int))
def qei:DFn:={ro:=true,args:=(.agg (.seg 25 .nil) (.sl 0 .nil)),out:={slots:=(.dd 4 (.int .i64 (.dd 17 .nil)))},T:=Int,to:=fun(v:(Unit)×(Unit)×(Int×Unit))=>v.2.2.1,of:=fun x=>((),(),(x,()))}
def qkx:=qhC DOps.ev
def qo4 (o:DOps):qei.In→Option qei.T:=fun v=>qhC o v.2.2.1.1 v.2.2.2.1
def qo5:DSpec:=qae qei Tryz.f190 (qo4 DOps.ev)
theorem qu8:DH Tryz.prog 190 qo5:=qad (d:=qei) (Fo:=qo4) ([]:DT) [(4,{slots:=(.dd 13 (.sl 0 (.int .i64 (.int .i64 (.dd 6 .nil)))))})] [] [] (trivial:DTok Tryz.prog []) (by kernel_rfl) ⟨fun o v=>by kernel_rfl⟩ Tryz.func190 Tryz.call190
def qky (o:DOps)(p:Plan):Option (Bool) :=
 some (bif bif p.cycle==0 then p.offset==0 else false then (p.splits.length:Int)==0 else false)
def qgc:DFn:={ro:=true,args:=(.agg (.seg 10 .nil) .nil),out:={slots:=(.dd 2 (.bool (.dd 14 .nil)))},T:=Bool,to:=fun(v:(Unit)×(Unit)×(Bool×Unit))=>v.2.2.1,of:=fun x=>((),(),(x,()))}
def qd6:=qky DOps.ev
def qrH (o:DOps):qgc.In→Option qgc.T:=fun v=>qky o v.2.2.1.1
def qrI:DSpec:=qae qgc Tryz.f85 (qrH DOps.ev)
theorem qwT:DH Tryz.prog 85 qrI:=qad (d:=qgc) (Fo:=qrH) ([]:DT) [] [] [] (trivial:DTok Tryz.prog []) (by kernel_rfl) ⟨fun o v=>by kernel_rfl⟩ Tryz.func85 Tryz.call85
def qkz (o:DOps)(r:Int)(r2:Int)(r3:Bool)(f:Bool)(f2:Bool)(f3:Bool)(f4:Bool):Option (Int) :=
 bif bif r3 then true else !f4 then some ((0:Int)) else bif bif bif f then f2 else false then f3 else false then some ((3:Int)) else bif f2 then some ((2:Int)) else some ((1:Int))
def qgd:DFn:={ro:=true,args:=(.agg (.int .u8 (.int .i64 (.bool .nil))) (.agg (.bool (.bool (.bool (.bool .nil)))) .nil)),out:={slots:=(.dd 4 (.int .u8 (.dd 22 .nil)))},T:=Int,to:=fun(v:(Unit)×(Unit)×(Int×Unit))=>v.2.2.1,of:=fun x=>((),(),(x,()))}
def qo6:=qkz DOps.ev
def qrJ (o:DOps):qgd.In→Option qgd.T:=fun v=>qkz o v.2.2.1.1 v.2.2.1.2.1 v.2.2.1.2.2.1 v.2.2.2.1.1 v.2.2.2.1.2.1 v.2.2.2.1.2.2.1 v.2.2.2.1.2.2.2.1
def qrK:DSpec:=qae qgd Tryz.f142 (qrJ DOps.ev)
theorem qwU:DH Tryz.prog 142 qrK:=qad (d:=qgd) (Fo:=qrJ) ([]:DT) [] [] [] (trivial:DTok Tryz.prog []) (by kernel_rfl) ⟨fun o v=>by kernel_rfl⟩ Tryz.func142 Tryz.call142
def qk0 (o:DOps)(s:SiteT)(calls:Int):Option (Int) :=
 o.fix (((),(),calls,(0:Int),s.phases,(s.phases.length:Int),(0:Int),())) fun r1 (_,_,n2,n3,z4,n5,n6,_)=>bif decide (n6<n5) then ix o z4 n6 (dflt 18) fun x7=>req (!!x7.alwaysf||decide (0≤n6)) <| o.letv (n2.fdiv ((2:Int) ^ min n6.toNat IntKind.u32.bits)) fun n8=>o.letv (bits BinOp.and IntKind.u32 n8 (1:Int)) fun n9=>bif bif x7.alwaysf then true else n9==1 then req (decide (0≤n6)) <| o.letv (wq ((1:Int)*2 ^ min n6.toNat IntKind.u32.bits)) fun n11=>o.letv (bits BinOp.or IntKind.u32 n3 n11) fun n12=>inc o n6 fun n13=>r1 (((),(),n2,n12,z4,n5,n13,())) else inc o n6 fun n10=>r1 (((),(),n2,n3,z4,n5,n10,())) else some n3
def qge:DFn:={ro:=true,args:=(.agg (.seg 25 .nil) (.int .u32 .nil)),out:={slots:=(.dd 4 (.int .u32 (.dd 26 .nil)))},T:=Int,to:=fun(v:(Unit)×(Unit)×(Int×Unit))=>v.2.2.1,of:=fun x=>((),(),(x,()))}
def qd7:=qk0 DOps.ev
def qrL (o:DOps):qge.In→Option qge.T:=fun v=>qk0 o v.2.2.1.1 v.2.2.2.1
def qrM:DSpec:=qae qge Tryz.f143 (qrL DOps.ev)
theorem qwV:DH Tryz.prog 143 qrM:=qad (d:=qge) (Fo:=qrL) ([]:DT) [(3,{slots:=(.dead (.int .u32 (.dd 3 (.int .u32 (.dd 3 (.sl 18 (.int .i64 (.int .i64 (.dd 19 .nil)))))))))})] [] [] (trivial:DTok Tryz.prog []) (by kernel_rfl) ⟨fun o v=>by kernel_rfl⟩ Tryz.func143 Tryz.call143
def qu9 (o:DOps)(n:Int)(a:Int):Option (List UInt8) :=
 req (decide (0≤n∧n≤n∧n*(↑1:Int)≤140737488355328)) <| rs n.toNat (List.replicate n.toNat (UInt8.ofNat 0)).length <| o.fix (((List.replicate n.toNat (UInt8.ofNat 0),()),(),a,(↑n.toNat:Int),(0:Int),())) fun r1 ((z2,_),_,n3,n4,n5,_)=>bif decide (n5<n4) then rb n5 z2.length <| req (decide (0+n5.toNat<z2.length)) <| o.letv (z2.set (0+n5.toNat) (UInt8.ofNat n3.toNat)) fun z6=>inc o n5 fun n7=>rs z2.length z6.length <| r1 (((z6,()),(),n3,n4,n7,())) else rs z2.length z2.length <| some z2
def qmK:DFn:={ro:=true,args:=(.int .i64 (.int .u8 .nil)),out:={slots:=(.dd 4 (.row 0 904 (.dd 15 .nil))),blks:=[(904,.row 0)],boxes:=[(4,904,0)]},T:=List (UInt8),to:=fun(v:(List (UInt8)×Unit)×(Unit)×(Unit))=>v.1.1,of:=fun x=>((x,()),(),())}
def qk1:=qu9 DOps.ev
def q2z (o:DOps):qmK.In→Option qmK.T:=fun v=>qu9 o v.2.2.1 v.2.2.2.1
def q20:DSpec:=qae qmK Tryz.f153 (q2z DOps.ev)
theorem q4e:DH Tryz.prog 153 q20:=qad (d:=qmK) (Fo:=q2z) ([]:DT) [(3,{slots:=(.dead (.int .u8 (.dd 3 (.row 0 2001 (.dd 4 (.int .i64 (.int .i64 (.dd 8 .nil)))))))),blks:=[(2001,.row 0)]})] [] [] (trivial:DTok Tryz.prog []) (by kernel_rfl) ⟨fun o v=>by kernel_rfl⟩ Tryz.func153 Tryz.call153
def q64 (o:DOps)(n:Int):Option (Int) :=
 o.letv (max n (-1073741824:Int)) fun n1=>o.letv (min n1 (1073741824:Int)) fun n2=>o.letv (wi (n2*65536)) fun n3=>some n3
def q21:DFn:={ro:=true,args:=(.int .i64 .nil),out:={slots:=(.dd 2 (.int .i64 (.dd 4 .nil)))},T:=Int,to:=fun(v:(Unit)×(Unit)×(Int×Unit))=>v.2.2.1,of:=fun x=>((),(),(x,()))}
def fixOf:=q64 DOps.ev
def fixOfV (o:DOps):q21.In→Option q21.T:=fun v=>q64 o v.2.2.1
def fixOfS:DSpec:=qae q21 Tryz.f101 (fixOfV DOps.ev)
theorem fixOf_ok:DH Tryz.prog 101 fixOfS:=qad (d:=q21) (Fo:=fixOfV) ([]:DT) [] [] [] (trivial:DTok Tryz.prog []) (by kernel_rfl) ⟨fun o v=>by kernel_rfl⟩ Tryz.func101 Tryz.call101
def quA (o:DOps)(x:Int):Option (Int) :=
 o.letv (max x (-70368744177664:Int)) fun n1=>o.letv (min n1 (70368744177664:Int)) fun n2=>some n2
def qmL:DFn:={ro:=true,args:=(.int .i64 .nil),out:={slots:=(.dd 2 (.int .i64 (.dd 3 .nil)))},T:=Int,to:=fun(v:(Unit)×(Unit)×(Int×Unit))=>v.2.2.1,of:=fun x=>((),(),(x,()))}
def qk2:=quA DOps.ev
def q22 (o:DOps):qmL.In→Option qmL.T:=fun v=>quA o v.2.2.1
def q23:DSpec:=qae qmL Tryz.f166 (q22 DOps.ev)
theorem q4f:DH Tryz.prog 166 q23:=qad (d:=qmL) (Fo:=q22) ([]:DT) [] [] [] (trivial:DTok Tryz.prog []) (by kernel_rfl) ⟨fun o v=>by kernel_rfl⟩ Tryz.func166 Tryz.call166
def qk3 (o:DOps)(s:Int)(s2:Int)(s3:List Plan)(s4:List (List UInt8))(s5:Bool)(q:Int)(q2:Int)(q3:List Plan)(q4:List (List UInt8))(q5:Bool):Option (Bool×Int×Int×List Plan×List (List UInt8)×Bool×Int×Int×List Plan×List (List UInt8)×Bool) :=
 some ((bif s5 then !bif q5 then decide (q > s) else false else false,s,s2,s3,s4,s5,q,q2,q3,q4,q5))
def qgf:DFn:={ro:=false,own:=[false,false],args:=(.ptr 0 0 (.ptr 1 0 .nil)),B:=[.cells (.int .i64 (.int .u8 (.sl 10 (.sl 6 (.bool .nil))))),.cells (.int .i64 (.int .u8 (.sl 10 (.sl 6 (.bool .nil)))))],out:={slots:=(.dd 4 (.bool (.dd 24 .nil))),blks:=[(0,.cells (.int .i64 (.int .u8 (.sl 10 (.sl 6 (.bool .nil)))))),(1,.cells (.int .i64 (.int .u8 (.sl 10 (.sl 6 (.bool .nil))))))],fz:=true},T:=Bool×Int×Int×List Plan×List (List UInt8)×Bool×Int×Int×List Plan×List (List UInt8)×Bool,to:=fun(v:(Unit)×((Int×Int×List Plan×List (List UInt8)×Bool×Unit)×(Int×Int×List Plan×List (List UInt8)×Bool×Unit)×Unit)×(Bool×Unit))=>(v.2.2.1,v.2.1.1.1,v.2.1.1.2.1,v.2.1.1.2.2.1,v.2.1.1.2.2.2.1,v.2.1.1.2.2.2.2.1,v.2.1.2.1.1,v.2.1.2.1.2.1,v.2.1.2.1.2.2.1,v.2.1.2.1.2.2.2.1,v.2.1.2.1.2.2.2.2.1),of:=fun x=>((),((x.2.1,(x.2.2.1,(x.2.2.2.1,(x.2.2.2.2.1,(x.2.2.2.2.2.1,()))))),((x.2.2.2.2.2.2.1,(x.2.2.2.2.2.2.2.1,(x.2.2.2.2.2.2.2.2.1,(x.2.2.2.2.2.2.2.2.2.1,(x.2.2.2.2.2.2.2.2.2.2,()))))),())),(x.1,()))}
def qiQ:=qk3 DOps.ev
def qrN (o:DOps):qgf.In→Option qgf.T:=fun v=>qk3 o v.2.1.1.1 v.2.1.1.2.1 v.2.1.1.2.2.1 v.2.1.1.2.2.2.1 v.2.1.1.2.2.2.2.1 v.2.1.2.1.1 v.2.1.2.1.2.1 v.2.1.2.1.2.2.1 v.2.1.2.1.2.2.2.1 v.2.1.2.1.2.2.2.2.1
def qrO:DSpec:=qae qgf Tryz.f177 (qrN DOps.ev)
theorem qwW:DH Tryz.prog 177 qrO:=qad (d:=qgf) (Fo:=qrN) ([]:DT) [] [] [] (trivial:DTok Tryz.prog []) (by kernel_rfl) ⟨fun o v=>by kernel_rfl⟩ Tryz.func177 Tryz.call177
def qbo (o:DOps)(s:List UInt8):Option (List UInt8) :=
 bif s.isEmpty then sm o [some qal,req (decide ((0+s.length)*1≤140737488355328)) <| o.letv ([]++s) fun z2=>rs (0+s.length) z2.length <| some z2] (.n (.l 0) (.l 1)) else req (decide ((0+s.length)*1≤140737488355328)) <| o.letv ([]++s) fun z1=>rs (0+s.length) z1.length <| some z1
def qcW:DFn:={ro:=true,args:=(.sl 0 .nil),out:={slots:=(.dd 2 (.row 0 902 (.dd 5 .nil))),blks:=[(902,.row 0)],boxes:=[(2,902,0)]},T:=List (UInt8),to:=fun(v:(List (UInt8)×Unit)×(Unit)×(Unit))=>v.1.1,of:=fun x=>((x,()),(),())}
def qbH:=qbo DOps.ev
def qlH (o:DOps):qcW.In→Option qcW.T:=fun v=>qbo o v.2.2.1
def qlI:DSpec:=qae qcW Tryz.f62 (qlH DOps.ev)
theorem qqI (s:List UInt8):qbo DOps.std s=qbo DOps.ev s:=by cases s with|nil=>(unfold qbo;simp only[List.isEmpty_nil,cond_true,sm_l,sm_n,qdr,qds];exact qaw (by kernel_rfl))|cons x l=>kernel_rfl
theorem qqJ:DH Tryz.prog 62 qlI:=qad (d:=qcW) (Fo:=qlH) ([]:DT) [] [] [] (trivial:DTok Tryz.prog []) (funext fun v=>qqI _) ⟨fun o v=>by kernel_rfl⟩ Tryz.func62 Tryz.call62
def qaT (o:DOps)(s:List Pls):Option (List Pls) :=
 bif s.isEmpty then sm o [some nilL21,req (decide ((0+s.length)*16≤140737488355328)) <| o.letv ([]++s) fun z2=>rs (0+s.length) z2.length <| some z2] (.n (.l 0) (.l 1)) else req (decide ((0+s.length)*16≤140737488355328)) <| o.letv ([]++s) fun z1=>rs (0+s.length) z1.length <| some z1
def qcl:DFn:={ro:=true,args:=(.sl 21 .nil),out:={slots:=(.dd 2 (.row 21 902 (.dd 5 .nil))),blks:=[(902,.row 21)],boxes:=[(2,902,21)]},T:=List (Pls),to:=fun(v:(List (Pls)×Unit)×(Unit)×(Unit))=>v.1.1,of:=fun x=>((x,()),(),())}
def qcX:=qaT DOps.ev
def qiR (o:DOps):qcl.In→Option qcl.T:=fun v=>qaT o v.2.2.1
def qiS:DSpec:=qae qcl Tryz.f75 (qiR DOps.ev)
theorem qo7 (s:List Pls):qaT DOps.std s=qaT DOps.ev s:=by cases s with|nil=>(unfold qaT;simp only[List.isEmpty_nil,cond_true,sm_l,sm_n,qdr,qds];exact qaw (by kernel_rfl))|cons x l=>kernel_rfl
theorem qo8:DH Tryz.prog 75 qiS:=qad (d:=qcl) (Fo:=qiR) ([]:DT) [] [] [] (trivial:DTok Tryz.prog []) (funext fun v=>qo7 _) ⟨fun o v=>by kernel_rfl⟩ Tryz.func75 Tryz.call75
def qaJ (o:DOps)(s:List Gpd):Option (List Gpd) :=
 bif s.isEmpty then sm o [some nilL22,req (decide ((0+s.length)*40≤140737488355328)) <| o.letv ([]++s) fun z2=>rs (0+s.length) z2.length <| some z2] (.n (.l 0) (.l 1)) else req (decide ((0+s.length)*40≤140737488355328)) <| o.letv ([]++s) fun z1=>rs (0+s.length) z1.length <| some z1
def qbM:DFn:={ro:=true,args:=(.sl 22 .nil),out:={slots:=(.dd 2 (.row 22 902 (.dd 5 .nil))),blks:=[(902,.row 22)],boxes:=[(2,902,22)]},T:=List (Gpd),to:=fun(v:(List (Gpd)×Unit)×(Unit)×(Unit))=>v.1.1,of:=fun x=>((x,()),(),())}
def qej:=qaJ DOps.ev
def qhj (o:DOps):qbM.In→Option qbM.T:=fun v=>qaJ o v.2.2.1
def qhk:DSpec:=qae qbM Tryz.f76 (qhj DOps.ev)
theorem qmy (s:List Gpd):qaJ DOps.std s=qaJ DOps.ev s:=by cases s with|nil=>(unfold qaJ;simp only[List.isEmpty_nil,cond_true,sm_l,sm_n,qdr,qds];exact qaw (by kernel_rfl))|cons x l=>kernel_rfl
theorem qmz:DH Tryz.prog 76 qhk:=qad (d:=qbM) (Fo:=qhj) ([]:DT) [] [] [] (trivial:DTok Tryz.prog []) (funext fun v=>qmy _) ⟨fun o v=>by kernel_rfl⟩ Tryz.func76 Tryz.call76
def qbp (o:DOps)(s:List SeenT):Option (List SeenT) :=
 bif s.isEmpty then sm o [some qeX,req (decide ((0+s.length)*24≤140737488355328)) <| o.letv ([]++s) fun z2=>rs (0+s.length) z2.length <| some z2] (.n (.l 0) (.l 1)) else req (decide ((0+s.length)*24≤140737488355328)) <| o.letv ([]++s) fun z1=>rs (0+s.length) z1.length <| some z1
def qcY:DFn:={ro:=true,args:=(.sl 20 .nil),out:={slots:=(.dd 2 (.row 20 902 (.dd 5 .nil))),blks:=[(902,.row 20)],boxes:=[(2,902,20)]},T:=List (SeenT),to:=fun(v:(List (SeenT)×Unit)×(Unit)×(Unit))=>v.1.1,of:=fun x=>((x,()),(),())}
def qcB:=qbp DOps.ev
def qlJ (o:DOps):qcY.In→Option qcY.T:=fun v=>qbp o v.2.2.1
def qlK:DSpec:=qae qcY Tryz.f96 (qlJ DOps.ev)
theorem qqK (s:List SeenT):qbp DOps.std s=qbp DOps.ev s:=by cases s with|nil=>(unfold qbp;simp only[List.isEmpty_nil,cond_true,sm_l,sm_n,qdr,qds];exact qaw (by kernel_rfl))|cons x l=>kernel_rfl
theorem qqL:DH Tryz.prog 96 qlK:=qad (d:=qcY) (Fo:=qlJ) ([]:DT) [] [] [] (trivial:DTok Tryz.prog []) (funext fun v=>qqK _) ⟨fun o v=>by kernel_rfl⟩ Tryz.func96 Tryz.call96
def qbI (o:DOps)(s:List Int):Option (List Int) :=
 bif s.isEmpty then sm o [some qeV,req (decide ((0+s.length)*8≤140737488355328)) <| o.letv ([]++s) fun z2=>rs (0+s.length) z2.length <| some z2] (.n (.l 0) (.l 1)) else req (decide ((0+s.length)*8≤140737488355328)) <| o.letv ([]++s) fun z1=>rs (0+s.length) z1.length <| some z1
def qek:DFn:={ro:=true,args:=(.sl 1 .nil),out:={slots:=(.dd 2 (.row 1 902 (.dd 5 .nil))),blks:=[(902,.row 1)],boxes:=[(2,902,1)]},T:=List (Int),to:=fun(v:(List (Int)×Unit)×(Unit)×(Unit))=>v.1.1,of:=fun x=>((x,()),(),())}
def qd8:=qbI DOps.ev
def qo9 (o:DOps):qek.In→Option qek.T:=fun v=>qbI o v.2.2.1
def qoA:DSpec:=qae qek Tryz.f98 (qo9 DOps.ev)
theorem quB (s:List Int):qbI DOps.std s=qbI DOps.ev s:=by cases s with|nil=>(unfold qbI;simp only[List.isEmpty_nil,cond_true,sm_l,sm_n,qdr,qds];exact qaw (by kernel_rfl))|cons x l=>kernel_rfl
theorem quC:DH Tryz.prog 98 qoA:=qad (d:=qek) (Fo:=qo9) ([]:DT) [] [] [] (trivial:DTok Tryz.prog []) (funext fun v=>quB _) ⟨fun o v=>by kernel_rfl⟩ Tryz.func98 Tryz.call98
def q0k (o:DOps)(s:List UInt8)(n:Int):Option (List UInt8) :=
 bif decide (n<0) then none else none
def qel:DFn:={ro:=false,args:=(.sl 0 (.int .i64 .nil)),out:={slots:=(.dd 4 (.sl 0 (.dd 22 .nil))),fz:=true},T:=List UInt8,to:=fun(v:(Unit)×(Unit)×(List UInt8×Unit))=>v.2.2.1,of:=fun x=>((),(),(x,()))}
def qoB (o:DOps):qel.In→Option qel.T:=fun v=>q0k o v.2.2.1 v.2.2.2.1
def qoC:DSpec:=qae qel Tryz.f119 (qoB DOps.ev)
theorem quD:DH Tryz.prog 119 qoC:=qad (d:=qel) (Fo:=qoB) ([]:DT) [] [] [] (trivial:DTok Tryz.prog []) (by kernel_rfl) ⟨fun o v=>by kernel_rfl⟩ Tryz.func119 Tryz.call119
def q65 (o:DOps)(n:Int):Option (Nat×List UInt8) :=
 bif decide (n<0) then none else o.letv (wi ((0:Int)-0)) fun n1=>o.letv (wi (n-n1)) fun n2=>bif decide (n2 > 0) then req (decide (0≤n2)) <| req (decide (n2.toNat*1≤140737488355328)) <| o.letv (List.replicate n2.toNat (UInt8.ofNat 0)) fun z3=>some ((Int.toNat (0:Int),z3)) else some ((0,qal))
def q24:DFn:={ro:=true,args:=(.nilsl (.int .i64 .nil)),out:={slots:=(.dd 4 (.rown 0 904 (.dd 22 .nil))),blks:=[(904,.row 0)],boxes:=[(4,904,0)]},T:=Nat×List (UInt8),to:=fun(v:(List (UInt8)×Unit)×(Unit)×(Nat×Unit))=>(v.2.2.1,v.1.1),of:=fun x=>((x.2,()),(),(x.1,()))}
def growN:=q65 DOps.ev
def growNV (o:DOps):q24.In→Option q24.T:=fun v=>q65 o v.2.2.1
def growNS:DSpec:=qae q24 Tryz.f119 (growNV DOps.ev)
theorem growN_ok:DH Tryz.prog 119 growNS:=qad (d:=q24) (Fo:=growNV) ([]:DT) [] [] [] (trivial:DTok Tryz.prog []) (by kernel_rfl) ⟨fun o v=>by kernel_rfl⟩ Tryz.func119 Tryz.call119
def q4g (o:DOps)(x:Int)(y:Int):Option (Int×Int) :=
 o.letv (wu x) fun n1=>o.letv (wu y) fun n2=>o.letv (wu (n1*n2)) fun n3=>o.letv (n3.fdiv ((2:Int) ^ min (Int.toNat (32:Int)) IntKind.u64.bits)) fun n4=>o.letv (wq n4) fun n5=>o.letv (wq n3) fun n6=>some ((n5,n6))
def qgg:DFn:={ro:=true,args:=(.int .u32 (.int .u32 .nil)),out:={slots:=(.dd 4 (.int .u32 (.int .u32 (.dd 11 .nil))))},T:=Int×Int,to:=fun(v:(Unit)×(Unit)×(Int×Int×Unit))=>(v.2.2.1,v.2.2.2.1),of:=fun x=>((),(),(x.1,(x.2,())))}
def qrP (o:DOps):qgg.In→Option qgg.T:=fun v=>q4g o v.2.2.1 v.2.2.2.1
def qrQ:DSpec:=qae qgg Tryz.f212 (qrP DOps.ev)
theorem qwX:DH Tryz.prog 212 qrQ:=qad (d:=qgg) (Fo:=qrP) ([]:DT) [] [] [] (trivial:DTok Tryz.prog []) (by kernel_rfl) ⟨fun o v=>by kernel_rfl⟩ Tryz.func212 Tryz.call212
def qrR (o:DOps)(x:Int)(y:Int):Option (Int×Int) :=
 o.letv (bits BinOp.and IntKind.u64 x (4294967295:Int)) fun n1=>o.letv (x.fdiv ((2:Int) ^ min (Int.toNat (32:Int)) IntKind.u64.bits)) fun n2=>o.letv (bits BinOp.and IntKind.u64 y (4294967295:Int)) fun n3=>o.letv (y.fdiv ((2:Int) ^ min (Int.toNat (32:Int)) IntKind.u64.bits)) fun n4=>o.letv (wu (n1*n3)) fun n5=>o.letv (wu (n2*n3)) fun n6=>o.letv (n5.fdiv ((2:Int) ^ min (Int.toNat (32:Int)) IntKind.u64.bits)) fun n7=>o.letv (wu (n6+n7)) fun n8=>o.letv (bits BinOp.and IntKind.u64 n8 (4294967295:Int)) fun n9=>o.letv (n8.fdiv ((2:Int) ^ min (Int.toNat (32:Int)) IntKind.u64.bits)) fun n10=>o.letv (wu (n1*n4)) fun n11=>o.letv (wu (n9+n11)) fun n12=>o.letv (wu (n2*n4)) fun n13=>o.letv (wu (n13+n10)) fun n14=>o.letv (n12.fdiv ((2:Int) ^ min (Int.toNat (32:Int)) IntKind.u64.bits)) fun n15=>o.letv (wu (n14+n15)) fun n16=>o.letv (wu (x*y)) fun n17=>some ((n16,n17))
def qgh:DFn:={ro:=true,args:=(.int .u64 (.int .u64 .nil)),out:={slots:=(.dd 4 (.int .u64 (.int .u64 (.dd 45 .nil))))},T:=Int×Int,to:=fun(v:(Unit)×(Unit)×(Int×Int×Unit))=>(v.2.2.1,v.2.2.2.1),of:=fun x=>((),(),(x.1,(x.2,())))}
def q66:=qrR DOps.ev
def qrS (o:DOps):qgh.In→Option qgh.T:=fun v=>qrR o v.2.2.1 v.2.2.2.1
def qrT:DSpec:=qae qgh Tryz.f213 (qrS DOps.ev)
theorem qwY:DH Tryz.prog 213 qrT:=qad (d:=qgh) (Fo:=qrS) ([]:DT) [] [] [] (trivial:DTok Tryz.prog []) (by kernel_rfl) ⟨fun o v=>by kernel_rfl⟩ Tryz.func213 Tryz.call213
def qk4 (o:DOps)(now:List SeenT)(now2:Int)(now3:Bool)(s:SiteT):Option (Int×List SeenT×Int×Bool×SiteT) :=
 bif (now.length:Int) != (s.groups.length:Int) then some (((8:Int),now,now2,now3,s)) else some (((0:Int),now,now2,now3,s))
def qgi:DFn:={ro:=false,own:=[false,false],args:=(.ptr 0 0 (.ptr 1 0 .nil)),B:=[.cells (.sl 20 (.int .i64 (.bool .nil))),.cells (.seg 25 .nil)],out:={slots:=(.dd 2 (.int .i64 (.dd 7 .nil))),blks:=[(0,.cells (.sl 20 (.int .i64 (.bool .nil)))),(1,.cells (.seg 25 .nil))],fz:=true},T:=Int×List SeenT×Int×Bool×SiteT,to:=fun(v:(Unit)×((List SeenT×Int×Bool×Unit)×(SiteT×Unit)×Unit)×(Int×Unit))=>(v.2.2.1,v.2.1.1.1,v.2.1.1.2.1,v.2.1.1.2.2.1,v.2.1.2.1.1),of:=fun x=>((),((x.2.1,(x.2.2.1,(x.2.2.2.1,()))),((x.2.2.2.2,()),())),(x.1,()))}
def qoD:=qk4 DOps.ev
def qrU (o:DOps):qgi.In→Option qgi.T:=fun v=>qk4 o v.2.1.1.1 v.2.1.1.2.1 v.2.1.1.2.2.1 v.2.1.2.1.1
def qrV:DSpec:=qae qgi Tryz.f134 (qrU DOps.ev)
theorem qwZ:DH Tryz.prog 134 qrV:=qad (d:=qgi) (Fo:=qrU) ([]:DT) [] [] [] (trivial:DTok Tryz.prog []) (by kernel_rfl) ⟨fun o v=>by kernel_rfl⟩ Tryz.func134 Tryz.call134
def qk5 (o:DOps):Option (Int) :=
 some ((0:Int))
def qgj:DFn:={ro:=true,args:=.nil,out:={slots:=(.int .i64 .nil)},T:=Int,to:=fun(v:(Unit)×(Unit)×(Int×Unit))=>v.2.2.1,of:=fun x=>((),(),(x,()))}
def qoE:=qk5 DOps.ev
def qrW (o:DOps):qgj.In→Option qgj.T:=fun v=>qk5 o
def qrX:DSpec:=qae qgj Tryz.f148 (qrW DOps.ev)
theorem qxa:DH Tryz.prog 148 qrX:=qad (d:=qgj) (Fo:=qrW) ([]:DT) [] [] [] (trivial:DTok Tryz.prog []) (by kernel_rfl) ⟨fun o v=>by kernel_rfl⟩ Tryz.func148 Tryz.call148
def qhD (o:DOps)(a:Int):Option (Bool) :=
 some (a != 4)
def qem:DFn:={ro:=true,args:=(.int .u8 .nil),out:={slots:=(.dd 2 (.bool (.dd 2 .nil)))},T:=Bool,to:=fun(v:(Unit)×(Unit)×(Bool×Unit))=>v.2.2.1,of:=fun x=>((),(),(x,()))}
def qk6:=qhD DOps.ev
def qoF (o:DOps):qem.In→Option qem.T:=fun v=>qhD o v.2.2.1
def qoG:DSpec:=qae qem Tryz.f198 (qoF DOps.ev)
theorem quE:DH Tryz.prog 198 qoG:=qad (d:=qem) (Fo:=qoF) ([]:DT) [] [] [] (trivial:DTok Tryz.prog []) (by kernel_rfl) ⟨fun o v=>by kernel_rfl⟩ Tryz.func198 Tryz.call198
def qhE (o:DOps)(a:Int):Option (Bool) :=
 some (a != 4)
def qen:DFn:={ro:=true,args:=(.int .u8 .nil),out:={slots:=(.dd 2 (.bool (.dd 2 .nil)))},T:=Bool,to:=fun(v:(Unit)×(Unit)×(Bool×Unit))=>v.2.2.1,of:=fun x=>((),(),(x,()))}
def qk7:=qhE DOps.ev
def qoH (o:DOps):qen.In→Option qen.T:=fun v=>qhE o v.2.2.1
def qoI:DSpec:=qae qen Tryz.f152 (qoH DOps.ev)
theorem quF:DH Tryz.prog 152 qoI:=qad (d:=qen) (Fo:=qoH) ([]:DT) [] [] [] (trivial:DTok Tryz.prog []) (by kernel_rfl) ⟨fun o v=>by kernel_rfl⟩ Tryz.func152 Tryz.call152
def qk8 (o:DOps)(now:List SeenT)(now2:Int)(now3:Bool)(g:SeenT):Option (Bool×List SeenT×Int×Bool) :=
 bif now3 then some ((g.aspectf != 4,now,now2,now3)) else some ((bif bif decide (g.aspectf<1) then true else decide (g.aspectf > 3) then true else bif decide (now2 > 0) then g.aspectf != 1 else false,now,now2,now3))
def qgk:DFn:={ro:=false,own:=[false],args:=(.agg (.seg 20 .nil) (.ptr 0 0 .nil)),B:=[.cells (.sl 20 (.int .i64 (.bool .nil)))],out:={slots:=(.dd 3 (.bool (.dd 23 .nil))),blks:=[(0,.cells (.sl 20 (.int .i64 (.bool .nil))))],fz:=true},T:=Bool×List SeenT×Int×Bool,to:=fun(v:(Unit)×((List SeenT×Int×Bool×Unit)×Unit)×(Bool×Unit))=>(v.2.2.1,v.2.1.1.1,v.2.1.1.2.1,v.2.1.1.2.2.1),of:=fun x=>((),((x.2.1,(x.2.2.1,(x.2.2.2,()))),()),(x.1,()))}
def qoJ:=qk8 DOps.ev
def qrY (o:DOps):qgk.In→Option qgk.T:=fun v=>qk8 o v.2.1.1.1 v.2.1.1.2.1 v.2.1.1.2.2.1 v.2.2.1.1
def qrZ:DSpec:=qae qgk Tryz.f195 (qrY DOps.ev)
theorem qxb:DH Tryz.prog 195 qrZ:=qad (d:=qgk) (Fo:=qrY) ([]:DT) [] [] [] (trivial:DTok Tryz.prog []) (by kernel_rfl) ⟨fun o v=>by kernel_rfl⟩ Tryz.func195 Tryz.call195
def qhF (o:DOps)(out:List UInt8)(now:List SeenT)(now2:Int)(now3:Bool)(s:SiteT)(i:Int):Option (Bool×List SeenT×Int×Bool×SiteT×List UInt8) :=
 rs out.length out.length <| o.fix (((out,()),((now,now2,now3,()),(s,()),(),()),i,now,(now.length:Int),(0:Int),())) fun r1 ((z2,_),((z3,n4,b5,_),(x6,_),_,_),n7,z8,n9,n10,_)=>bif decide (n10<n9) then ix o z8 n10 (dflt 20) fun x11=>ix o x6.apart n7 (0:UInt32) fun x12=>req (decide (0≤n10)) <| o.letv ((↑x12.toNat:Int).fdiv ((2:Int) ^ min n10.toNat IntKind.u32.bits)) fun n13=>o.letv (bits BinOp.and IntKind.u32 n13 (1:Int)) fun n14=>req (!n14==1||decide (0≤n10)&&decide (n10<z2.length)) <| req (!n14==1||decide (0+n10.toNat<z2.length)) <| o.letv ((↑(z2.getD (0+n10.toNat) (0:UInt8)).toNat:Int)) fun n15=>req (!!n15 != 1||(!n14==1||decide (0≤n10)&&decide (n10<x6.between.length))) <| o.letv (x6.between.getD n10.toNat (dflt 7)) fun z16=>req (!!n15 != 1||(!n14==1||decide (0≤n7)&&decide (n7<z16.length))) <| o.letv (z16.getD n7.toNat (0:Int)) fun n17=>bif bif n14==1 then bif n15 != 1 then true else decide (x11.endedf<n17) else false then rs z2.length z2.length <| some ((true,z3,n4,b5,x6,z2)) else inc o n10 fun n18=>rs z2.length z2.length <| r1 (((z2,()),((z3,n4,b5,()),(x6,()),(),()),n7,z8,n9,n18,())) else rs z2.length z2.length <| some ((false,z3,n4,b5,x6,z2))
def qeo:DFn:={ro:=false,own:=[false,false,false,false],args:=(.int .i64 (.ptr 0 0 (.ptr 1 0 (.ptr 2 0 .nil)))),B:=[.cells (.sl 20 (.int .i64 (.bool .nil))),.cells (.seg 25 .nil),.cells (.row 0 3 .nil),.row 0],out:={slots:=(.dd 5 (.bool (.dd 40 .nil))),blks:=[(0,.cells (.sl 20 (.int .i64 (.bool .nil)))),(1,.cells (.seg 25 .nil)),(2,.cells (.row 0 3 .nil)),(3,.row 0)],fz:=true},T:=Bool×List SeenT×Int×Bool×SiteT×List (UInt8),to:=fun(v:(List (UInt8)×Unit)×((List SeenT×Int×Bool×Unit)×(SiteT×Unit)×(Unit)×Unit)×(Bool×Unit))=>(v.2.2.1,v.2.1.1.1,v.2.1.1.2.1,v.2.1.1.2.2.1,v.2.1.2.1.1,v.1.1),of:=fun x=>((x.2.2.2.2.2,()),((x.2.1,(x.2.2.1,(x.2.2.2.1,()))),((x.2.2.2.2.1,()),((),()))),(x.1,()))}
def qgl:=qhF DOps.ev
def qoK (o:DOps):qeo.In→Option qeo.T:=fun v=>qhF o v.1.1 v.2.1.1.1 v.2.1.1.2.1 v.2.1.1.2.2.1 v.2.1.2.1.1 v.2.2.1
def qoL:DSpec:=qae qeo Tryz.f155 (qoK DOps.ev)
theorem quG:DH Tryz.prog 155 qoL:=qad (d:=qeo) (Fo:=qoK) ([]:DT) [(2,{slots:=(.int .i64 (.dead (.ptr 1 0 (.ptr 2 0 (.dd 5 (.sl 20 (.int .i64 (.int .i64 (.dd 34 .nil))))))))),blks:=[(0,.cells (.sl 20 (.int .i64 (.bool .nil)))),(1,.cells (.seg 25 .nil)),(2,.cells (.row 0 3 .nil)),(3,.row 0)]})] [] [] (trivial:DTok Tryz.prog []) (by kernel_rfl) ⟨fun o v=>by kernel_rfl⟩ Tryz.func155 Tryz.call155
def qxc (o:DOps)(s:SiteT)(a:Int)(b:Int):Option (Bool) :=
 ix o s.apart a (0:UInt32) fun x1=>o.letv (wu b) fun n2=>req (decide (0≤n2)) <| o.letv ((↑x1.toNat:Int).fdiv ((2:Int) ^ min n2.toNat IntKind.u32.bits)) fun n3=>o.letv (n3.tmod (2:Int)) fun n4=>some (n4==1)
def qiT:DFn:={ro:=true,args:=(.agg (.seg 25 .nil) (.int .i64 (.int .i64 .nil))),out:={slots:=(.dd 6 (.bool (.dd 10 .nil)))},T:=Bool,to:=fun(v:(Unit)×(Unit)×(Bool×Unit))=>v.2.2.1,of:=fun x=>((),(),(x,()))}
def topApart:=qxc DOps.ev
def qxd (o:DOps):qiT.In→Option qiT.T:=fun v=>qxc o v.2.2.1.1 v.2.2.2.1 v.2.2.2.2.1
def qxe:DSpec:=qae qiT Tryz.f46 (qxd DOps.ev)
theorem q0l:DH Tryz.prog 46 qxe:=qad (d:=qiT) (Fo:=qxd) ([]:DT) [] [] [] (trivial:DTok Tryz.prog []) (by kernel_rfl) ⟨fun o v=>by kernel_rfl⟩ Tryz.func46 Tryz.call46
def qxf (o:DOps)(s:SiteT):Option (Int) :=
 o.fix (((),((s,()),()),(0:Int),(0:Int),())) fun r1 (_,((x2,_),_),n3,n4,_)=>bif decide (n4<x2.between.length) then o.fix (((),((x2,()),()),n3,n4,(0:Int),())) fun r5 (_,((x6,_),_),n7,n8,n9,_)=>ix o x6.between n8 (dflt 7) fun z10=>bif decide (n9<z10.length) then ix o x6.between n8 (dflt 7) fun z12=>ix o z12 n9 (0:Int) fun n13=>o.letv (max n7 n13) fun n14=>inc o n9 fun n15=>r5 (((),((x6,()),()),n14,n8,n15,())) else inc o n8 fun n11=>r1 (((),((x6,()),()),n7,n11,())) else some n3
def qiU:DFn:={ro:=true,args:=(.agg (.seg 25 .nil) .nil),out:={slots:=(.dd 2 (.int .i64 (.dd 31 .nil)))},T:=Int,to:=fun(v:(Unit)×(Unit)×(Int×Unit))=>v.2.2.1,of:=fun x=>((),(),(x,()))}
def quH:=qxf DOps.ev
def qxg (o:DOps):qiU.In→Option qiU.T:=fun v=>qxf o v.2.2.1.1
def qxh:DSpec:=qae qiU Tryz.f16 (qxg DOps.ev)
theorem q0m:DH Tryz.prog 16 qxh:=qad (d:=qiU) (Fo:=qxg) ([]:DT) [(3,{slots:=(.dead (.ptr 1000 0 (.dead (.int .i64 (.int .i64 (.dd 29 .nil)))))),blks:=[(1000,.cells (.seg 25 .nil))]}),(6,{slots:=(.dead (.ptr 1000 0 (.dead (.int .i64 (.int .i64 (.int .i64 (.dd 28 .nil))))))),blks:=[(1000,.cells (.seg 25 .nil))]})] [] [] (trivial:DTok Tryz.prog []) (by kernel_rfl) ⟨fun o v=>by kernel_rfl⟩ Tryz.func16 Tryz.call16
def qhG (o:DOps)(l:List UInt8):Option (Int) :=
 o.fix (((),(),l,(0:Int),(0:Int),())) fun r1 (_,_,z2,n3,n4,_)=>bif decide (n4<z2.length) then ix o z2 n4 (0:UInt8) fun x5=>bif (↑x5.toNat:Int)==4 then inc o n3 fun n7=>inc o n4 fun n8=>r1 (((),(),z2,n7,n8,())) else inc o n4 fun n6=>r1 (((),(),z2,n3,n6,())) else some n3
def qep:DFn:={ro:=true,args:=(.sl 0 .nil),out:={slots:=(.dd 2 (.int .i64 (.dd 16 .nil)))},T:=Int,to:=fun(v:(Unit)×(Unit)×(Int×Unit))=>v.2.2.1,of:=fun x=>((),(),(x,()))}
def qbq:=qhG DOps.ev
def qoM (o:DOps):qep.In→Option qep.T:=fun v=>qhG o v.2.2.1
def qoN:DSpec:=qae qep Tryz.f15 (qoM DOps.ev)
theorem quI:DH Tryz.prog 15 qoN:=qad (d:=qep) (Fo:=qoM) ([]:DT) [(3,{slots:=(.sl 0 (.dd 2 (.int .i64 (.int .i64 (.dd 14 .nil)))))})] [] [] (trivial:DTok Tryz.prog []) (by kernel_rfl) ⟨fun o v=>by kernel_rfl⟩ Tryz.func15 Tryz.call15
def qlL (o:DOps)(g:Grp)(was:Int)(ran:Int)(now:Int):Option (Bool) :=
 bif was==1 then some (bif now==1 then true else now==2) else bif was==2 then some (bif now==2 then true else bif now==3 then decide (ran≥g.minf) else false) else bif was==3 then some (bif bif now==3 then decide (ran<g.yellowf) else false then true else bif now==1 then ran==g.yellowf else false) else some false
def qcZ:DFn:={ro:=true,args:=(.agg (.seg 17 .nil) (.int .u8 (.int .i64 (.int .u8 .nil)))),out:={slots:=(.dd 8 (.bool (.dd 43 .nil)))},T:=Bool,to:=fun(v:(Unit)×(Unit)×(Bool×Unit))=>v.2.2.1,of:=fun x=>((),(),(x,()))}
def qoO:=qlL DOps.ev
def qlM (o:DOps):qcZ.In→Option qcZ.T:=fun v=>qlL o v.2.2.1.1 v.2.2.2.1 v.2.2.2.2.1 v.2.2.2.2.2.1
def qlN:DSpec:=qae qcZ Tryz.f26 (qlM DOps.ev)
theorem qqM:DH Tryz.prog 26 qlN:=qad (d:=qcZ) (Fo:=qlM) ([]:DT) [] [] [] (trivial:DTok Tryz.prog []) (by kernel_rfl) ⟨fun o v=>by kernel_rfl⟩ Tryz.func26 Tryz.call26
def q67 (o:DOps):Option (SiteT) :=
 some ({id:=(1:Int),groups:={kindf:=(1:Int),minf:=(2:Int),yellowf:=(1:Int):Grp}::{kindf:=(1:Int),minf:=(2:Int),yellowf:=(1:Int):Grp}::nilL17,apart:=UInt32.ofNat (Int.toNat (2:Int))::UInt32.ofNat (Int.toNat (1:Int))::nilL2,between:=((0:Int)::(2:Int)::qeV)::((2:Int)::(0:Int)::qeV)::nilL7,phases:={groupsf:=(1:Int),minf:=(2:Int),maxf:=(5:Int),gapf:=(1:Int),alwaysf:=false:Phs}::{groupsf:=(2:Int),minf:=(2:Int),maxf:=(5:Int),gapf:=(1:Int),alwaysf:=false:Phs}::nilL18,eyes:=nilL19,watch:=(3:Int),feed:=(2:Int),heal:=(4:Int),low:=(8:Int),high:=(20:Int),plans:=qaH:SiteT})
def quJ:DFn:={ro:=false,args:=.nil,out:={slots:=(.ptr 1000 0 (.dd 13 .nil)),blks:=[(1000,.cells (.seg 25 .nil))],fz:=true},T:=SiteT,to:=fun(v:(Unit)×((SiteT×Unit)×Unit)×(Unit))=>v.2.1.1.1,of:=fun x=>((),((x,()),()),())}
def topTwo:=q67 DOps.ev
def q68 (o:DOps):quJ.In→Option quJ.T:=fun v=>q67 o
def q69:DSpec:=qae quJ Tryz.f21 (q68 DOps.ev)
theorem q6A:DH Tryz.prog 21 q69:=qad (d:=quJ) (Fo:=q68) ([]:DT) [] [] [] (trivial:DTok Tryz.prog []) (by kernel_rfl) ⟨fun o v=>by kernel_rfl⟩ Tryz.func21 Tryz.call21
def q25 (o:DOps):Option (List UInt8) :=
 some (UInt8.ofNat 0::UInt8.ofNat 0::UInt8.ofNat 0::UInt8.ofNat 0::UInt8.ofNat 0::UInt8.ofNat 0::UInt8.ofNat 0::UInt8.ofNat 0::UInt8.ofNat 0::UInt8.ofNat 0::UInt8.ofNat 0::UInt8.ofNat 0::UInt8.ofNat 0::UInt8.ofNat 0::UInt8.ofNat 0::UInt8.ofNat 0::UInt8.ofNat 0::UInt8.ofNat 0::UInt8.ofNat 0::UInt8.ofNat 0::UInt8.ofNat 0::UInt8.ofNat 0::UInt8.ofNat 0::UInt8.ofNat 0::UInt8.ofNat 0::UInt8.ofNat 0::UInt8.ofNat 0::UInt8.ofNat 0::UInt8.ofNat 0::UInt8.ofNat 0::UInt8.ofNat 0::UInt8.ofNat 0::UInt8.ofNat 0::UInt8.ofNat 0::UInt8.ofNat 0::UInt8.ofNat 0::UInt8.ofNat 0::UInt8.ofNat 0::UInt8.ofNat 0::UInt8.ofNat 0::UInt8.ofNat 0::UInt8.ofNat 0::UInt8.ofNat 0::UInt8.ofNat 0::UInt8.ofNat 0::UInt8.ofNat 0::UInt8.ofNat 0::UInt8.ofNat 0::UInt8.ofNat 0::UInt8.ofNat 0::UInt8.ofNat 0::UInt8.ofNat 0::UInt8.ofNat 0::UInt8.ofNat 0::UInt8.ofNat 0::UInt8.ofNat 0::UInt8.ofNat 0::UInt8.ofNat 0::UInt8.ofNat 0::UInt8.ofNat 0::UInt8.ofNat 0::UInt8.ofNat 0::UInt8.ofNat 0::UInt8.ofNat 0::UInt8.ofNat 0::UInt8.ofNat 0::UInt8.ofNat 0::UInt8.ofNat 0::UInt8.ofNat 0::UInt8.ofNat 0::UInt8.ofNat 0::UInt8.ofNat 0::UInt8.ofNat 0::UInt8.ofNat 0::UInt8.ofNat 0::UInt8.ofNat 0::UInt8.ofNat 0::UInt8.ofNat 0::UInt8.ofNat 0::UInt8.ofNat 0::UInt8.ofNat 0::UInt8.ofNat 0::UInt8.ofNat 0::UInt8.ofNat 0::UInt8.ofNat 0::UInt8.ofNat 0::UInt8.ofNat 0::UInt8.ofNat 0::UInt8.ofNat 0::UInt8.ofNat 0::UInt8.ofNat 0::UInt8.ofNat 0::UInt8.ofNat 0::UInt8.ofNat 0::UInt8.ofNat 0::UInt8.ofNat 0::UInt8.ofNat 0::UInt8.ofNat 0::UInt8.ofNat 0::UInt8.ofNat 0::UInt8.ofNat 0::UInt8.ofNat 0::UInt8.ofNat 0::UInt8.ofNat 0::UInt8.ofNat 0::UInt8.ofNat 0::UInt8.ofNat 0::UInt8.ofNat 0::UInt8.ofNat 0::UInt8.ofNat 0::UInt8.ofNat 0::UInt8.ofNat 0::UInt8.ofNat 0::UInt8.ofNat 0::UInt8.ofNat 0::UInt8.ofNat 0::UInt8.ofNat 0::UInt8.ofNat 0::UInt8.ofNat 0::UInt8.ofNat 0::UInt8.ofNat 0::UInt8.ofNat 0::UInt8.ofNat 0::UInt8.ofNat 0::UInt8.ofNat 0::UInt8.ofNat 0::UInt8.ofNat 0::UInt8.ofNat 0::UInt8.ofNat 0::UInt8.ofNat 0::UInt8.ofNat 0::UInt8.ofNat 0::UInt8.ofNat 0::UInt8.ofNat 0::UInt8.ofNat 0::UInt8.ofNat 0::UInt8.ofNat 0::UInt8.ofNat 0::UInt8.ofNat 0::UInt8.ofNat 0::UInt8.ofNat 0::UInt8.ofNat 0::UInt8.ofNat 0::UInt8.ofNat 0::UInt8.ofNat 0::UInt8.ofNat 0::UInt8.ofNat 0::UInt8.ofNat 0::UInt8.ofNat 0::UInt8.ofNat 0::UInt8.ofNat 0::UInt8.ofNat 0::UInt8.ofNat 0::UInt8.ofNat 0::UInt8.ofNat 0::UInt8.ofNat 0::UInt8.ofNat 0::UInt8.ofNat 0::UInt8.ofNat 0::UInt8.ofNat 0::UInt8.ofNat 0::UInt8.ofNat 0::UInt8.ofNat 0::UInt8.ofNat 0::UInt8.ofNat 0::UInt8.ofNat 0::UInt8.ofNat 0::UInt8.ofNat 0::UInt8.ofNat 0::UInt8.ofNat 0::UInt8.ofNat 0::UInt8.ofNat 0::UInt8.ofNat 0::UInt8.ofNat 0::UInt8.ofNat 0::UInt8.ofNat 0::UInt8.ofNat 0::UInt8.ofNat 0::UInt8.ofNat 0::UInt8.ofNat 0::UInt8.ofNat 0::UInt8.ofNat 0::UInt8.ofNat 0::UInt8.ofNat 0::UInt8.ofNat 0::UInt8.ofNat 0::UInt8.ofNat 0::UInt8.ofNat 0::UInt8.ofNat 0::UInt8.ofNat 0::UInt8.ofNat 0::UInt8.ofNat 0::UInt8.ofNat 0::UInt8.ofNat 0::UInt8.ofNat 0::UInt8.ofNat 0::UInt8.ofNat 0::UInt8.ofNat 0::UInt8.ofNat 0::UInt8.ofNat 0::UInt8.ofNat 0::UInt8.ofNat 0::UInt8.ofNat 0::UInt8.ofNat 0::UInt8.ofNat 0::UInt8.ofNat 0::UInt8.ofNat 0::UInt8.ofNat 0::UInt8.ofNat 0::UInt8.ofNat 0::UInt8.ofNat 0::UInt8.ofNat 0::UInt8.ofNat 0::UInt8.ofNat 0::UInt8.ofNat 0::UInt8.ofNat 0::UInt8.ofNat 0::UInt8.ofNat 0::UInt8.ofNat 0::UInt8.ofNat 0::UInt8.ofNat 0::UInt8.ofNat 0::UInt8.ofNat 0::UInt8.ofNat 0::UInt8.ofNat 0::UInt8.ofNat 0::UInt8.ofNat 0::UInt8.ofNat 0::UInt8.ofNat 0::UInt8.ofNat 0::UInt8.ofNat 0::UInt8.ofNat 0::UInt8.ofNat 0::UInt8.ofNat 0::UInt8.ofNat 0::UInt8.ofNat 0::UInt8.ofNat 0::UInt8.ofNat 0::UInt8.ofNat 0::UInt8.ofNat 0::UInt8.ofNat 0::UInt8.ofNat 0::UInt8.ofNat 0::UInt8.ofNat 0::UInt8.ofNat 0::UInt8.ofNat 0::UInt8.ofNat 0::UInt8.ofNat 0::UInt8.ofNat 0::UInt8.ofNat 0::UInt8.ofNat 0::UInt8.ofNat 0::UInt8.ofNat 0::UInt8.ofNat 0::UInt8.ofNat 0::UInt8.ofNat 0::qal)
def qmM:DFn:={ro:=false,args:=.nil,out:={slots:=(.ptr 1000 0 (.dd 2 .nil)),blks:=[(1000,.cells (.sl 0 .nil))],fz:=true},T:=List UInt8,to:=fun(v:(Unit)×((List UInt8×Unit)×Unit)×(Unit))=>v.2.1.1.1,of:=fun x=>((),((x,()),()),())}
def q6B:=q25 DOps.ev
def q26 (o:DOps):qmM.In→Option qmM.T:=fun v=>q25 o
def q27:DSpec:=qae qmM Tryz.f22 (q26 DOps.ev)
theorem q4h:DH Tryz.prog 22 q27:=qad (d:=qmM) (Fo:=q26) ([]:DT) [] [] [] (trivial:DTok Tryz.prog []) (by kernel_rfl) ⟨fun o v=>by kernel_rfl⟩ Tryz.func22 Tryz.call22
def quK (o:DOps)(s:SiteT):Option (Bool) :=
 bif bif bif bif bif bif decide ((s.groups.length:Int) > 40) then true else decide ((s.apart.length:Int) > 40) then true else decide ((s.between.length:Int) > 40) then true else decide ((s.phases.length:Int) > 40) then true else decide ((s.eyes.length:Int) > 60) then true else decide ((s.plans.length:Int) > 40) then some true else o.fix (((),((s,()),()),(0:Int),())) fun r1 (_,((x2,_),_),n3,_)=>bif decide (n3<x2.between.length) then ix o x2.between n3 (dflt 7) fun z9=>bif decide ((z9.length:Int) > 40) then some true else inc o n3 fun n10=>r1 (((),((x2,()),()),n10,())) else o.fix (((),((x2,()),()),(0:Int),())) fun r4 (_,((x5,_),_),n6,_)=>bif decide (n6<x5.plans.length) then ix o x5.plans n6 (dflt 10) fun x7=>bif decide ((x7.splits.length:Int) > 40) then some true else inc o n6 fun n8=>r4 (((),((x5,()),()),n8,())) else some false
def qmN:DFn:={ro:=true,args:=(.agg (.seg 25 .nil) .nil),out:={slots:=(.dd 2 (.bool (.dd 65 .nil)))},T:=Bool,to:=fun(v:(Unit)×(Unit)×(Bool×Unit))=>v.2.2.1,of:=fun x=>((),(),(x,()))}
def q0n:=quK DOps.ev
def q28 (o:DOps):qmN.In→Option qmN.T:=fun v=>quK o v.2.2.1.1
def q29:DSpec:=qae qmN Tryz.f23 (q28 DOps.ev)
theorem q4i:DH Tryz.prog 23 q29:=qad (d:=qmN) (Fo:=q28) ([]:DT) [(4,{slots:=(.dead (.ptr 1000 0 (.dead (.int .i64 (.dd 64 .nil))))),blks:=[(1000,.cells (.seg 25 .nil))]}),(9,{slots:=(.dead (.ptr 1000 0 (.dd 2 (.int .i64 (.dd 63 .nil))))),blks:=[(1000,.cells (.seg 25 .nil))]})] [] [] (trivial:DTok Tryz.prog []) (by kernel_rfl) ⟨fun o v=>by kernel_rfl⟩ Tryz.func23 Tryz.call23
def quL (o:DOps)(l:List Inp):Option (Int) :=
 o.fix (((),(),l,(l.length:Int),(0:Int),())) fun r1 (_,_,z2,n3,n4,_)=>bif decide (n4<z2.length) then ix o z2 n4 (dflt 24) fun x5=>ix o z2 n4 (dflt 24) fun x6=>o.letv (wi ((x5.bytesf.length:Int)+(x6.backf.length:Int))) fun n7=>o.letv (wi (n3+n7)) fun n8=>inc o n4 fun n9=>r1 (((),(),z2,n8,n9,())) else some n3
def qmO:DFn:={ro:=true,args:=(.sl 24 .nil),out:={slots:=(.dd 2 (.int .i64 (.dd 26 .nil)))},T:=Int,to:=fun(v:(Unit)×(Unit)×(Int×Unit))=>v.2.2.1,of:=fun x=>((),(),(x,()))}
def q0o:=quL DOps.ev
def q2A (o:DOps):qmO.In→Option qmO.T:=fun v=>quL o v.2.2.1
def q2B:DSpec:=qae qmO Tryz.f24 (q2A DOps.ev)
theorem q4j:DH Tryz.prog 24 q2B:=qad (d:=qmO) (Fo:=q2A) ([]:DT) [(3,{slots:=(.sl 24 (.dd 2 (.int .i64 (.int .i64 (.dd 24 .nil)))))})] [] [] (trivial:DTok Tryz.prog []) (by kernel_rfl) ⟨fun o v=>by kernel_rfl⟩ Tryz.func24 Tryz.call24
def topSameO (o:DOps)(a:List (List UInt8))(b:List (List UInt8))(many:Int):Option (Bool) :=
 bif bif decide ((a.length:Int)<many) then true else decide ((b.length:Int)<many) then some false else o.fix (((),(),a,b,many,(0:Int),())) fun r1 (_,_,z2,z3,n4,n5,_)=>bif decide (n5<n4) then ix o z2 n5 (dflt 6) fun z6=>ix o z3 n5 (dflt 6) fun z7=>bif !z6.toArray.toList==z7.toArray.toList then some false else inc o n5 fun n8=>r1 (((),(),z2,z3,n4,n8,())) else some true
def qmP:DFn:={ro:=true,args:=(.sl 6 (.sl 6 (.int .i64 .nil))),out:={slots:=(.dd 6 (.bool (.dd 27 .nil)))},T:=Bool,to:=fun(v:(Unit)×(Unit)×(Bool×Unit))=>v.2.2.1,of:=fun x=>((),(),(x,()))}
def q2C (o:DOps):qmP.In→Option qmP.T:=fun v=>topSameO o v.2.2.1 v.2.2.2.1 v.2.2.2.2.1
def q2D:DSpec:=qae qmP Tryz.f14 (q2C DOps.ev)
theorem q4k:DH Tryz.prog 14 q2D:=qad (d:=qmP) (Fo:=q2C) ([]:DT) [(4,{slots:=(.sl 6 (.sl 6 (.int .i64 (.dd 4 (.int .i64 (.dd 26 .nil))))))})] [] [] (trivial:DTok Tryz.prog []) (by kernel_rfl) ⟨fun o v=>by kernel_rfl⟩ Tryz.func14 Tryz.call14
def qoP (o:DOps)(lit:List UInt8)(shown:List UInt8):Option (Bool) :=
 some (bif decide ((shown.length:Int) > 0) then !lit.toArray.toList==shown.toArray.toList else false)
def qiV:DFn:={ro:=true,args:=(.sl 0 (.sl 0 .nil)),out:={slots:=(.dd 4 (.bool (.dd 10 .nil)))},T:=Bool,to:=fun(v:(Unit)×(Unit)×(Bool×Unit))=>v.2.2.1,of:=fun x=>((),(),(x,()))}
def quM:=qoP DOps.ev
def qxi (o:DOps):qiV.In→Option qiV.T:=fun v=>qoP o v.2.2.1 v.2.2.2.1
def qxj:DSpec:=qae qiV Tryz.f19 (qxi DOps.ev)
theorem q0p:DH Tryz.prog 19 qxj:=qad (d:=qiV) (Fo:=qxi) ([]:DT) [] [] [] (trivial:DTok Tryz.prog []) (by kernel_rfl) ⟨fun o v=>by kernel_rfl⟩ Tryz.func19 Tryz.call19
def tl0:DT:=(210,mnzD)::(51,q6p)::(171,q2q)::(172,tzD .u32 qau)::(173,qeM)::(59,qod)::(74,q2s)::(73,qof)::(211,q6s)::(105,q2u)::(170,qw4)::(50,qoi)::(106,qr2)::(167,q6v)::(199,qr4)::(203,qlA)::(63,qlC)::(123,qr6)::(99,qwA)::(168,q6y)::(104,qom)::(206,qr8)::(179,qbX)::(120,qwD)::(147,qwF)::(45,qrA)::(125,qor)::(156,qrC)::(161,q2y)::(200,qiJ)::(197,qwJ)::(201,qwL)::(202,qlE)::(191,tzD .u64 qav)::(184,qoy)::(129,qnU)::(209,qo0)::(130,qwO)::(186,q62)::(187,qeO)::(188,qrE)::(141,qlG)::(189,qwR)::(137,qrG)::(190,qo5)::(85,qrI)::(142,qrK)::(143,qrM)::(153,q20)::(101,fixOfS)::(166,q23)::(177,qrO)::(62,qlI)::(75,qiS)::(76,qhk)::(96,qlK)::(98,qoA)::(119,qoC)::(212,qrQ)::(213,qrT)::(134,qrV)::(148,qrX)::(198,qoG)::(152,qoI)::(195,qrZ)::(155,qoL)::(46,qxe)::(16,qxh)::(15,qoN)::(26,qlN)::(21,q69)::(22,q27)::(23,q29)::(24,q2B)::(14,q2D)::(19,qxj)::([]:DT)
theorem qan:DTok Tryz.prog tl0:=.cons mnz_dh <| .cons q6q <| .cons q4a <| .cons tz32_dh <| .cons qiC <| .cons quq <| .cons q4b <| .cons qut <| .cons q6t <| .cons q4c <| .cons qzX <| .cons quw <| .cons qw5 <| .cons q6w <| .cons qw7 <| .cons qqE <| .cons qqF <| .cons qw8 <| .cons qzZ <| .cons q6z <| .cons qu0 <| .cons qwB <| .cons qed <| .cons q0b <| .cons q0c <| .cons qwG <| .cons qu2 <| .cons qwH <| .cons q4d <| .cons qou <| .cons q0d <| .cons q0e <| .cons qqG <| .cons tz64_dh <| .cons qu4 <| .cons qzQ <| .cons qu5 <| .cons q0h <| .cons q63 <| .cons qiN <| .cons qwP <| .cons qqH <| .cons q0j <| .cons qwS <| .cons qu8 <| .cons qwT <| .cons qwU <| .cons qwV <| .cons q4e <| .cons fixOf_ok <| .cons q4f <| .cons qwW <| .cons qqJ <| .cons qo8 <| .cons qmz <| .cons qqL <| .cons quC <| .cons quD <| .cons qwX <| .cons qwY <| .cons qwZ <| .cons qxa <| .cons quE <| .cons quF <| .cons qxb <| .cons quG <| .cons q0l <| .cons q0m <| .cons quI <| .cons qqM <| .cons q6A <| .cons q4h <| .cons q4i <| .cons q4j <| .cons q4k <| .cons q0p <| (trivial:DTok Tryz.prog [])
def qk9 (o:DOps)(s:SiteT):Option (Bool) :=
 o.bind (qch (s.groups.length:Int) (1:Int) (16:Int)) fun b1=>bif bif bif !b1 then true else (s.apart.length:Int) != (s.groups.length:Int) then true else (s.between.length:Int) != (s.groups.length:Int) then some false else o.bind (qch (s.phases.length:Int) (1:Int) (8:Int)) fun b2=>bif bif bif !b2 then true else decide ((s.eyes.length:Int) > 24) then true else decide ((s.plans.length:Int) > 8) then some false else o.fix (((),((s,()),()),(s.groups.length:Int),s.between,(s.between.length:Int),(0:Int),())) fun r3 (_,((x4,_),_),n5,z6,n7,n8,_)=>bif decide (n8<n7) then ix o z6 n8 (dflt 7) fun z9=>req (!!(z9.length:Int) != n5||decide (0≤n8)&&decide (n8<x4.apart.length)) <| o.letv (x4.apart.getD n8.toNat (0:UInt32)) fun x10=>req (!!(z9.length:Int) != n5||decide (0≤n5)) <| o.letv ((↑x10.toNat:Int).fdiv ((2:Int) ^ min n5.toNat IntKind.u32.bits)) fun n11=>bif bif (z9.length:Int) != n5 then true else n11 != 0 then some false else inc o n8 fun n12=>r3 (((),((x4,()),()),n5,z6,n7,n12,())) else some true
def qgm:DFn:={ro:=true,args:=(.agg (.seg 25 .nil) .nil),out:={slots:=(.dd 2 (.bool (.dd 65 .nil)))},T:=Bool,to:=fun(v:(Unit)×(Unit)×(Bool×Unit))=>v.2.2.1,of:=fun x=>((),(),(x,()))}
def qoQ:=qk9 DOps.ev
def qsa (o:DOps):qgm.In→Option qgm.T:=fun v=>qk9 o v.2.2.1.1
def qsb:DSpec:=qae qgm Tryz.f52 (qsa DOps.ev)
theorem qxk:DH Tryz.prog 52 qsb:=qad (d:=qgm) (Fo:=qsa) tl0 [(5,{slots:=(.dead (.ptr 1000 0 (.dead (.int .i64 (.dd 42 (.sl 7 (.int .i64 (.int .i64 (.dd 19 .nil))))))))),blks:=[(1000,.cells (.seg 25 .nil))]})] [] [] qan (by kernel_rfl) ⟨fun o v=>by kernel_rfl⟩ Tryz.func52 Tryz.call52
def qkA (o:DOps)(l:List Int):Option (Bool) :=
 o.fix (((),(),l,(l.length:Int),(0:Int),())) fun r1 (_,_,z2,n3,n4,_)=>bif decide (n4<n3) then ix o z2 n4 (0:Int) fun n5=>o.bind (qch n5 (1:Int) (1048576:Int)) fun b6=>bif !b6 then some false else inc o n4 fun n7=>r1 (((),(),z2,n3,n7,())) else some true
def qgn:DFn:={ro:=true,args:=(.sl 1 .nil),out:={slots:=(.dd 2 (.bool (.dd 12 .nil)))},T:=Bool,to:=fun(v:(Unit)×(Unit)×(Bool×Unit))=>v.2.2.1,of:=fun x=>((),(),(x,()))}
def qcC:=qkA DOps.ev
def qsc (o:DOps):qgn.In→Option qgn.T:=fun v=>qkA o v.2.2.1
def qsd:DSpec:=qae qgn Tryz.f109 (qsc DOps.ev)
theorem qxl:DH Tryz.prog 109 qsd:=qad (d:=qgn) (Fo:=qsc) tl0 [(2,{slots:=(.dd 5 (.sl 1 (.int .i64 (.int .i64 (.dd 7 .nil)))))})] [] [] qan (by kernel_rfl) ⟨fun o v=>by kernel_rfl⟩ Tryz.func109 Tryz.call109
def quN (o:DOps)(s:Int)(i:Int):Option (Bool) :=
 o.bind (qob i) fun n1=>o.letv (bits BinOp.and IntKind.u32 s n1) fun n2=>some (n2 != 0)
def qmQ:DFn:={ro:=true,args:=(.int .u32 (.int .i64 .nil)),out:={slots:=(.dd 4 (.bool (.dd 5 .nil)))},T:=Bool,to:=fun(v:(Unit)×(Unit)×(Bool×Unit))=>v.2.2.1,of:=fun x=>((),(),(x,()))}
def qkB:=quN DOps.ev
def q2E (o:DOps):qmQ.In→Option qmQ.T:=fun v=>quN o v.2.2.1 v.2.2.2.1
def q2F:DSpec:=qae qmQ Tryz.f110 (q2E DOps.ev)
theorem q4l:DH Tryz.prog 110 q2F:=qad (d:=qmQ) (Fo:=q2E) tl0 [] [] [] qan (by kernel_rfl) ⟨fun o v=>by kernel_rfl⟩ Tryz.func110 Tryz.call110
def qkC (o:DOps)(s:Int):Option (Int) :=
 bif s==0 then some ((-1:Int)) else o.bind (qau s) fun n1=>some n1
def qgo:DFn:={ro:=true,args:=(.int .u32 .nil),out:={slots:=(.dd 2 (.int .i64 (.dd 4 .nil)))},T:=Int,to:=fun(v:(Unit)×(Unit)×(Int×Unit))=>v.2.2.1,of:=fun x=>((),(),(x,()))}
def qiW:=qkC DOps.ev
def qse (o:DOps):qgo.In→Option qgo.T:=fun v=>qkC o v.2.2.1
def qsf:DSpec:=qae qgo Tryz.f111 (qse DOps.ev)
theorem qxm:DH Tryz.prog 111 qsf:=qad (d:=qgo) (Fo:=qse) tl0 [] [] [] qan (by kernel_rfl) ⟨fun o v=>by kernel_rfl⟩ Tryz.func111 Tryz.call111
def qfw (o:DOps)(s:Int)(i:Int):Option (Int) :=
 o.bind (qob i) fun n1=>o.letv (bits BinOp.andNot IntKind.u32 s n1) fun n2=>some n2
def qda:DFn:={ro:=true,args:=(.int .u32 (.int .i64 .nil)),out:={slots:=(.dd 4 (.int .u32 (.dd 4 .nil)))},T:=Int,to:=fun(v:(Unit)×(Unit)×(Int×Unit))=>v.2.2.1,of:=fun x=>((),(),(x,()))}
def qcD:=qfw DOps.ev
def qlO (o:DOps):qda.In→Option qda.T:=fun v=>qfw o v.2.2.1 v.2.2.2.1
def qlP:DSpec:=qae qda Tryz.f112 (qlO DOps.ev)
theorem qqN:DH Tryz.prog 112 qlP:=qad (d:=qda) (Fo:=qlO) tl0 [] [] [] qan (by kernel_rfl) ⟨fun o v=>by kernel_rfl⟩ Tryz.func112 Tryz.call112
def qkD (o:DOps)(s:Int):Option (Int) :=
 o.bind (qcA s) fun n1=>some n1
def qgp:DFn:={ro:=true,args:=(.int .u32 .nil),out:={slots:=(.dd 2 (.int .i64 (.dd 2 .nil)))},T:=Int,to:=fun(v:(Unit)×(Unit)×(Int×Unit))=>v.2.2.1,of:=fun x=>((),(),(x,()))}
def qoR:=qkD DOps.ev
def qsg (o:DOps):qgp.In→Option qgp.T:=fun v=>qkD o v.2.2.1
def qsh:DSpec:=qae qgp Tryz.f113 (qsg DOps.ev)
theorem qxn:DH Tryz.prog 113 qsh:=qad (d:=qgp) (Fo:=qsg) tl0 [] [] [] qan (by kernel_rfl) ⟨fun o v=>by kernel_rfl⟩ Tryz.func113 Tryz.call113
def qkE (o:DOps)(d:List UInt8):Option (Int×Int) :=
 o.bind (qd4 d) fun n1=>bif n1 != 0 then some (((0:Int),n1)) else o.letv (wi ((d.length:Int).tdiv (64:Int))) fun n2=>some ((n2,(0:Int)))
def qgq:DFn:={ro:=true,args:=(.agg (.sl 0 .nil) .nil),out:={slots:=(.dd 2 (.int .i64 (.int .i64 (.dd 10 .nil))))},T:=Int×Int,to:=fun(v:(Unit)×(Unit)×(Int×Int×Unit))=>(v.2.2.1,v.2.2.2.1),of:=fun x=>((),(),(x.1,(x.2,())))}
def qd9:=qkE DOps.ev
def qsi (o:DOps):qgq.In→Option qgq.T:=fun v=>qkE o v.2.2.1.1
def qsj:DSpec:=qae qgq Tryz.f58 (qsi DOps.ev)
theorem qxo:DH Tryz.prog 58 qsj:=qad (d:=qgq) (Fo:=qsi) tl0 [] [] [] qan (by kernel_rfl) ⟨fun o v=>by kernel_rfl⟩ Tryz.func58 Tryz.call58
def qfx (o:DOps)(b:List UInt8):Option (Int) :=
 o.bind (qw2 b) fun(n1,n2)=>some n1
def qdb:DFn:={ro:=true,args:=(.sl 0 .nil),out:={slots:=(.dd 2 (.int .u64 (.dd 8 .nil)))},T:=Int,to:=fun(v:(Unit)×(Unit)×(Int×Unit))=>v.2.2.1,of:=fun x=>((),(),(x,()))}
def qcE:=qfx DOps.ev
def qlQ (o:DOps):qdb.In→Option qdb.T:=fun v=>qfx o v.2.2.1
def qlR:DSpec:=qae qdb Tryz.f182 (qlQ DOps.ev)
theorem qqO:DH Tryz.prog 182 qlR:=qad (d:=qdb) (Fo:=qlQ) tl0 [] [] [] qan (by kernel_rfl) ⟨fun o v=>by kernel_rfl⟩ Tryz.func182 Tryz.call182
def qoS (o:DOps)(l:List Int):Option (List UInt8) :=
 o.fix (((qal,()),(),l,(l.length:Int),(0:Int),())) fun r1 ((z2,_),_,z3,n4,n5,_)=>bif decide (n5<n4) then ix o z3 n5 (0:Int) fun n6=>o.letv (wu n6) fun n7=>o.bind (qcR n7) fun z8=>rm (z2.length+z8.length) 1 <| o.letv (List.take z2.length z2++List.take z8.length z8) fun z9=>inc o n5 fun n10=>rs (z2.length+z8.length) z9.length <| r1 (((z9,()),(),z3,n4,n10,())) else rs z2.length z2.length <| some z2
def qiX:DFn:={ro:=true,own:=[true],lend:=fun j=>Nat.beq j 0,args:=(.nilsl (.sl 1 .nil)),out:={slots:=(.dd 4 (.row 0 900 (.dd 15 .nil))),blks:=[(900,.row 0)],boxes:=[(4,900,0)]},T:=List (UInt8),to:=fun(v:(List (UInt8)×Unit)×(Unit)×(Unit))=>v.1.1,of:=fun x=>((x,()),(),())}
def quO:=qoS DOps.ev
def qxp (o:DOps):qiX.In→Option qiX.T:=fun v=>qoS o v.2.2.1
def qxq:DSpec:=qae qiX Tryz.f169 (qxp DOps.ev)
theorem q0q:DH Tryz.prog 169 qxq:=qad (d:=qiX) (Fo:=qxp) tl0 [(2,{slots:=(.row 0 900 (.dd 6 (.sl 1 (.int .i64 (.int .i64 (.dd 10 .nil)))))),blks:=[(900,.row 0)],boxes:=[(0,900,0)]})] [] [] qan (by kernel_rfl) ⟨fun o v=>by kernel_rfl⟩ Tryz.func169 Tryz.call169
def qhH (o:DOps)(r:List UInt8)(r2:Bool)(r3:SiteT)(most:Int):Option (Int×List UInt8×Bool×SiteT) :=
 o.bind (qkl r) fun(n1,n2,n3)=>o.letv (wu most) fun n4=>bif bif n3 != 0 then true else decide (n1 > n4) then some (((0:Int),r,true,r3)) else req (decide (0≤n2)) <| req (decide (n2≤r.length)) <| o.letv (wi n1) fun n5=>some ((n5,List.drop n2.toNat r,r2,r3))
def qeq:DFn:={ro:=false,own:=[false],args:=(.ptr 0 0 (.int .i64 .nil)),B:=[.cells (.sl 0 (.bool (.seg 25 .nil)))],out:={slots:=(.dd 4 (.int .i64 (.dd 34 .nil))),blks:=[(0,.cells (.sl 0 (.bool (.seg 25 .nil))))],fz:=true},T:=Int×List UInt8×Bool×SiteT,to:=fun(v:(Unit)×((List UInt8×Bool×SiteT×Unit)×Unit)×(Int×Unit))=>(v.2.2.1,v.2.1.1.1,v.2.1.1.2.1,v.2.1.1.2.2.1),of:=fun x=>((),((x.2.1,(x.2.2.1,(x.2.2.2,()))),()),(x.1,()))}
def qaU:=qhH DOps.ev
def qoT (o:DOps):qeq.In→Option qeq.T:=fun v=>qhH o v.2.1.1.1 v.2.1.1.2.1 v.2.1.1.2.2.1 v.2.2.1
def qoU:DSpec:=qae qeq Tryz.f218 (qoT DOps.ev)
theorem quP:DH Tryz.prog 218 qoU:=qad (d:=qeq) (Fo:=qoT) tl0 [] [] [] qan (by kernel_rfl) ⟨fun o v=>by kernel_rfl⟩ Tryz.func218 Tryz.call218
def quQ (o:DOps)(r:List UInt8)(r2:Bool)(most:Int):Option (Int×List UInt8×Bool) :=
 o.bind (qkl r) fun(n1,n2,n3)=>o.letv (wu most) fun n4=>bif bif n3 != 0 then true else decide (n1 > n4) then some (((0:Int),r,true)) else req (decide (0≤n2)) <| req (decide (n2≤r.length)) <| o.letv (wi n1) fun n5=>some ((n5,List.drop n2.toNat r,r2))
def qmR:DFn:={ro:=false,own:=[false],args:=(.ptr 0 0 (.int .i64 .nil)),B:=[.cells (.sl 0 (.bool .nil))],out:={slots:=(.dd 4 (.int .i64 (.dd 34 .nil))),blks:=[(0,.cells (.sl 0 (.bool .nil)))],fz:=true},T:=Int×List UInt8×Bool,to:=fun(v:(Unit)×((List UInt8×Bool×Unit)×Unit)×(Int×Unit))=>(v.2.2.1,v.2.1.1.1,v.2.1.1.2.1),of:=fun x=>((),((x.2.1,(x.2.2,())),()),(x.1,()))}
def qhI:=quQ DOps.ev
def q2G (o:DOps):qmR.In→Option qmR.T:=fun v=>quQ o v.2.1.1.1 v.2.1.1.2.1 v.2.2.1
def q2H:DSpec:=qae qmR Tryz.f48 (q2G DOps.ev)
theorem q4m:DH Tryz.prog 48 q2H:=qad (d:=qmR) (Fo:=q2G) tl0 [] [] [] qan (by kernel_rfl) ⟨fun o v=>by kernel_rfl⟩ Tryz.func48 Tryz.call48
def qoV (o:DOps)(l:List Int):Option (List UInt8) :=
 o.fix (((qal,()),(),l,(l.length:Int),(0:Int),())) fun r1 ((z2,_),_,z3,n4,n5,_)=>bif decide (n5<n4) then ix o z3 n5 (0:Int) fun n6=>o.letv (wu n6) fun n7=>o.bind (qcR n7) fun z8=>rm (z2.length+z8.length) 1 <| o.letv (List.take z2.length z2++List.take z8.length z8) fun z9=>inc o n5 fun n10=>rs (z2.length+z8.length) z9.length <| r1 (((z9,()),(),z3,n4,n10,())) else rs z2.length z2.length <| some z2
def qiY:DFn:={ro:=true,own:=[true],lend:=fun j=>Nat.beq j 0,args:=(.nilsl (.sl 1 .nil)),out:={slots:=(.dd 4 (.row 0 900 (.dd 15 .nil))),blks:=[(900,.row 0)],boxes:=[(4,900,0)]},T:=List (UInt8),to:=fun(v:(List (UInt8)×Unit)×(Unit)×(Unit))=>v.1.1,of:=fun x=>((x,()),(),())}
def qer:=qoV DOps.ev
def qxr (o:DOps):qiY.In→Option qiY.T:=fun v=>qoV o v.2.2.1
def qxs:DSpec:=qae qiY Tryz.f108 (qxr DOps.ev)
theorem q0r:DH Tryz.prog 108 qxs:=qad (d:=qiY) (Fo:=qxr) tl0 [(2,{slots:=(.row 0 900 (.dd 6 (.sl 1 (.int .i64 (.int .i64 (.dd 10 .nil)))))),blks:=[(900,.row 0)],boxes:=[(0,900,0)]})] [] [] qan (by kernel_rfl) ⟨fun o v=>by kernel_rfl⟩ Tryz.func108 Tryz.call108
def qes (o:DOps)(s:SiteT):Option (Int) :=
 o.fix (((),((s,()),()),(0:Int),(s.groups.length:Int),(0:Int),())) fun r1 (_,((x2,_),_),n3,n4,n5,_)=>bif decide (n5<n4) then o.fix (((),((x2,()),()),n3,n5,n4,n5,(x2.groups.length:Int),(0:Int),())) fun r6 (_,((x7,_),_),n8,n9,n10,n11,n12,n13,_)=>bif decide (n13<n12) then o.bind (qfq x7 n9 n13) fun b15=>bif b15 then o.bind (qea x7 n9 n13) fun n17=>o.letv (max n8 n17) fun n18=>inc o n13 fun n19=>r6 (((),((x7,()),()),n18,n9,n10,n11,n12,n19,())) else inc o n13 fun n16=>r6 (((),((x7,()),()),n8,n9,n10,n11,n12,n16,())) else inc o n11 fun n14=>r1 (((),((x7,()),()),n8,n10,n14,())) else some n3
def qcm:DFn:={ro:=true,args:=(.agg (.seg 25 .nil) .nil),out:={slots:=(.dd 2 (.int .i64 (.dd 28 .nil)))},T:=Int,to:=fun(v:(Unit)×(Unit)×(Int×Unit))=>v.2.2.1,of:=fun x=>((),(),(x,()))}
def qbY:=qes DOps.ev
def qiZ (o:DOps):qcm.In→Option qcm.T:=fun v=>qes o v.2.2.1.1
def qja:DSpec:=qae qcm Tryz.f165 (qiZ DOps.ev)
theorem qoW:DH Tryz.prog 165 qja:=qad (d:=qcm) (Fo:=qiZ) tl0 [(3,{slots:=(.dead (.ptr 1000 0 (.dead (.int .i64 (.dd 4 (.int .i64 (.int .i64 (.dd 21 .nil)))))))),blks:=[(1000,.cells (.seg 25 .nil))]}),(6,{slots:=(.dead (.ptr 1000 0 (.dead (.int .i64 (.int .i64 (.dd 3 (.int .i64 (.int .i64 (.dd 4 (.int .i64 (.int .i64 (.dd 15 .nil)))))))))))),blks:=[(1000,.cells (.seg 25 .nil))]})] [] [] qan (by kernel_rfl) ⟨fun o v=>by kernel_rfl⟩ Tryz.func165 Tryz.call165
def qbr (o:DOps)(m:Msg):Option (List UInt8×Int) :=
 bif decide ((m.body.length:Int) > 512) then some ((qal,(3:Int))) else o.letv (wu (↑m.seq.toNat:Int)) fun n1=>o.bind (qw6 n1 (4:Int)) fun(z2,n3)=>o.join (fun J4=>sm o [req (decide ((1+z2.length)*1≤140737488355328)) <| o.letv (UInt8.ofNat (↑m.kind.toNat:Int).toNat::List.append._f [] PUnit.unit (List.take z2.length z2)) fun z5=>req (decide ((1+z2.length+m.body.length)*1≤140737488355328)) <| o.letv (List.take (1+z2.length) z5++m.body) fun z6=>rs (1+z2.length+m.body.length) z6.length <| J4 (((z6,()),(),()))] (.n (.n (.l 0) (.n (.l 0) (.l 0))) (.n (.n (.l 0) (.l 0)) (.l 0)))) fun((z17,_),_,_)=>o.bind (q2v (List.take z17.length z17)) fun n18=>o.letv (wu n18) fun n19=>o.bind (qw6 n19 (4:Int)) fun(z20,n21)=>rm (z17.length+z20.length) 1 <| o.letv (List.take z17.length z17++List.take z20.length z20) fun z22=>rs (z17.length+z20.length) z22.length <| some ((z22,(0:Int)))
def qdc:DFn:={ro:=true,args:=(.agg (.seg 8 .nil) .nil),out:={slots:=(.dd 2 (.row 0 902 (.int .i64 (.dd 34 .nil)))),blks:=[(902,.row 0)],boxes:=[(2,902,0)]},T:=List (UInt8)×Int,to:=fun(v:(List (UInt8)×Unit)×(Unit)×(Int×Unit))=>(v.1.1,v.2.2.1),of:=fun x=>((x.1,()),(),(x.2,()))}
def qhJ:=qbr DOps.ev
def qlS (o:DOps):qdc.In→Option qdc.T:=fun v=>qbr o v.2.2.1.1
def qlT:DSpec:=qae qdc Tryz.f103 (qlS DOps.ev)
theorem qqP (m:Msg):qbr DOps.std m=qbr DOps.ev m:=by unfold qbr;simp (disch:=first|rfl|(simp only[qaD];exact req5 _ _ _ _ _ _)|(simp only[mks];first|exact qaC _ _ _|exact qcw _ _ _ _|exact qcx _ _ _ _|exact qcy _ _ _ _|exact qcz _ _ _ _|exact qc0 _ _ _ _)) only[sm_l,sm_n,qdr,qds,qhs,qaw,qbg];kernel_rfl
theorem qqQ:DH Tryz.prog 103 qlT:=qad (d:=qdc) (Fo:=qlS) tl0 [] [(4,{slots:=(.dd 6 (.row 0 906 (.dd 31 .nil))),blks:=[(906,.row 0)],boxes:=[(6,906,0)]})] [] qan (funext fun v=>qqP _) ⟨fun o v=>by kernel_rfl⟩ Tryz.func103 Tryz.call103
def qkF (o:DOps)(b:List UInt8):Option (Int×Int×Int×List UInt8) :=
 o.letv (wi ((b.length:Int)-4)) fun n1=>bif bif decide (n1<5) then true else decide (n1 > 517) then some (((8:Int),(0:Int),(0:Int),qal)) else req (decide ((5:Int)≤b.length)) <| o.bind (qw2 (List.drop (Int.toNat (1:Int)) (List.take (Int.toNat (5:Int)) b))) fun(n2,n3)=>req (decide (0≤n1)) <| req (decide (n1≤b.length)) <| o.bind (qw2 (List.drop n1.toNat b)) fun(n4,n5)=>req (decide (0≤n1)) <| req (decide (n1≤b.length)) <| o.bind (q2v (List.take n1.toNat b)) fun n6=>o.letv (wu n6) fun n7=>bif n7 != n4 then some (((8:Int),(0:Int),(0:Int),qal)) else req (decide ((0:Int)<b.length)) <| o.letv (b.getD (Int.toNat (0:Int)) (0:UInt8)) fun x8=>o.letv (wq n2) fun n9=>req (decide (5≤n1)) <| req (decide (n1≤b.length)) <| o.bind (qcr (List.drop (Int.toNat (5:Int)) (List.take n1.toNat b))) fun z10=>rs z10.length z10.length <| some (((0:Int),(↑x8.toNat:Int),n9,z10))
def qgr:DFn:={ro:=true,args:=(.sl 0 .nil),out:={slots:=(.dd 2 (.ptr 1000 0 (.int .i64 (.dd 46 .nil)))),blks:=[(1000,.cells (.int .u8 (.int .u32 (.row 0 950 .nil)))),(950,.row 0)],boxes:=[(1000202,950,0)]},T:=Int×Int×Int×List (UInt8),to:=fun(v:(List (UInt8)×Unit)×((Int×Int×Unit)×Unit)×(Int×Unit))=>(v.2.2.1,v.2.1.1.1,v.2.1.1.2.1,v.1.1),of:=fun x=>((x.2.2.2,()),((x.2.1,(x.2.2.1,())),()),(x.1,()))}
def qoX:=qkF DOps.ev
def qsk (o:DOps):qgr.In→Option qgr.T:=fun v=>qkF o v.2.2.1
def qsl:DSpec:=qae qgr Tryz.f207 (qsk DOps.ev)
theorem qxt:DH Tryz.prog 207 qsl:=qad (d:=qgr) (Fo:=qsk) tl0 [] [] [] qan (by kernel_rfl) ⟨fun o v=>by kernel_rfl⟩ Tryz.func207 Tryz.call207
end
end Go.Proofs.YtcdppfnjidlknaaGreatDoor
