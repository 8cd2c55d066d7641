/- What the functions of VehicleGoes compute (part 4 of 4). No condition. -/
import Derived.Test.YtlbppjmekiemiacGreatDoorFVehicleGoesc
import Derived.KernelRfl
namespace Go.Proofs.YtlbppjmekiemiacGreatDoor
open Vm
set_option maxHeartbeats 4000000
variable (up:Bool) (fu now times tn tt tv units:Int) (vb:List (List UInt8)) (di vo:List Bool) (tk ws:List Int) (cs:List Vm.Campaign) (l:List Vm.Happening) (net:List Vm.Message) (vs:List Vm.Signed) (us:List Vm.UnitD)
def c_q264:z00:=fun vs bs=>match vs,bs with
 | [.agg [.dat (.list .str) vb,.dat (.list .signed) vs,.dat (.list .int) ws,.dat .int fu,.dat .bool up,.dat .int tv,.dat (.list .int) tk,.dat .int tt,.dat .int tn,.dat (.list .bool) vo,.dat (.list .bool) di,.dat (.list .unitd) us,.dat (.list .campaign) cs,.dat (.list .message) net,.dat .int now],.one (.dat .int times)],[]=>some (some (0≤times∧times≤100∧us.length≤4∧net.length≤24),.tup [.agg [.dat (Ty.list Ty.str) (z0p ⟨vb,vs,⟨⟨ws,fu⟩,up,⟨⟨tv,tk,tt⟩,tn⟩,vo,di⟩,us,cs,net,now⟩ times.toNat).b,.dat (Ty.list Ty.signed) (z0p ⟨vb,vs,⟨⟨ws,fu⟩,up,⟨⟨tv,tk,tt⟩,tn⟩,vo,di⟩,us,cs,net,now⟩ times.toNat).s,dL (z0p ⟨vb,vs,⟨⟨ws,fu⟩,up,⟨⟨tv,tk,tt⟩,tn⟩,vo,di⟩,us,cs,net,now⟩ times.toNat).g.f.words,dI (z0p ⟨vb,vs,⟨⟨ws,fu⟩,up,⟨⟨tv,tk,tt⟩,tn⟩,vo,di⟩,us,cs,net,now⟩ times.toNat).g.f.fuel,dB (z0p ⟨vb,vs,⟨⟨ws,fu⟩,up,⟨⟨tv,tk,tt⟩,tn⟩,vo,di⟩,us,cs,net,now⟩ times.toNat).g.up,dI (z0p ⟨vb,vs,⟨⟨ws,fu⟩,up,⟨⟨tv,tk,tt⟩,tn⟩,vo,di⟩,us,cs,net,now⟩ times.toNat).g.t.r.version,dL (z0p ⟨vb,vs,⟨⟨ws,fu⟩,up,⟨⟨tv,tk,tt⟩,tn⟩,vo,di⟩,us,cs,net,now⟩ times.toNat).g.t.r.keys,dI (z0p ⟨vb,vs,⟨⟨ws,fu⟩,up,⟨⟨tv,tk,tt⟩,tn⟩,vo,di⟩,us,cs,net,now⟩ times.toNat).g.t.r.thr,dI (z0p ⟨vb,vs,⟨⟨ws,fu⟩,up,⟨⟨tv,tk,tt⟩,tn⟩,vo,di⟩,us,cs,net,now⟩ times.toNat).g.t.version,dLb (z0p ⟨vb,vs,⟨⟨ws,fu⟩,up,⟨⟨tv,tk,tt⟩,tn⟩,vo,di⟩,us,cs,net,now⟩ times.toNat).g.voted,dLb (z0p ⟨vb,vs,⟨⟨ws,fu⟩,up,⟨⟨tv,tk,tt⟩,tn⟩,vo,di⟩,us,cs,net,now⟩ times.toNat).g.did,.dat (Ty.list Ty.unitd) (z0p ⟨vb,vs,⟨⟨ws,fu⟩,up,⟨⟨tv,tk,tt⟩,tn⟩,vo,di⟩,us,cs,net,now⟩ times.toNat).units,.dat (Ty.list Ty.campaign) (z0p ⟨vb,vs,⟨⟨ws,fu⟩,up,⟨⟨tv,tk,tt⟩,tn⟩,vo,di⟩,us,cs,net,now⟩ times.toNat).campaigns,dM (z0p ⟨vb,vs,⟨⟨ws,fu⟩,up,⟨⟨tv,tk,tt⟩,tn⟩,vo,di⟩,us,cs,net,now⟩ times.toNat).net,dI (z0p ⟨vb,vs,⟨⟨ws,fu⟩,up,⟨⟨tv,tk,tt⟩,tn⟩,vo,di⟩,us,cs,net,now⟩ times.toNat).now],.one (dB (z1y (z0p ⟨vb,vs,⟨⟨ws,fu⟩,up,⟨⟨tv,tk,tt⟩,tn⟩,vo,di⟩,us,cs,net,now⟩ times.toNat)))],[])
 | _,_=>none
def Γ_q264:Ctx:=[(n_q263,c_q263),(n_q169,c_q169)]
theorem ok_q264:Ok Tryz.prog tab Γ_q264:=((ok_nil.c hg_q169 sound_q169).c hg_q263 sound_q263)
noncomputable def q264_L0:List It:=[.inLoop [17,16,6,5,4,2,1] (cSub fn_q264 [1,1,0,1,0,0]),.inBlock 0,.code (cSub fn_q264 [1,1,1])]
def q264_S0 (x0 x1:Int) (x2:Bool) (x3:Int) (x4:List (List UInt8)) (x5:List Vm.Signed) (x6:List Int) (x7:Int) (x8:Bool) (x9:Int) (x10:List Int) (x11 x12:Int) (x13 x14:List Bool) (x15:List Vm.UnitD) (x16:List Vm.Campaign) (x17:List Vm.Message) (x18 x19:Int) (x20:Bool) (x21 x22 x23 x24:Int) (x25:List (List UInt8)) (x26:List Vm.Signed) (x27 x28:List Int) (x29 x30:List Bool) (x31:List Vm.UnitD) (x32:List Vm.Campaign) (x33:List Vm.Message):St:=⟨[(17,.one (dI x0)),(16,.one (dI x1)),(6,.one (.fn n_q263 [0])),(5,.one (dB x2)),(4,.one (.ptr 1 0)),(2,.one (.ptr 0 0)),(1,.one (dI x3))],[(0,.box [.dat (Ty.list Ty.str) x4,.dat (Ty.list Ty.signed) x5,dL x6,dI x7,dB x8,dI x9,dL x10,dI x11,dI x12,dLb x13,dLb x14,.dat (Ty.list Ty.unitd) x15,.dat (Ty.list Ty.campaign) x16,dM x17,dI x18]),(1,.box [.own 2,.own 3,.own 4,dI x19,dB x20,dI x21,.own 5,dI x22,dI x23,.own 6,.own 7,.own 8,.own 9,.own 10,dI x24]),(2,.arr Ty.str x25),(3,.arr Ty.signed x26),(4,.arr Ty.int x27),(5,.arr Ty.int x28),(6,.arr Ty.bool x29),(7,.arr Ty.bool x30),(8,.arr Ty.unitd x31),(9,.arr Ty.campaign x32),(10,.arr Ty.message x33)],11⟩
noncomputable def q264_L1:List It:=[.inLoop [7,6,5,4,2,1] (cSub fn_q264 [1,1,1,0,1,0,0]),.inBlock 2,.code (cSub fn_q264 [1,1,1,1])]
def q264_S1 (x0:Int) (x1:Bool) (x2:Int) (x3:List (List UInt8)) (x4:List Vm.Signed) (x5:List Int) (x6:Int) (x7:Bool) (x8:Int) (x9:List Int) (x10 x11:Int) (x12 x13:List Bool) (x14:List Vm.UnitD) (x15:List Vm.Campaign) (x16:List Vm.Message) (x17 x18:Int) (x19:Bool) (x20 x21 x22 x23:Int) (x24:List (List UInt8)) (x25:List Vm.Signed) (x26 x27:List Int) (x28 x29:List Bool) (x30:List Vm.UnitD) (x31:List Vm.Campaign) (x32:List Vm.Message):St:=⟨[(7,.one (dI x0)),(6,.one (.fn n_q263 [0])),(5,.one (dB x1)),(4,.one (.ptr 1 0)),(2,.one (.ptr 0 0)),(1,.one (dI x2))],[(0,.box [.dat (Ty.list Ty.str) x3,.dat (Ty.list Ty.signed) x4,dL x5,dI x6,dB x7,dI x8,dL x9,dI x10,dI x11,dLb x12,dLb x13,.dat (Ty.list Ty.unitd) x14,.dat (Ty.list Ty.campaign) x15,dM x16,dI x17]),(1,.box [.own 2,.own 3,.own 4,dI x18,dB x19,dI x20,.own 5,dI x21,dI x22,.own 6,.own 7,.own 8,.own 9,.own 10,dI x23]),(2,.arr Ty.str x24),(3,.arr Ty.signed x25),(4,.arr Ty.int x26),(5,.arr Ty.int x27),(6,.arr Ty.bool x28),(7,.arr Ty.bool x29),(8,.arr Ty.unitd x30),(9,.arr Ty.campaign x31),(10,.arr Ty.message x32)],11⟩
noncomputable def q264_L2:List It:=[.inLoop [35,34,6,5,4,2] (cSub fn_q264 [1,1,1,1,0,1,0,0]),.inBlock 4,.code (cSub fn_q264 [1,1,1,1,1])]
def q264_S2 (x0 x1:Int) (x2:Bool) (x3:List (List UInt8)) (x4:List Vm.Signed) (x5:List Int) (x6:Int) (x7:Bool) (x8:Int) (x9:List Int) (x10 x11:Int) (x12 x13:List Bool) (x14:List Vm.UnitD) (x15:List Vm.Campaign) (x16:List Vm.Message) (x17 x18:Int) (x19:Bool) (x20 x21 x22 x23:Int) (x24:List (List UInt8)) (x25:List Vm.Signed) (x26 x27:List Int) (x28 x29:List Bool) (x30:List Vm.UnitD) (x31:List Vm.Campaign) (x32:List Vm.Message):St:=⟨[(35,.one (dI x0)),(34,.one (dI x1)),(6,.one (.fn n_q263 [0])),(5,.one (dB x2)),(4,.one (.ptr 1 0)),(2,.one (.ptr 0 0))],[(0,.box [.dat (Ty.list Ty.str) x3,.dat (Ty.list Ty.signed) x4,dL x5,dI x6,dB x7,dI x8,dL x9,dI x10,dI x11,dLb x12,dLb x13,.dat (Ty.list Ty.unitd) x14,.dat (Ty.list Ty.campaign) x15,dM x16,dI x17]),(1,.box [.own 2,.own 3,.own 4,dI x18,dB x19,dI x20,.own 5,dI x21,dI x22,.own 6,.own 7,.own 8,.own 9,.own 10,dI x23]),(2,.arr Ty.str x24),(3,.arr Ty.signed x25),(4,.arr Ty.int x26),(5,.arr Ty.int x27),(6,.arr Ty.bool x28),(7,.arr Ty.bool x29),(8,.arr Ty.unitd x30),(9,.arr Ty.campaign x31),(10,.arr Ty.message x32)],11⟩
noncomputable def q264_L3:List It:=[.inLoop [40,39,38,37,36,35,34,6,5,4,2] (cSub fn_q264 [1,1,1,1,0,1,0,0,1,1,0,0,1,0,0]),.inBlock 6,.inBlock 5,.code (cSub fn_q264 [1,1,1,1,0,1,0,0,1,1,1]),.inLoop [35,34,6,5,4,2] (cSub fn_q264 [1,1,1,1,0,1,0,0]),.inBlock 4,.code (cSub fn_q264 [1,1,1,1,1])]
def q264_S3 (x0 x1:Int) (x2:List Vm.UnitD) (x3:Bool) (x4 x5:Int) (x6:Bool) (x7:List (List UInt8)) (x8:List Vm.Signed) (x9:List Int) (x10:Int) (x11:Bool) (x12:Int) (x13:List Int) (x14 x15:Int) (x16 x17:List Bool) (x18:List Vm.UnitD) (x19:List Vm.Campaign) (x20:List Vm.Message) (x21 x22:Int) (x23:Bool) (x24 x25 x26 x27:Int) (x28:List (List UInt8)) (x29:List Vm.Signed) (x30 x31:List Int) (x32 x33:List Bool) (x34:List Vm.UnitD) (x35:List Vm.Campaign) (x36:List Vm.Message):St:=⟨[(40,.one (dI x0)),(39,.one (dI x1)),(38,.one (.dat (Ty.list Ty.unitd) x2)),(37,.one (.ptr 0 11)),(36,.one (dB x3)),(35,.one (dI x4)),(34,.one (dI x5)),(6,.one (.fn n_q263 [0])),(5,.one (dB x6)),(4,.one (.ptr 1 0)),(2,.one (.ptr 0 0))],[(0,.box [.dat (Ty.list Ty.str) x7,.dat (Ty.list Ty.signed) x8,dL x9,dI x10,dB x11,dI x12,dL x13,dI x14,dI x15,dLb x16,dLb x17,.dat (Ty.list Ty.unitd) x18,.dat (Ty.list Ty.campaign) x19,dM x20,dI x21]),(1,.box [.own 2,.own 3,.own 4,dI x22,dB x23,dI x24,.own 5,dI x25,dI x26,.own 6,.own 7,.own 8,.own 9,.own 10,dI x27]),(2,.arr Ty.str x28),(3,.arr Ty.signed x29),(4,.arr Ty.int x30),(5,.arr Ty.int x31),(6,.arr Ty.bool x32),(7,.arr Ty.bool x33),(8,.arr Ty.unitd x34),(9,.arr Ty.campaign x35),(10,.arr Ty.message x36)],11⟩
noncomputable def q264_L4:List It:=[.inLoop [9,45,44,43,8,42,41,40,39,38,37,36,35,34,6,5,4,2] (cSub fn_q264 [1,1,1,1,0,1,0,0,1,1,0,0,1,0,0,1,1,0,0,1,1,0,1,0,0]),.inBlock 8,.code (cSub fn_q264 [1,1,1,1,0,1,0,0,1,1,0,0,1,0,0,1,1,0,0,1,1,1]),.inBlock 7,.code (cSub fn_q264 [1,1,1,1,0,1,0,0,1,1,0,0,1,0,0,1,1,1]),.inLoop [40,39,38,37,36,35,34,6,5,4,2] (cSub fn_q264 [1,1,1,1,0,1,0,0,1,1,0,0,1,0,0]),.inBlock 6,.inBlock 5,.code (cSub fn_q264 [1,1,1,1,0,1,0,0,1,1,1]),.inLoop [35,34,6,5,4,2] (cSub fn_q264 [1,1,1,1,0,1,0,0]),.inBlock 4,.code (cSub fn_q264 [1,1,1,1,1])]
def q264_S4 (x0 x1 x2 x3 x4 x5 x6 x7 x8:Int) (x9:Bool) (x10 x11:Int) (x12:List Vm.UnitD) (x13:Bool) (x14 x15:Int) (x16:Bool) (x17:List (List UInt8)) (x18:List Vm.Signed) (x19:List Int) (x20:Int) (x21:Bool) (x22:Int) (x23:List Int) (x24 x25:Int) (x26 x27:List Bool) (x28:List Vm.UnitD) (x29:List Vm.Campaign) (x30:List Vm.Message) (x31 x32:Int) (x33:Bool) (x34 x35 x36 x37:Int) (x38:List (List UInt8)) (x39:List Vm.Signed) (x40 x41:List Int) (x42 x43:List Bool) (x44:List Vm.UnitD) (x45:List Vm.Campaign) (x46:List Vm.Message):St:=⟨[(9,.one (dI x0)),(45,.agg [dI x1,dI x2,dI x3,.nil Ty.root,.nil (Ty.list Ty.int),dI x4,dI x5,.nil Ty.target,.nil Ty.int,.nil (Ty.list Ty.int)]),(44,.one (dI x6)),(43,.one (.fn n_q263 [0])),(8,.one (dI x7)),(42,.one (dI x8)),(41,.one (dB x9)),(40,.one (dI x10)),(39,.one (dI x11)),(38,.one (.dat (Ty.list Ty.unitd) x12)),(37,.one (.ptr 0 11)),(36,.one (dB x13)),(35,.one (dI x14)),(34,.one (dI x15)),(6,.one (.fn n_q263 [0])),(5,.one (dB x16)),(4,.one (.ptr 1 0)),(2,.one (.ptr 0 0))],[(0,.box [.dat (Ty.list Ty.str) x17,.dat (Ty.list Ty.signed) x18,dL x19,dI x20,dB x21,dI x22,dL x23,dI x24,dI x25,dLb x26,dLb x27,.dat (Ty.list Ty.unitd) x28,.dat (Ty.list Ty.campaign) x29,dM x30,dI x31]),(1,.box [.own 2,.own 3,.own 4,dI x32,dB x33,dI x34,.own 5,dI x35,dI x36,.own 6,.own 7,.own 8,.own 9,.own 10,dI x37]),(2,.arr Ty.str x38),(3,.arr Ty.signed x39),(4,.arr Ty.int x40),(5,.arr Ty.int x41),(6,.arr Ty.bool x42),(7,.arr Ty.bool x43),(8,.arr Ty.unitd x44),(9,.arr Ty.campaign x45),(10,.arr Ty.message x46)],11⟩
noncomputable def q264_L5:List It:=[.inLoop [10,62,61,60,54,53,52,51,50,49,48,47,9,45,44,43,8,42,41,40,39,38,37,36,35,34,6,5,4,2] (cSub fn_q264 [1,1,1,1,0,1,0,0,1,1,0,0,1,0,0,1,1,0,0,1,1,1,1,1,0,0]),.inBlock 10,.inBlock 7,.code (cSub fn_q264 [1,1,1,1,0,1,0,0,1,1,0,0,1,0,0,1,1,1]),.inLoop [40,39,38,37,36,35,34,6,5,4,2] (cSub fn_q264 [1,1,1,1,0,1,0,0,1,1,0,0,1,0,0]),.inBlock 6,.inBlock 5,.code (cSub fn_q264 [1,1,1,1,0,1,0,0,1,1,1]),.inLoop [35,34,6,5,4,2] (cSub fn_q264 [1,1,1,1,0,1,0,0]),.inBlock 4,.code (cSub fn_q264 [1,1,1,1,1])]
def q264_S5 (x0 x1 x2 x3 x4 x5 x6:Int) (x7 x8:Bool) (x9:Int) (x10 x11:Bool) (x12:Int) (x13:List Vm.Message) (x14 x15 x16 x17 x18 x19 x20 x21 x22:Int) (x23:Bool) (x24 x25:Int) (x26:List Vm.UnitD) (x27:Bool) (x28 x29:Int) (x30:Bool) (x31:List (List UInt8)) (x32:List Vm.Signed) (x33:List Int) (x34:Int) (x35:Bool) (x36:Int) (x37:List Int) (x38 x39:Int) (x40 x41:List Bool) (x42:List Vm.UnitD) (x43:List Vm.Campaign) (x44:List Vm.Message) (x45 x46:Int) (x47:Bool) (x48 x49 x50 x51:Int) (x52:List (List UInt8)) (x53:List Vm.Signed) (x54 x55:List Int) (x56 x57:List Bool) (x58:List Vm.UnitD) (x59:List Vm.Campaign) (x60:List Vm.Message):St:=⟨[(10,.one (dI x0)),(62,.agg [dI x1,dI x2,dI x3,.nil Ty.root,.nil (Ty.list Ty.int),dI x4,dI x5,.nil Ty.target,.nil Ty.int,.nil (Ty.list Ty.int)]),(61,.one (dI x6)),(60,.one (.fn n_q263 [0])),(54,.one (dB x7)),(53,.one (dB x8)),(52,.one (dI x9)),(51,.one (dB x10)),(50,.one (dB x11)),(49,.one (dI x12)),(48,.one (dM x13)),(47,.one (.ptr 0 13)),(9,.one (dI x14)),(45,.agg [dI x15,dI x16,dI x17,.nil Ty.root,.nil (Ty.list Ty.int),dI x18,dI x19,.nil Ty.target,.nil Ty.int,.nil (Ty.list Ty.int)]),(44,.one (dI x20)),(43,.one (.fn n_q263 [0])),(8,.one (dI x21)),(42,.one (dI x22)),(41,.one (dB x23)),(40,.one (dI x24)),(39,.one (dI x25)),(38,.one (.dat (Ty.list Ty.unitd) x26)),(37,.one (.ptr 0 11)),(36,.one (dB x27)),(35,.one (dI x28)),(34,.one (dI x29)),(6,.one (.fn n_q263 [0])),(5,.one (dB x30)),(4,.one (.ptr 1 0)),(2,.one (.ptr 0 0))],[(0,.box [.dat (Ty.list Ty.str) x31,.dat (Ty.list Ty.signed) x32,dL x33,dI x34,dB x35,dI x36,dL x37,dI x38,dI x39,dLb x40,dLb x41,.dat (Ty.list Ty.unitd) x42,.dat (Ty.list Ty.campaign) x43,dM x44,dI x45]),(1,.box [.own 2,.own 3,.own 4,dI x46,dB x47,dI x48,.own 5,dI x49,dI x50,.own 6,.own 7,.own 8,.own 9,.own 10,dI x51]),(2,.arr Ty.str x52),(3,.arr Ty.signed x53),(4,.arr Ty.int x54),(5,.arr Ty.int x55),(6,.arr Ty.bool x56),(7,.arr Ty.bool x57),(8,.arr Ty.unitd x58),(9,.arr Ty.campaign x59),(10,.arr Ty.message x60)],11⟩
noncomputable def q264_L6:List It:=[.inLoop [10,62,61,60,54,53,52,51,50,49,48,47,9,45,44,43,8,42,41,40,39,38,37,36,35,34,6,5,4,2] (cSub fn_q264 [1,1,1,1,0,1,0,0,1,1,0,0,1,0,0,1,1,0,0,1,1,1,1,1,0,0]),.inBlock 10,.inBlock 7,.code (cSub fn_q264 [1,1,1,1,0,1,0,0,1,1,0,0,1,0,0,1,1,1]),.inLoop [40,39,38,37,36,35,34,6,5,4,2] (cSub fn_q264 [1,1,1,1,0,1,0,0,1,1,0,0,1,0,0]),.inBlock 6,.inBlock 5,.code (cSub fn_q264 [1,1,1,1,0,1,0,0,1,1,1]),.inLoop [35,34,6,5,4,2] (cSub fn_q264 [1,1,1,1,0,1,0,0]),.inBlock 4,.code (cSub fn_q264 [1,1,1,1,1])]
def q264_S6 (x0 x1 x2 x3 x4 x5 x6:Int) (x7 x8 x9:Bool) (x10:Int) (x11:List Vm.Message) (x12 x13 x14 x15 x16 x17 x18 x19 x20:Int) (x21:Bool) (x22 x23:Int) (x24:List Vm.UnitD) (x25:Bool) (x26 x27:Int) (x28:Bool) (x29:List (List UInt8)) (x30:List Vm.Signed) (x31:List Int) (x32:Int) (x33:Bool) (x34:Int) (x35:List Int) (x36 x37:Int) (x38 x39:List Bool) (x40:List Vm.UnitD) (x41:List Vm.Campaign) (x42:List Vm.Message) (x43 x44:Int) (x45:Bool) (x46 x47 x48 x49:Int) (x50:List (List UInt8)) (x51:List Vm.Signed) (x52 x53:List Int) (x54 x55:List Bool) (x56:List Vm.UnitD) (x57:List Vm.Campaign) (x58:List Vm.Message):St:=⟨[(10,.one (dI x0)),(62,.agg [dI x1,dI x2,dI x3,.nil Ty.root,.nil (Ty.list Ty.int),dI x4,dI x5,.nil Ty.target,.nil Ty.int,.nil (Ty.list Ty.int)]),(61,.one (dI x6)),(60,.one (.fn n_q263 [0])),(54,.one (dB x7)),(53,.one (.undef)),(52,.one (.undef)),(51,.one (dB x8)),(50,.one (dB x9)),(49,.one (dI x10)),(48,.one (dM x11)),(47,.one (.ptr 0 13)),(9,.one (dI x12)),(45,.agg [dI x13,dI x14,dI x15,.nil Ty.root,.nil (Ty.list Ty.int),dI x16,dI x17,.nil Ty.target,.nil Ty.int,.nil (Ty.list Ty.int)]),(44,.one (dI x18)),(43,.one (.fn n_q263 [0])),(8,.one (dI x19)),(42,.one (dI x20)),(41,.one (dB x21)),(40,.one (dI x22)),(39,.one (dI x23)),(38,.one (.dat (Ty.list Ty.unitd) x24)),(37,.one (.ptr 0 11)),(36,.one (dB x25)),(35,.one (dI x26)),(34,.one (dI x27)),(6,.one (.fn n_q263 [0])),(5,.one (dB x28)),(4,.one (.ptr 1 0)),(2,.one (.ptr 0 0))],[(0,.box [.dat (Ty.list Ty.str) x29,.dat (Ty.list Ty.signed) x30,dL x31,dI x32,dB x33,dI x34,dL x35,dI x36,dI x37,dLb x38,dLb x39,.dat (Ty.list Ty.unitd) x40,.dat (Ty.list Ty.campaign) x41,dM x42,dI x43]),(1,.box [.own 2,.own 3,.own 4,dI x44,dB x45,dI x46,.own 5,dI x47,dI x48,.own 6,.own 7,.own 8,.own 9,.own 10,dI x49]),(2,.arr Ty.str x50),(3,.arr Ty.signed x51),(4,.arr Ty.int x52),(5,.arr Ty.int x53),(6,.arr Ty.bool x54),(7,.arr Ty.bool x55),(8,.arr Ty.unitd x56),(9,.arr Ty.campaign x57),(10,.arr Ty.message x58)],11⟩
theorem q264_vc (vb:List (List UInt8)) (vs:List Signed) (ws:List Int) (fu:Int) (up:Bool) (tv:Int) (tk:List Int) (tt tn:Int) (vo di:List Bool) (us:List UnitD) (cs:List Campaign) (net:List Message) (now times:Int) (rec:RK) (K:KK):segD Γ_q264 tab fn_q264 0 K rec [.code (z05 fn_q264)] (z07 [.agg (aV vb vs ws fu up tv tk tt tn vo di (.dat (Ty.list Ty.unitd) us) (.dat (Ty.list Ty.campaign) cs) (dM net) now),.one (dI times)] [])=(
 rec q264_L0 (q264_S0 0 (len net:Int) false times vb vs ws fu up tv tk tt tn vo di us cs net now 0 false 0 0 0 0 [] [] [] [] [] [] [] [] [])):=by kernel_rfl
theorem zjk (x0 x1:Int) (x2:Bool) (x3:Int) (x4:List (List UInt8)) (x5:List Vm.Signed) (x6:List Int) (x7:Int) (x8:Bool) (x9:Int) (x10:List Int) (x11 x12:Int) (x13 x14:List Bool) (x15:List Vm.UnitD) (x16:List Vm.Campaign) (x17:List Vm.Message) (x18 x19:Int) (x20:Bool) (x21 x22 x23 x24:Int) (x25:List (List UInt8)) (x26:List Vm.Signed) (x27 x28:List Int) (x29 x30:List Bool) (x31:List Vm.UnitD) (x32:List Vm.Campaign) (x33:List Vm.Message) (rec:RK) (K:KK) v0 (hv0:v0=doneV ⟨x4,x5,⟨⟨x6,x7⟩,x8,⟨⟨x9,x10,x11⟩,x12⟩,x13,x14⟩,x15,x16,x17,x18⟩ ⟨4,0,0,⟨[],[],⟨0,0,[]⟩,[],[]⟩⟩):segD Γ_q264 tab fn_q264 0 K rec (ent q264_L0) (q264_S0 x0 x1 x2 x3 x4 x5 x6 x7 x8 x9 x10 x11 x12 x13 x14 x15 x16 x17 x18 x19 x20 x21 x22 x23 x24 x25 x26 x27 x28 x29 x30 x31 x32 x33)=(
 br (lti x0 x1)
 (rec q264_L0 (q264_S0 (w64 (x0+1)) x1 x2 x3 v0.b v0.s v0.g.f.words v0.g.f.fuel v0.g.up v0.g.t.r.version v0.g.t.r.keys v0.g.t.r.thr v0.g.t.version v0.g.voted v0.g.did v0.units v0.campaigns v0.net v0.now x19 x20 x21 x22 x23 x24 x25 x26 x27 x28 x29 x30 x31 x32 x33))
 (rec q264_L1 (q264_S1 (-1) x2 x3 x4 x5 x6 x7 x8 x9 x10 x11 x12 x13 x14 x15 x16 x17 x18 x19 x20 x21 x22 x23 x24 x25 x26 x27 x28 x29 x30 x31 x32 x33))):=by subst_vars; kernel_rfl
theorem zj3 (x0:Int) (x1:Bool) (x2:Int) (x3:List (List UInt8)) (x4:List Vm.Signed) (x5:List Int) (x6:Int) (x7:Bool) (x8:Int) (x9:List Int) (x10 x11:Int) (x12 x13:List Bool) (x14:List Vm.UnitD) (x15:List Vm.Campaign) (x16:List Vm.Message) (x17 x18:Int) (x19:Bool) (x20 x21 x22 x23:Int) (x24:List (List UInt8)) (x25:List Vm.Signed) (x26 x27:List Int) (x28 x29:List Bool) (x30:List Vm.UnitD) (x31:List Vm.Campaign) (x32:List Vm.Message) (rec:RK) (K:KK) v0 (hv0:v0=doneV ⟨x3,x4,⟨⟨x5,x6⟩,x7,⟨⟨x8,x9,x10⟩,x11⟩,x12,x13⟩,x14,x15,x16,x17⟩ ⟨7,x0,0,⟨[],[],⟨0,0,[]⟩,[],[]⟩⟩):segD Γ_q264 tab fn_q264 0 K rec (ent q264_L1) (q264_S1 x0 x1 x2 x3 x4 x5 x6 x7 x8 x9 x10 x11 x12 x13 x14 x15 x16 x17 x18 x19 x20 x21 x22 x23 x24 x25 x26 x27 x28 x29 x30 x31 x32)=(
 br (lti x0 (len x14:Int))
 (rec q264_L1 (q264_S1 (w64 (x0+1)) x1 x2 v0.b v0.s v0.g.f.words v0.g.f.fuel v0.g.up v0.g.t.r.version v0.g.t.r.keys v0.g.t.r.thr v0.g.t.version v0.g.voted v0.g.did v0.units v0.campaigns v0.net v0.now x18 x19 x20 x21 x22 x23 x24 x25 x26 x27 x28 x29 x30 x31 x32))
 (rec q264_L2 (q264_S2 0 x2 x1 x3 x4 x5 x6 x7 x8 x9 x10 x11 x12 x13 x14 x15 x16 x17 x18 x19 x20 x21 x22 x23 x24 x25 x26 x27 x28 x29 x30 x31 x32))):=by subst_vars; kernel_rfl
theorem zif (x0 x1:Int) (x2:Bool) (x3:List (List UInt8)) (x4:List Vm.Signed) (x5:List Int) (x6:Int) (x7:Bool) (x8:Int) (x9:List Int) (x10 x11:Int) (x12 x13:List Bool) (x14:List Vm.UnitD) (x15:List Vm.Campaign) (x16:List Vm.Message) (x17 x18:Int) (x19:Bool) (x20 x21 x22 x23:Int) (x24:List (List UInt8)) (x25:List Vm.Signed) (x26 x27:List Int) (x28 x29:List Bool) (x30:List Vm.UnitD) (x31:List Vm.Campaign) (x32:List Vm.Message) (rec:RK) (K:KK) v0 (hv0:v0=readG ⟨⟨x5,x6⟩,x7,⟨⟨x8,x9,x10⟩,x11⟩,x12,x13⟩) v1 (hv1:v1=K (.tup [.agg [.dat (Ty.list Ty.str) x3,.dat (Ty.list Ty.signed) x4,dL x5,dI x6,dB x7,dI x8,dL x9,dI x10,dI x11,dLb x12,dLb x13,.dat (Ty.list Ty.unitd) x14,.dat (Ty.list Ty.campaign) x15,dM x16,dI x17],.one (dB false)]) []):segD Γ_q264 tab fn_q264 0 K rec (ent q264_L2) (q264_S2 x0 x1 x2 x3 x4 x5 x6 x7 x8 x9 x10 x11 x12 x13 x14 x15 x16 x17 x18 x19 x20 x21 x22 x23 x24 x25 x26 x27 x28 x29 x30 x31 x32)=(
 br (lti x0 x1)
 (rec q264_L3 (q264_S3 0 (len x14:Int) x14 (lti x0 x1) x0 x1 x2 x3 x4 x5 x6 x7 x8 x9 x10 x11 x12 x13 x14 x15 x16 x17 x18 x19 x20 x21 x22 x23 x24 x25 x26 x27 x28 x29 x30 x31 x32))
 (br (eqi v0.snd 0)
 (br (eqi (len x16:Int) 0)
 (br (eqi v0.fst.n 0)
 (K (.tup [.agg [.dat (Ty.list Ty.str) x3,.dat (Ty.list Ty.signed) x4,dL x5,dI x6,dB x7,dI x8,dL x9,dI x10,dI x11,dLb x12,dLb x13,.dat (Ty.list Ty.unitd) x14,.dat (Ty.list Ty.campaign) x15,dM x16,dI x17],.one (dB true)]) [])
 (K (.tup [.agg [.dat (Ty.list Ty.str) x3,.dat (Ty.list Ty.signed) x4,dL x5,dI x6,dB x7,dI x8,dL x9,dI x10,dI x11,dLb x12,dLb x13,.dat (Ty.list Ty.unitd) x14,.dat (Ty.list Ty.campaign) x15,dM x16,dI x17],.one (dB v0.fst.ended)]) []))
 v1)
 v1)):=by subst_vars; kernel_rfl
theorem zi9 (x0 x1:Int) (x2:List Vm.UnitD) (x3:Bool) (x4 x5:Int) (x6:Bool) (x7:List (List UInt8)) (x8:List Vm.Signed) (x9:List Int) (x10:Int) (x11:Bool) (x12:Int) (x13:List Int) (x14 x15:Int) (x16 x17:List Bool) (x18:List Vm.UnitD) (x19:List Vm.Campaign) (x20:List Vm.Message) (x21 x22:Int) (x23:Bool) (x24 x25 x26 x27:Int) (x28:List (List UInt8)) (x29:List Vm.Signed) (x30 x31:List Int) (x32 x33:List Bool) (x34:List Vm.UnitD) (x35:List Vm.Campaign) (x36:List Vm.Message) (rec:RK) (K:KK) v0 (hv0:v0=doneV ⟨x7,x8,⟨⟨x9,x10⟩,x11,⟨⟨x12,x13,x14⟩,x15⟩,x16,x17⟩,x18,x19,x20,x21⟩ ⟨9,x0,0,⟨[],[],⟨0,0,[]⟩,[],[]⟩⟩):segD Γ_q264 tab fn_q264 0 K rec (ent q264_L3) (q264_S3 x0 x1 x2 x3 x4 x5 x6 x7 x8 x9 x10 x11 x12 x13 x14 x15 x16 x17 x18 x19 x20 x21 x22 x23 x24 x25 x26 x27 x28 x29 x30 x31 x32 x33 x34 x35 x36)=(
 br (lti x0 x1)
 (rec q264_L4 (q264_S4 0 9 x0 0 0 0 x0 x0 x0 (lti x0 x1) x0 x1 x2 x3 x4 x5 x6 v0.b v0.s v0.g.f.words v0.g.f.fuel v0.g.up v0.g.t.r.version v0.g.t.r.keys v0.g.t.r.thr v0.g.t.version v0.g.voted v0.g.did v0.units v0.campaigns v0.net v0.now x22 x23 x24 x25 x26 x27 x28 x29 x30 x31 x32 x33 x34 x35 x36))
 (rec q264_L2 (q264_S2 (w64 (x4+1)) x5 x6 x7 x8 x9 x10 x11 x12 x13 x14 x15 x16 x17 x18 x19 x20 x21 x22 x23 x24 x25 x26 x27 x28 x29 x30 x31 x32 x33 x34 x35 x36))):=by subst_vars; kernel_rfl
theorem zdn (x0 x1 x2 x3 x4 x5 x6 x7 x8:Int) (x9:Bool) (x10 x11:Int) (x12:List Vm.UnitD) (x13:Bool) (x14 x15:Int) (x16:Bool) (x17:List (List UInt8)) (x18:List Vm.Signed) (x19:List Int) (x20:Int) (x21:Bool) (x22:Int) (x23:List Int) (x24 x25:Int) (x26 x27:List Bool) (x28:List Vm.UnitD) (x29:List Vm.Campaign) (x30:List Vm.Message) (x31 x32:Int) (x33:Bool) (x34 x35 x36 x37:Int) (x38:List (List UInt8)) (x39:List Vm.Signed) (x40 x41:List Int) (x42 x43:List Bool) (x44:List Vm.UnitD) (x45:List Vm.Campaign) (x46:List Vm.Message) (rec:RK) (K:KK) v0 (hv0:v0=doneV ⟨x17,x18,⟨⟨x19,x20⟩,x21,⟨⟨x22,x23,x24⟩,x25⟩,x26,x27⟩,x28,x29,x30,x31⟩ ⟨3,0,0,⟨[],[],⟨0,0,[]⟩,[],[]⟩⟩) v1 (hv1:v1=doneV ⟨x17,x18,⟨⟨x19,x20⟩,x21,⟨⟨x22,x23,x24⟩,x25⟩,x26,x27⟩,x28,x29,x30,x31⟩ ⟨2,x7,0,⟨[],[],⟨0,0,[]⟩,[],[]⟩⟩):segD Γ_q264 tab fn_q264 0 K rec (ent q264_L4) (q264_S4 x0 x1 x2 x3 x4 x5 x6 x7 x8 x9 x10 x11 x12 x13 x14 x15 x16 x17 x18 x19 x20 x21 x22 x23 x24 x25 x26 x27 x28 x29 x30 x31 x32 x33 x34 x35 x36 x37 x38 x39 x40 x41 x42 x43 x44 x45 x46)=(
 br (lti 0 (len x30:Int))
 (br (lti x0 40)
 (rec q264_L4 (q264_S4 (w64 (x0+1)) x1 x2 x3 x4 x5 x6 x7 x8 x9 x10 x11 x12 x13 x14 x15 x16 v0.b v0.s v0.g.f.words v0.g.f.fuel v0.g.up v0.g.t.r.version v0.g.t.r.keys v0.g.t.r.thr v0.g.t.version v0.g.voted v0.g.did v0.units v0.campaigns v0.net v0.now x32 x33 x34 x35 x36 x37 x38 x39 x40 x41 x42 x43 x44 x45 x46))
 (rec q264_L5 (q264_S5 0 2 x7 0 0 0 x7 (lti x0 40) (lti x0 40) x0 true (lti 0 (len x30:Int)) (len x30:Int) x30 x0 x1 x2 x3 x4 x5 x6 x7 x8 x9 x10 x11 x12 x13 x14 x15 x16 v1.b v1.s v1.g.f.words v1.g.f.fuel v1.g.up v1.g.t.r.version v1.g.t.r.keys v1.g.t.r.thr v1.g.t.version v1.g.voted v1.g.did v1.units v1.campaigns v1.net v1.now x32 x33 x34 x35 x36 x37 x38 x39 x40 x41 x42 x43 x44 x45 x46)))
 (rec q264_L6 (q264_S6 0 2 x7 0 0 0 x7 false false (lti 0 (len x30:Int)) (len x30:Int) x30 x0 x1 x2 x3 x4 x5 x6 x7 x8 x9 x10 x11 x12 x13 x14 x15 x16 v1.b v1.s v1.g.f.words v1.g.f.fuel v1.g.up v1.g.t.r.version v1.g.t.r.keys v1.g.t.r.thr v1.g.t.version v1.g.voted v1.g.did v1.units v1.campaigns v1.net v1.now x32 x33 x34 x35 x36 x37 x38 x39 x40 x41 x42 x43 x44 x45 x46))):=by subst_vars; kernel_rfl
theorem zdk (x0 x1 x2 x3 x4 x5 x6:Int) (x7 x8:Bool) (x9:Int) (x10 x11:Bool) (x12:Int) (x13:List Vm.Message) (x14 x15 x16 x17 x18 x19 x20 x21 x22:Int) (x23:Bool) (x24 x25:Int) (x26:List Vm.UnitD) (x27:Bool) (x28 x29:Int) (x30:Bool) (x31:List (List UInt8)) (x32:List Vm.Signed) (x33:List Int) (x34:Int) (x35:Bool) (x36:Int) (x37:List Int) (x38 x39:Int) (x40 x41:List Bool) (x42:List Vm.UnitD) (x43:List Vm.Campaign) (x44:List Vm.Message) (x45 x46:Int) (x47:Bool) (x48 x49 x50 x51:Int) (x52:List (List UInt8)) (x53:List Vm.Signed) (x54 x55:List Int) (x56 x57:List Bool) (x58:List Vm.UnitD) (x59:List Vm.Campaign) (x60:List Vm.Message) (rec:RK) (K:KK) v0 (hv0:v0=doneV ⟨x31,x32,⟨⟨x33,x34⟩,x35,⟨⟨x36,x37,x38⟩,x39⟩,x40,x41⟩,x42,x43,x44,x45⟩ ⟨3,0,0,⟨[],[],⟨0,0,[]⟩,[],[]⟩⟩) v1 (hv1:v1=rec q264_L3 (q264_S3 (w64 (x24+1)) x25 x26 x27 x28 x29 x30 x31 x32 x33 x34 x35 x36 x37 x38 x39 x40 x41 x42 x43 x44 x45 x46 x47 x48 x49 x50 x51 x52 x53 x54 x55 x56 x57 x58 x59 x60)):segD Γ_q264 tab fn_q264 0 K rec (ent q264_L5) (q264_S5 x0 x1 x2 x3 x4 x5 x6 x7 x8 x9 x10 x11 x12 x13 x14 x15 x16 x17 x18 x19 x20 x21 x22 x23 x24 x25 x26 x27 x28 x29 x30 x31 x32 x33 x34 x35 x36 x37 x38 x39 x40 x41 x42 x43 x44 x45 x46 x47 x48 x49 x50 x51 x52 x53 x54 x55 x56 x57 x58 x59 x60)=(
 br (lti 0 (len x44:Int))
 (br (lti x0 40)
 (rec q264_L5 (q264_S5 (w64 (x0+1)) x1 x2 x3 x4 x5 x6 x7 x8 x9 x10 x11 x12 x13 x14 x15 x16 x17 x18 x19 x20 x21 x22 x23 x24 x25 x26 x27 x28 x29 x30 v0.b v0.s v0.g.f.words v0.g.f.fuel v0.g.up v0.g.t.r.version v0.g.t.r.keys v0.g.t.r.thr v0.g.t.version v0.g.voted v0.g.did v0.units v0.campaigns v0.net v0.now x46 x47 x48 x49 x50 x51 x52 x53 x54 x55 x56 x57 x58 x59 x60))
 v1)
 v1):=by subst_vars; kernel_rfl
theorem zdc (x0 x1 x2 x3 x4 x5 x6:Int) (x7 x8 x9:Bool) (x10:Int) (x11:List Vm.Message) (x12 x13 x14 x15 x16 x17 x18 x19 x20:Int) (x21:Bool) (x22 x23:Int) (x24:List Vm.UnitD) (x25:Bool) (x26 x27:Int) (x28:Bool) (x29:List (List UInt8)) (x30:List Vm.Signed) (x31:List Int) (x32:Int) (x33:Bool) (x34:Int) (x35:List Int) (x36 x37:Int) (x38 x39:List Bool) (x40:List Vm.UnitD) (x41:List Vm.Campaign) (x42:List Vm.Message) (x43 x44:Int) (x45:Bool) (x46 x47 x48 x49:Int) (x50:List (List UInt8)) (x51:List Vm.Signed) (x52 x53:List Int) (x54 x55:List Bool) (x56:List Vm.UnitD) (x57:List Vm.Campaign) (x58:List Vm.Message) (rec:RK) (K:KK) v0 (hv0:v0=doneV ⟨x29,x30,⟨⟨x31,x32⟩,x33,⟨⟨x34,x35,x36⟩,x37⟩,x38,x39⟩,x40,x41,x42,x43⟩ ⟨3,0,0,⟨[],[],⟨0,0,[]⟩,[],[]⟩⟩) v1 (hv1:v1=rec q264_L3 (q264_S3 (w64 (x22+1)) x23 x24 x25 x26 x27 x28 x29 x30 x31 x32 x33 x34 x35 x36 x37 x38 x39 x40 x41 x42 x43 x44 x45 x46 x47 x48 x49 x50 x51 x52 x53 x54 x55 x56 x57 x58)):segD Γ_q264 tab fn_q264 0 K rec (ent q264_L6) (q264_S6 x0 x1 x2 x3 x4 x5 x6 x7 x8 x9 x10 x11 x12 x13 x14 x15 x16 x17 x18 x19 x20 x21 x22 x23 x24 x25 x26 x27 x28 x29 x30 x31 x32 x33 x34 x35 x36 x37 x38 x39 x40 x41 x42 x43 x44 x45 x46 x47 x48 x49 x50 x51 x52 x53 x54 x55 x56 x57 x58)=(
 br (lti 0 (len x42:Int))
 (br (lti x0 40)
 (rec q264_L6 (q264_S6 (w64 (x0+1)) x1 x2 x3 x4 x5 x6 x7 x8 x9 x10 x11 x12 x13 x14 x15 x16 x17 x18 x19 x20 x21 x22 x23 x24 x25 x26 x27 x28 v0.b v0.s v0.g.f.words v0.g.f.fuel v0.g.up v0.g.t.r.version v0.g.t.r.keys v0.g.t.r.thr v0.g.t.version v0.g.voted v0.g.did v0.units v0.campaigns v0.net v0.now x44 x45 x46 x47 x48 x49 x50 x51 x52 x53 x54 x55 x56 x57 x58))
 v1)
 v1):=by subst_vars; kernel_rfl

theorem drain5 (K:KK) (x1 x2 x3 x4 x5 x6:Int) (x7 x8:Bool) (x9:Int) (x10 x11:Bool) (x12:Int) (x13:List Message) (x14 x15 x16 x17 x18 x19 x20 x21 x22:Int) (x23:Bool) (x24 x25:Int) (x26:List UnitD) (x27:Bool) (x28 x29:Int) (x30:Bool):∀ (d n:Nat) (v:Vehicle),n+d=40→(∃ m,goD Γ_q264 tab fn_q264 0 K m q264_L3 (q264_S3 (w64 (x24+1)) x25 x26 x27 x28 x29 x30 (z12 d v).b (z12 d v).s (z12 d v).g.f.words (z12 d v).g.f.fuel (z12 d v).g.up (z12 d v).g.t.r.version (z12 d v).g.t.r.keys (z12 d v).g.t.r.thr (z12 d v).g.t.version (z12 d v).g.voted (z12 d v).g.did (z12 d v).units (z12 d v).campaigns (z12 d v).net (z12 d v).now 0 false 0 0 0 0 [] [] [] [] [] [] [] [] [])) →
  ∃ m,goD Γ_q264 tab fn_q264 0 K m q264_L5 (q264_S5 (n:Int) x1 x2 x3 x4 x5 x6 x7 x8 x9 x10 x11 x12 x13 x14 x15 x16 x17 x18 x19 x20 x21 x22 x23 x24 x25 x26 x27 x28 x29 x30 v.b v.s v.g.f.words v.g.f.fuel v.g.up v.g.t.r.version v.g.t.r.keys v.g.t.r.thr v.g.t.version v.g.voted v.g.did v.units v.campaigns v.net v.now 0 false 0 0 0 0 [] [] [] [] [] [] [] [] [])
 | 0,n,v,hn,⟨m,h⟩=>by
  refine ⟨m+1,?_⟩
  rw [z09 (L:=q264_L5),zdk _ _ _ _ _ _ _ _ _ _ _ _ _ _ _ _ _ _ _ _ _ _ _ _ _ _ _ _ _ _ _ _ _ _ _ _ _ _ _ _ _ _ _ _ _ _ _ _ _ _ _ _ _ _ _ _ _ _ _ _ _ _ _ _ rfl _ rfl]
  exact z1a (fun _=>z22 (by omega) h) (fun _=>h)
 | d+1,n,v,hn,h=>by
  by_cases c:0<v.net.length
  ·have e:z12 (d+1) v=z12 d (doneV v (happen 3 0 0)):=if_pos c
   rw [e] at h
   obtain ⟨m,q⟩:=drain5 K x1 x2 x3 x4 x5 x6 x7 x8 x9 x10 x11 x12 x13 x14 x15 x16 x17 x18 x19 x20 x21 x22 x23 x24 x25 x26 x27 x28 x29 x30 d (n+1) (doneV v (happen 3 0 0)) (by omega) h
   refine ⟨m+1,?_⟩
   rw [z09 (L:=q264_L5),zdk _ _ _ _ _ _ _ _ _ _ _ _ _ _ _ _ _ _ _ _ _ _ _ _ _ _ _ _ _ _ _ _ _ _ _ _ _ _ _ _ _ _ _ _ _ _ _ _ _ _ _ _ _ _ _ _ _ _ _ _ _ _ _ _ rfl _ rfl]
   refine z2o (by simp only [len]; omega) (z2o (by omega) ?_)
   rw [z0f (by omega)]
   exact q
  ·have e:z12 (d+1) v=v:=if_neg c
   rw [e] at h
   obtain ⟨m,q⟩:=h
   refine ⟨m+1,?_⟩
   rw [z09 (L:=q264_L5),zdk _ _ _ _ _ _ _ _ _ _ _ _ _ _ _ _ _ _ _ _ _ _ _ _ _ _ _ _ _ _ _ _ _ _ _ _ _ _ _ _ _ _ _ _ _ _ _ _ _ _ _ _ _ _ _ _ _ _ _ _ _ _ _ _ rfl _ rfl]
   exact z22 (by simp only [len]; omega) q
theorem drain6 (K:KK) (x1 x2 x3 x4 x5 x6:Int) (x7 x8 x9:Bool) (x10:Int) (x11:List Message) (x12 x13 x14 x15 x16 x17 x18 x19 x20:Int) (x21:Bool) (x22 x23:Int) (x24:List UnitD) (x25:Bool) (x26 x27:Int) (x28:Bool):∀ (d n:Nat) (v:Vehicle),n+d=40→(∃ m,goD Γ_q264 tab fn_q264 0 K m q264_L3 (q264_S3 (w64 (x22+1)) x23 x24 x25 x26 x27 x28 (z12 d v).b (z12 d v).s (z12 d v).g.f.words (z12 d v).g.f.fuel (z12 d v).g.up (z12 d v).g.t.r.version (z12 d v).g.t.r.keys (z12 d v).g.t.r.thr (z12 d v).g.t.version (z12 d v).g.voted (z12 d v).g.did (z12 d v).units (z12 d v).campaigns (z12 d v).net (z12 d v).now 0 false 0 0 0 0 [] [] [] [] [] [] [] [] [])) →
  ∃ m,goD Γ_q264 tab fn_q264 0 K m q264_L6 (q264_S6 (n:Int) x1 x2 x3 x4 x5 x6 x7 x8 x9 x10 x11 x12 x13 x14 x15 x16 x17 x18 x19 x20 x21 x22 x23 x24 x25 x26 x27 x28 v.b v.s v.g.f.words v.g.f.fuel v.g.up v.g.t.r.version v.g.t.r.keys v.g.t.r.thr v.g.t.version v.g.voted v.g.did v.units v.campaigns v.net v.now 0 false 0 0 0 0 [] [] [] [] [] [] [] [] [])
 | 0,n,v,hn,⟨m,h⟩=>by
  refine ⟨m+1,?_⟩
  rw [z09 (L:=q264_L6),zdc _ _ _ _ _ _ _ _ _ _ _ _ _ _ _ _ _ _ _ _ _ _ _ _ _ _ _ _ _ _ _ _ _ _ _ _ _ _ _ _ _ _ _ _ _ _ _ _ _ _ _ _ _ _ _ _ _ _ _ _ _ _ rfl _ rfl]
  exact z1a (fun _=>z22 (by omega) h) (fun _=>h)
 | d+1,n,v,hn,h=>by
  by_cases c:0<v.net.length
  ·have e:z12 (d+1) v=z12 d (doneV v (happen 3 0 0)):=if_pos c
   rw [e] at h
   obtain ⟨m,q⟩:=drain6 K x1 x2 x3 x4 x5 x6 x7 x8 x9 x10 x11 x12 x13 x14 x15 x16 x17 x18 x19 x20 x21 x22 x23 x24 x25 x26 x27 x28 d (n+1) (doneV v (happen 3 0 0)) (by omega) h
   refine ⟨m+1,?_⟩
   rw [z09 (L:=q264_L6),zdc _ _ _ _ _ _ _ _ _ _ _ _ _ _ _ _ _ _ _ _ _ _ _ _ _ _ _ _ _ _ _ _ _ _ _ _ _ _ _ _ _ _ _ _ _ _ _ _ _ _ _ _ _ _ _ _ _ _ _ _ _ _ rfl _ rfl]
   refine z2o (by simp only [len]; omega) (z2o (by omega) ?_)
   rw [z0f (by omega)]
   exact q
  ·have e:z12 (d+1) v=v:=if_neg c
   rw [e] at h
   obtain ⟨m,q⟩:=h
   refine ⟨m+1,?_⟩
   rw [z09 (L:=q264_L6),zdc _ _ _ _ _ _ _ _ _ _ _ _ _ _ _ _ _ _ _ _ _ _ _ _ _ _ _ _ _ _ _ _ _ _ _ _ _ _ _ _ _ _ _ _ _ _ _ _ _ _ _ _ _ _ _ _ _ _ _ _ _ _ rfl _ rfl]
   exact z22 (by simp only [len]; omega) q
abbrev tS2 (j times:Int) (v:Vehicle):St:=q264_S2 j times false v.b v.s v.g.f.words v.g.f.fuel v.g.up v.g.t.r.version v.g.t.r.keys v.g.t.r.thr v.g.t.version v.g.voted v.g.did v.units v.campaigns v.net v.now 0 false 0 0 0 0 [] [] [] [] [] [] [] [] []
abbrev tS3 (k nu:Int) (us:List UnitD) (fl:Bool) (j times:Int) (v:Vehicle):St:=q264_S3 k nu us fl j times false v.b v.s v.g.f.words v.g.f.fuel v.g.up v.g.t.r.version v.g.t.r.keys v.g.t.r.thr v.g.t.version v.g.voted v.g.did v.units v.campaigns v.net v.now 0 false 0 0 0 0 [] [] [] [] [] [] [] [] []
theorem drain4 (K:KK) (k nu j times:Int) (us:List UnitD) (fl b9:Bool):∀ (d n:Nat) (v:Vehicle),n+d=40→(∃ m,goD Γ_q264 tab fn_q264 0 K m q264_L3 (tS3 (w64 (k+1)) nu us fl j times (z2i (z12 d v) k))) →
  ∃ m,goD Γ_q264 tab fn_q264 0 K m q264_L4 (q264_S4 (n:Int) 9 k 0 0 0 k k k b9 k nu us fl j times false v.b v.s v.g.f.words v.g.f.fuel v.g.up v.g.t.r.version v.g.t.r.keys v.g.t.r.thr v.g.t.version v.g.voted v.g.did v.units v.campaigns v.net v.now 0 false 0 0 0 0 [] [] [] [] [] [] [] [] []):=by
 have five:∀ (n:Nat) (v:Vehicle),n=40→0<v.net.length→(∃ m,goD Γ_q264 tab fn_q264 0 K m q264_L3 (tS3 (w64 (k+1)) nu us fl j times (z2i v k)))→∃ m,goD Γ_q264 tab fn_q264 0 K m q264_L4 (q264_S4 (n:Int) 9 k 0 0 0 k k k b9 k nu us fl j times false v.b v.s v.g.f.words v.g.f.fuel v.g.up v.g.t.r.version v.g.t.r.keys v.g.t.r.thr v.g.t.version v.g.voted v.g.did v.units v.campaigns v.net v.now 0 false 0 0 0 0 [] [] [] [] [] [] [] [] []):=fun n v hn c h=>by
  obtain ⟨m,q⟩:=drain5 K 2 k 0 0 0 k (lti (n:Int) 40) (lti (n:Int) 40) n true (lti 0 (((len v.net):Nat):Int)) (((len v.net):Nat):Int) v.net n 9 k 0 0 0 k k k b9 k nu us fl j times false 40 0 (doneV v (happen 2 k 0)) (by omega) h
  refine ⟨m+1,?_⟩
  rw [z09 (L:=q264_L4),zdn _ _ _ _ _ _ _ _ _ _ _ _ _ _ _ _ _ _ _ _ _ _ _ _ _ _ _ _ _ _ _ _ _ _ _ _ _ _ _ _ _ _ _ _ _ _ _ _ _ _ rfl _ rfl]
  exact z2o (by simp only [len]; omega) (z22 (by omega) q)
 have six:∀ (n:Nat) (v:Vehicle),¬ 0<v.net.length→(∃ m,goD Γ_q264 tab fn_q264 0 K m q264_L3 (tS3 (w64 (k+1)) nu us fl j times (z2i v k)))→∃ m,goD Γ_q264 tab fn_q264 0 K m q264_L4 (q264_S4 (n:Int) 9 k 0 0 0 k k k b9 k nu us fl j times false v.b v.s v.g.f.words v.g.f.fuel v.g.up v.g.t.r.version v.g.t.r.keys v.g.t.r.thr v.g.t.version v.g.voted v.g.did v.units v.campaigns v.net v.now 0 false 0 0 0 0 [] [] [] [] [] [] [] [] []):=fun n v c h=>by
  obtain ⟨m,q⟩:=drain6 K 2 k 0 0 0 k false false (lti 0 (((len v.net):Nat):Int)) (((len v.net):Nat):Int) v.net n 9 k 0 0 0 k k k b9 k nu us fl j times false 40 0 (doneV v (happen 2 k 0)) (by omega) h
  refine ⟨m+1,?_⟩
  rw [z09 (L:=q264_L4),zdn _ _ _ _ _ _ _ _ _ _ _ _ _ _ _ _ _ _ _ _ _ _ _ _ _ _ _ _ _ _ _ _ _ _ _ _ _ _ _ _ _ _ _ _ _ _ _ _ _ _ rfl _ rfl]
  exact z22 (by simp only [len]; omega) q
 intro d
 induction d with
 | zero =>
  intro n v hn h
  by_cases c:0<v.net.length
  ·exact five n v hn c h
  ·exact six n v c h
 | succ d ih =>
  intro n v hn h
  by_cases c:0<v.net.length
  ·have e:z12 (d+1) v=z12 d (doneV v (happen 3 0 0)):=if_pos c
   rw [e] at h
   obtain ⟨m,q⟩:=ih (n+1) (doneV v (happen 3 0 0)) (by omega) h
   refine ⟨m+1,?_⟩
   rw [z09 (L:=q264_L4),zdn _ _ _ _ _ _ _ _ _ _ _ _ _ _ _ _ _ _ _ _ _ _ _ _ _ _ _ _ _ _ _ _ _ _ _ _ _ _ _ _ _ _ _ _ _ _ _ _ _ _ rfl _ rfl]
   refine z2o (by simp only [len]; omega) (z2o (by omega) ?_)
   rw [z0f (by omega)]
   exact q
  ·have e:z12 (d+1) v=v:=if_neg c
   rw [e] at h
   exact six n v c h
theorem round3 (K:KK) (nu:Nat) (hnu:nu≤1000) (us:List UnitD) (fl:Bool) (j times:Int):∀ (d k:Nat) (v:Vehicle),k+d=nu→(∃ m,goD Γ_q264 tab fn_q264 0 K m q264_L2 (tS2 (w64 (j+1)) times (z18 d k v)))→∃ m,goD Γ_q264 tab fn_q264 0 K m q264_L3 (tS3 k nu us fl j times v)
 | 0,k,v,hk,⟨m,h⟩=>by
  refine ⟨m+1,?_⟩
  rw [z09 (L:=q264_L3),zi9 _ _ _ _ _ _ _ _ _ _ _ _ _ _ _ _ _ _ _ _ _ _ _ _ _ _ _ _ _ _ _ _ _ _ _ _ _ _ _ _ rfl]
  exact z22 (by omega) h
 | d+1,k,v,hk,h=>by
  have ek:w64 ((k:Int)+1)=((k+1:Nat):Int):=by rw [z0e (by omega) (by omega)]; omega
  have ek2:((k+1:Nat):Int)=(k:Int)+1:=by omega
  have h':∃ m,goD Γ_q264 tab fn_q264 0 K m q264_L2 (tS2 (w64 (j+1)) times (z18 d ((k+1:Nat):Int) (z2i (z2u v k) k))):=by rw [ek2]; exact h
  have q3:=round3 K nu hnu us fl j times d (k+1) (z2i (z2u v k) k) (by omega) h'
  rw [← ek] at q3
  obtain ⟨m,q⟩:=drain4 K k nu j times us fl (lti (k:Int) (nu:Int)) 40 0 (doneV v (happen 9 k 0)) (by omega) q3
  refine ⟨m+1,?_⟩
  rw [z09 (L:=q264_L3),zi9 _ _ _ _ _ _ _ _ _ _ _ _ _ _ _ _ _ _ _ _ _ _ _ _ _ _ _ _ _ _ _ _ _ _ _ _ _ _ _ _ rfl]
  exact z2o (by omega) q
theorem times2 (K:KK) (times:Nat) (ht:times≤100):∀ (d j:Nat) (v:Vehicle),j+d=times→v.units.length≤4→K (.tup [.agg (cV (z20 d v) (.dat (Ty.list Ty.unitd) (z20 d v).units) (.dat (Ty.list Ty.campaign) (z20 d v).campaigns) (dM (z20 d v).net)),.one (dB (z1y (z20 d v)))]) []→∃ m,goD Γ_q264 tab fn_q264 0 K m q264_L2 (tS2 j times v)
 | 0,j,v,hj,hu,hK=>by
  refine ⟨1,?_⟩
  rw [z09 (L:=q264_L2),zif _ _ _ _ _ _ _ _ _ _ _ _ _ _ _ _ _ _ _ _ _ _ _ _ _ _ _ _ _ _ _ _ _ _ _ _ rfl _ rfl]
  have hK:K (.tup [.agg (cV v (.dat (Ty.list Ty.unitd) v.units) (.dat (Ty.list Ty.campaign) v.campaigns) (dM v.net)),.one (dB (z1y v))]) []:=hK
  have e0:z1y v=_:=rfl
  unfold z1y at e0
  refine z22 (by omega) (z27 (fun h1=>z27 (fun h2=>z27 (fun h3=>?_) (fun h3=>?_)) (fun h2=>?_)) (fun h1=>?_))
  ·have e:z1y v=true:=by unfold z1y; simp [eqi,show (readG v.g).2=0 from h1,show v.net.length=0 by simp only [len] at h2; omega,show (readG v.g).1.n=0 from h3]
   rw [e] at hK; exact hK
  ·have e:z1y v=(readG v.g).1.ended:=by unfold z1y; simp [eqi,show (readG v.g).2=0 from h1,show v.net.length=0 by simp only [len] at h2; omega,show (readG v.g).1.n≠0 from h3]
   rw [e] at hK; exact hK
  ·have e:z1y v=false:=by unfold z1y; simp [show ¬ v.net.length=0 by simp only [len] at h2; omega]
   rw [e] at hK; exact hK
  ·have e:z1y v=false:=by unfold z1y; simp [eqi,show ¬ (readG v.g).2=0 from h1]
   rw [e] at hK; exact hK
 | d+1,j,v,hj,hu,hK=>by
  have ej:w64 ((j:Int)+1)=((j+1:Nat):Int):=by rw [z0e (by omega) (by omega)]; omega
  have q2:=times2 K times ht d (j+1) (z18 v.units.length 0 v) (by omega) (by rw [zb8]; exact hu) hK
  rw [← ej] at q2
  obtain ⟨m,q⟩:=round3 K v.units.length (by omega) v.units (lti (j:Int) (times:Int)) j times v.units.length 0 v (by omega) q2
  refine ⟨m+1,?_⟩
  rw [z09 (L:=q264_L2),zif _ _ _ _ _ _ _ _ _ _ _ _ _ _ _ _ _ _ _ _ _ _ _ _ _ _ _ _ _ _ _ _ _ _ _ _ rfl _ rfl]
  exact z2o (by omega) q
theorem boots1 (K:KK) (times:Int):∀ (d:Nat) (k:Int) (v:Vehicle),-1≤k→k+d=v.units.length→v.units.length≤4→(∃ m,goD Γ_q264 tab fn_q264 0 K m q264_L2 (tS2 0 times (z32 d k v)))→∃ m,goD Γ_q264 tab fn_q264 0 K m q264_L1 (q264_S1 k false times v.b v.s v.g.f.words v.g.f.fuel v.g.up v.g.t.r.version v.g.t.r.keys v.g.t.r.thr v.g.t.version v.g.voted v.g.did v.units v.campaigns v.net v.now 0 false 0 0 0 0 [] [] [] [] [] [] [] [] [])
 | 0,k,v,h0,hk,hu,⟨m,h⟩=>by
  refine ⟨m+1,?_⟩
  rw [z09 (L:=q264_L1),zj3 _ _ _ _ _ _ _ _ _ _ _ _ _ _ _ _ _ _ _ _ _ _ _ _ _ _ _ _ _ _ _ _ _ _ _ _ rfl]
  exact z22 (by simp only [len]; omega) h
 | d+1,k,v,h0,hk,hu,h=>by
  have e:=z3t v (happen 7 k 0)
  obtain ⟨m,q⟩:=boots1 K times d (k+1) (doneV v (happen 7 k 0)) (by omega) (by rw [e]; omega) (by rw [e]; exact hu) h
  refine ⟨m+1,?_⟩
  rw [z09 (L:=q264_L1),zj3 _ _ _ _ _ _ _ _ _ _ _ _ _ _ _ _ _ _ _ _ _ _ _ _ _ _ _ _ _ _ _ _ _ _ _ _ rfl]
  refine z2o (by simp only [len]; omega) ?_
  rw [z0e (by omega) (by omega)]
  exact q
theorem lose0 (K:KK) (times:Int) (n:Nat) (hn:n≤24):∀ (d k:Nat) (v:Vehicle),k+d=n→(∃ m,goD Γ_q264 tab fn_q264 0 K m q264_L1 (q264_S1 (-1) false times (z3f d v).b (z3f d v).s (z3f d v).g.f.words (z3f d v).g.f.fuel (z3f d v).g.up (z3f d v).g.t.r.version (z3f d v).g.t.r.keys (z3f d v).g.t.r.thr (z3f d v).g.t.version (z3f d v).g.voted (z3f d v).g.did (z3f d v).units (z3f d v).campaigns (z3f d v).net (z3f d v).now 0 false 0 0 0 0 [] [] [] [] [] [] [] [] []))→∃ m,goD Γ_q264 tab fn_q264 0 K m q264_L0 (q264_S0 (k:Int) (n:Int) false times v.b v.s v.g.f.words v.g.f.fuel v.g.up v.g.t.r.version v.g.t.r.keys v.g.t.r.thr v.g.t.version v.g.voted v.g.did v.units v.campaigns v.net v.now 0 false 0 0 0 0 [] [] [] [] [] [] [] [] [])
 | 0,k,v,hk,⟨m,h⟩=>by
  refine ⟨m+1,?_⟩
  rw [z09 (L:=q264_L0),zjk _ _ _ _ _ _ _ _ _ _ _ _ _ _ _ _ _ _ _ _ _ _ _ _ _ _ _ _ _ _ _ _ _ _ _ _ _ rfl]
  exact z22 (by omega) h
 | d+1,k,v,hk,h=>by
  obtain ⟨m,q⟩:=lose0 K times n hn d (k+1) (doneV v (happen 4 0 0)) (by omega) h
  refine ⟨m+1,?_⟩
  rw [z09 (L:=q264_L0),zjk _ _ _ _ _ _ _ _ _ _ _ _ _ _ _ _ _ _ _ _ _ _ _ _ _ _ _ _ _ _ _ _ _ _ _ _ _ rfl]
  refine z2o (by omega) ?_
  rw [z0f (by omega)]
  exact q
theorem run_q264 (hp:0≤times∧times≤100∧us.length≤4∧net.length≤24) (K:KK) (hK:K (.tup [.agg [.dat (Ty.list Ty.str) (z0p ⟨vb,vs,⟨⟨ws,fu⟩,up,⟨⟨tv,tk,tt⟩,tn⟩,vo,di⟩,us,cs,net,now⟩ times.toNat).b,.dat (Ty.list Ty.signed) (z0p ⟨vb,vs,⟨⟨ws,fu⟩,up,⟨⟨tv,tk,tt⟩,tn⟩,vo,di⟩,us,cs,net,now⟩ times.toNat).s,dL (z0p ⟨vb,vs,⟨⟨ws,fu⟩,up,⟨⟨tv,tk,tt⟩,tn⟩,vo,di⟩,us,cs,net,now⟩ times.toNat).g.f.words,dI (z0p ⟨vb,vs,⟨⟨ws,fu⟩,up,⟨⟨tv,tk,tt⟩,tn⟩,vo,di⟩,us,cs,net,now⟩ times.toNat).g.f.fuel,dB (z0p ⟨vb,vs,⟨⟨ws,fu⟩,up,⟨⟨tv,tk,tt⟩,tn⟩,vo,di⟩,us,cs,net,now⟩ times.toNat).g.up,dI (z0p ⟨vb,vs,⟨⟨ws,fu⟩,up,⟨⟨tv,tk,tt⟩,tn⟩,vo,di⟩,us,cs,net,now⟩ times.toNat).g.t.r.version,dL (z0p ⟨vb,vs,⟨⟨ws,fu⟩,up,⟨⟨tv,tk,tt⟩,tn⟩,vo,di⟩,us,cs,net,now⟩ times.toNat).g.t.r.keys,dI (z0p ⟨vb,vs,⟨⟨ws,fu⟩,up,⟨⟨tv,tk,tt⟩,tn⟩,vo,di⟩,us,cs,net,now⟩ times.toNat).g.t.r.thr,dI (z0p ⟨vb,vs,⟨⟨ws,fu⟩,up,⟨⟨tv,tk,tt⟩,tn⟩,vo,di⟩,us,cs,net,now⟩ times.toNat).g.t.version,dLb (z0p ⟨vb,vs,⟨⟨ws,fu⟩,up,⟨⟨tv,tk,tt⟩,tn⟩,vo,di⟩,us,cs,net,now⟩ times.toNat).g.voted,dLb (z0p ⟨vb,vs,⟨⟨ws,fu⟩,up,⟨⟨tv,tk,tt⟩,tn⟩,vo,di⟩,us,cs,net,now⟩ times.toNat).g.did,.dat (Ty.list Ty.unitd) (z0p ⟨vb,vs,⟨⟨ws,fu⟩,up,⟨⟨tv,tk,tt⟩,tn⟩,vo,di⟩,us,cs,net,now⟩ times.toNat).units,.dat (Ty.list Ty.campaign) (z0p ⟨vb,vs,⟨⟨ws,fu⟩,up,⟨⟨tv,tk,tt⟩,tn⟩,vo,di⟩,us,cs,net,now⟩ times.toNat).campaigns,dM (z0p ⟨vb,vs,⟨⟨ws,fu⟩,up,⟨⟨tv,tk,tt⟩,tn⟩,vo,di⟩,us,cs,net,now⟩ times.toNat).net,dI (z0p ⟨vb,vs,⟨⟨ws,fu⟩,up,⟨⟨tv,tk,tt⟩,tn⟩,vo,di⟩,us,cs,net,now⟩ times.toNat).now],.one (dB (z1y (z0p ⟨vb,vs,⟨⟨ws,fu⟩,up,⟨⟨tv,tk,tt⟩,tn⟩,vo,di⟩,us,cs,net,now⟩ times.toNat)))]) []):GD Γ_q264 fn_q264 0 K [.agg (aV vb vs ws fu up tv tk tt tn vo di (.dat (Ty.list Ty.unitd) us) (.dat (Ty.list Ty.campaign) cs) (dM net) now),.one (dI times)] []:=by
 obtain ⟨p1,p2,p3,p4⟩:=hp
 obtain ⟨T,hT⟩:∃ T:Nat,times=T:=⟨times.toNat,by omega⟩
 subst hT
 obtain ⟨v,hv⟩:∃ v:Vm.Vehicle,v=⟨vb,vs,⟨⟨ws,fu⟩,up,⟨⟨tv,tk,tt⟩,tn⟩,vo,di⟩,us,cs,net,now⟩:=⟨_,rfl⟩
 have hu:v.units.length≤4:=by rw [hv]; exact p3
 have hn:v.net.length≤24:=by rw [hv]; exact p4
 rw [← hv,show ((T:Int)).toNat=T by omega] at hK
 have lu:=zcy v.net.length v
 have bu:=zbm (v.units.length+1) (-1) (z3f v.net.length v)
 have q2:=times2 K T (by omega) T 0 _ (by omega) (by rw [bu,lu]; exact hu) hK
 have q1:=boots1 K T (v.units.length+1) (-1) (z3f v.net.length v) (by omega) (by rw [lu]; omega) (by rw [lu]; exact hu) q2
 obtain ⟨m,q0⟩:=lose0 K T v.net.length hn v.net.length 0 v (by omega) q1
 refine ⟨m+1,?_⟩
 rw [z02,q264_vc _ _ _ _ _ _ _ _ _ _ _ _ _ _ _ _ _ _]
 rw [hv] at q0
 exact q0
theorem sound_q264:z03 Tryz.prog tab n_q264 c_q264:=z01 ok_q264 hg_q264 (by
 intro vs bs p v bs' h hp
 unfold c_q264 at h
 split at h
 ·cases h
  exact ⟨by kernel_rfl,rfl,.inl (run_q264 _ _ _ _ _ _ _ _ _ _ _ _ _ _ _ _ hp.1 _ ⟨rfl,rfl⟩)⟩
 ·cases h)

def c_q267:z00:=fun vs bs=>match vs,bs with
 | [.one (.dat .int _),.one (.dat (.list .happening) _)],[]=>some (none,.one (dB true),[])
 | _,_=>none
def Γ_q267:Ctx:=[(n_q20,c_q20),(n_q258,c_q258),(n_q260,c_q260),(n_q262,c_q262),(n_q259,c_q259),(n_q264,c_q264),(n_q169,c_q169),(n_q240,c_q240),(n_q148,c_q148),(n_q134,c_q134),(n_q0,c_q0)]
theorem ok_q267:Ok Tryz.prog tab Γ_q267:=(((((((((((ok_nil.c hg_q0 sound_q0).c hg_q134 sound_q134).c hg_q148 sound_q148).c hg_q240 sound_q240).c hg_q169 sound_q169).c hg_q264 sound_q264).c hg_q259 sound_q259).c hg_q262 sound_q262).c hg_q260 sound_q260).c hg_q258 sound_q258).c hg_q20 sound_q20)
noncomputable def q267_L0:List It:=[.inLoop [51,50,49,8,7,6,5,4] (cSub fn_q267 [1,1,1,1,0,1,0,0]),.inBlock 0,.code (cSub fn_q267 [1,1,1,1,1])]
def q267_S0 (x0 x1:Int) (x2:List Vm.Happening) (x3:Bool) (x4:List Vm.Offer) (x5:Bool) (x6:List Vm.Happening) (x7:List (List UInt8)) (x8:List Vm.Signed) (x9:List Int) (x10:Int) (x11:Bool) (x12:Int) (x13:List Int) (x14 x15:Int) (x16 x17:List Bool) (x18:List Vm.UnitD) (x19:List Vm.Campaign) (x20:List Vm.Message) (x21:Int):St:=⟨[(51,.one (dI x0)),(50,.one (dI x1)),(49,.one (.dat (Ty.list Ty.happening) x2)),(8,.one (.own 0)),(7,.one (dB x3)),(6,.one (.dat (Ty.list Ty.offer) x4)),(5,.one (.ptr 1 0)),(4,.one (dB x5))],[(0,.arr Ty.happening x6),(1,.box [.dat (Ty.list Ty.str) x7,.dat (Ty.list Ty.signed) x8,dL x9,dI x10,dB x11,dI x12,dL x13,dI x14,dI x15,dLb x16,dLb x17,.dat (Ty.list Ty.unitd) x18,.dat (Ty.list Ty.campaign) x19,dM x20,dI x21])],2⟩
noncomputable def q267_L1:List It:=[.inLoop [134,133,132,13,6,4] (cSub fn_q267 [1,1,1,1,1,1,1,1,1,1,1,1,1,1,1,0,1,0,0]),.inBlock 2,.code (cSub fn_q267 [1,1,1,1,1,1,1,1,1,1,1,1,1,1,1,1])]
def q267_S1 (x0 x1:Int) (x2:List Vm.UnitD) (x3:List Vm.Offer) (x4:Bool) (x5 x6:Int) (x7 x8 x9:Bool):St:=⟨[(134,.one (dI x0)),(133,.one (dI x1)),(132,.one (.dat (Ty.list Ty.unitd) x2)),(13,.one (.ptr 0 0)),(6,.one (.dat (Ty.list Ty.offer) x3)),(4,.one (dB x4))],[(0,.box [dI x5,dI x6,dB x7,dB x8,dB x9])],1⟩
theorem q267_vc (units:Int) (l:List Happening) (rec:RK) (K:KK) v0 (hv0:v0=facOk (Int.toNat (w64 ((1:Int)+(units % (4:Int))))) 100) v1 (hv1:v1=facO (Int.toNat (w64 ((1:Int)+(units % (4:Int))))) 100) v2 (hv2:v2=z5z v1 l) v3 (hv3:v3=facN (Int.toNat (w64 ((1:Int)+(units % (4:Int))))) 100):segD Γ_q267 tab fn_q267 0 K rec [.code (z05 fn_q267)] (z07 [.one (dI units),.one (.dat (Ty.list Ty.happening) l)] [])=(
 ((0:Int)<(4:Int)∧(4:Int)≤(1000:Int)) ∧
 ((1:Int)≤w64 ((1:Int)+(units % (4:Int)))∧w64 ((1:Int)+(units % (4:Int)))≤4∧v0=true) ∧
 List.length v1≤1000 ∧
 rec q267_L0 (q267_S0 0 (len v2:Int) v2 true v1 false [] v3.fst.b v3.fst.s v3.fst.g.f.words v3.fst.g.f.fuel v3.fst.g.up v3.fst.g.t.r.version v3.fst.g.t.r.keys v3.fst.g.t.r.thr v3.fst.g.t.version v3.fst.g.voted v3.fst.g.did v3.fst.units v3.fst.campaigns v3.fst.net v3.fst.now)):=by subst_vars; kernel_rfl
theorem z8e (x0 x1:Int) (x2:List Vm.Happening) (x3:Bool) (x4:List Vm.Offer) (x5:Bool) (x6:List Vm.Happening) (x7:List (List UInt8)) (x8:List Vm.Signed) (x9:List Int) (x10:Int) (x11:Bool) (x12:Int) (x13:List Int) (x14 x15:Int) (x16 x17:List Bool) (x18:List Vm.UnitD) (x19:List Vm.Campaign) (x20:List Vm.Message) (x21:Int) (rec:RK) (K:KK) v0 (hv0:v0=runV ⟨x7,x8,⟨⟨x9,x10⟩,x11,⟨⟨x12,x13,x14⟩,x15⟩,x16,x17⟩,x18,x19,x20,x21⟩ x6) v1 (hv1:v1=z0p ⟨v0.fst.b,v0.fst.s,⟨⟨v0.fst.g.f.words,v0.fst.g.f.fuel⟩,v0.fst.g.up,⟨⟨v0.fst.g.t.r.version,v0.fst.g.t.r.keys,v0.fst.g.t.r.thr⟩,v0.fst.g.t.version⟩,v0.fst.g.voted,v0.fst.g.did⟩,v0.fst.units,v0.fst.campaigns,v0.fst.net,v0.fst.now⟩ (Int.toNat 4)) v2 (hv2:v2=z1y v1) v3 (hv3:v3=readG ⟨⟨v1.g.f.words,v1.g.f.fuel⟩,v1.g.up,⟨⟨v1.g.t.r.version,v1.g.t.r.keys,v1.g.t.r.thr⟩,v1.g.t.version⟩,v1.g.voted,v1.g.did⟩) v4 (hv4:v4=doV ⟨v1.b,v1.s,⟨⟨v1.g.f.words,v1.g.f.fuel⟩,v1.g.up,⟨⟨v1.g.t.r.version,v1.g.t.r.keys,v1.g.t.r.thr⟩,v1.g.t.version⟩,v1.g.voted,v1.g.did⟩,v1.units,v1.campaigns,v1.net,v1.now⟩ ⟨1,0,0,⟨(nth x4 (Int.toNat 2) (Ty.dflt Ty.offer)).roots,(nth x4 (Int.toNat 2) (Ty.dflt Ty.offer)).rootSigs,⟨((nth x4 (Int.toNat 2) (Ty.dflt Ty.offer)).r).version,((nth x4 (Int.toNat 2) (Ty.dflt Ty.offer)).r).til,((nth x4 (Int.toNat 2) (Ty.dflt Ty.offer)).r).targets⟩,(nth x4 (Int.toNat 2) (Ty.dflt Ty.offer)).sigs,(nth x4 (Int.toNat 2) (Ty.dflt Ty.offer)).images⟩⟩) v5 (hv5:v5=doV ⟨v1.b,v1.s,⟨⟨v1.g.f.words,v1.g.f.fuel⟩,v1.g.up,⟨⟨v1.g.t.r.version,v1.g.t.r.keys,v1.g.t.r.thr⟩,v1.g.t.version⟩,v1.g.voted,v1.g.did⟩,v1.units,v1.campaigns,v1.net,v1.now⟩ ⟨1,0,0,⟨(nth x4 (Int.toNat 1) (Ty.dflt Ty.offer)).roots,(nth x4 (Int.toNat 1) (Ty.dflt Ty.offer)).rootSigs,⟨((nth x4 (Int.toNat 1) (Ty.dflt Ty.offer)).r).version,((nth x4 (Int.toNat 1) (Ty.dflt Ty.offer)).r).til,((nth x4 (Int.toNat 1) (Ty.dflt Ty.offer)).r).targets⟩,(nth x4 (Int.toNat 1) (Ty.dflt Ty.offer)).sigs,(nth x4 (Int.toNat 1) (Ty.dflt Ty.offer)).images⟩⟩) v6 (hv6:v6=z0p ⟨v5.fst.b,v5.fst.s,⟨⟨v5.fst.g.f.words,v5.fst.g.f.fuel⟩,v5.fst.g.up,⟨⟨v5.fst.g.t.r.version,v5.fst.g.t.r.keys,v5.fst.g.t.r.thr⟩,v5.fst.g.t.version⟩,v5.fst.g.voted,v5.fst.g.did⟩,v5.fst.units,v5.fst.campaigns,v5.fst.net,v5.fst.now⟩ (Int.toNat 4)) v7 (hv7:v7=z1y v6):segD Γ_q267 tab fn_q267 0 K rec (ent q267_L0) (q267_S0 x0 x1 x2 x3 x4 x5 x6 x7 x8 x9 x10 x11 x12 x13 x14 x15 x16 x17 x18 x19 x20 x21)=(
 br (lti x0 x1)
 (((0:Int)≤x0∧x0<(len x2:Int)) ∧
 br (!(eqi (nth x2 (Int.toNat x0) (Ty.dflt Ty.happening)).kind 1))
 ((len x6+len ((⟨(nth x2 (Int.toNat x0) (Ty.dflt Ty.happening)).kind,(nth x2 (Int.toNat x0) (Ty.dflt Ty.happening)).unit,(nth x2 (Int.toNat x0) (Ty.dflt Ty.happening)).k,⟨((nth x2 (Int.toNat x0) (Ty.dflt Ty.happening)).o).roots,((nth x2 (Int.toNat x0) (Ty.dflt Ty.happening)).o).rootSigs,⟨(((nth x2 (Int.toNat x0) (Ty.dflt Ty.happening)).o).r).version,(((nth x2 (Int.toNat x0) (Ty.dflt Ty.happening)).o).r).til,(((nth x2 (Int.toNat x0) (Ty.dflt Ty.happening)).o).r).targets⟩,((nth x2 (Int.toNat x0) (Ty.dflt Ty.happening)).o).sigs,((nth x2 (Int.toNat x0) (Ty.dflt Ty.happening)).o).images⟩⟩:Vm.Happening)::[]))*160≤140737488355328 ∧
 rec q267_L0 (q267_S0 (w64 (x0+1)) x1 x2 x3 x4 x5 (cat x6 ((⟨(nth x2 (Int.toNat x0) (Ty.dflt Ty.happening)).kind,(nth x2 (Int.toNat x0) (Ty.dflt Ty.happening)).unit,(nth x2 (Int.toNat x0) (Ty.dflt Ty.happening)).k,⟨((nth x2 (Int.toNat x0) (Ty.dflt Ty.happening)).o).roots,((nth x2 (Int.toNat x0) (Ty.dflt Ty.happening)).o).rootSigs,⟨(((nth x2 (Int.toNat x0) (Ty.dflt Ty.happening)).o).r).version,(((nth x2 (Int.toNat x0) (Ty.dflt Ty.happening)).o).r).til,(((nth x2 (Int.toNat x0) (Ty.dflt Ty.happening)).o).r).targets⟩,((nth x2 (Int.toNat x0) (Ty.dflt Ty.happening)).o).sigs,((nth x2 (Int.toNat x0) (Ty.dflt Ty.happening)).o).images⟩⟩:Vm.Happening)::[])) x7 x8 x9 x10 x11 x12 x13 x14 x15 x16 x17 x18 x19 x20 x21))
 (br (!(eqi (((nth x2 (Int.toNat x0) (Ty.dflt Ty.happening)).o).r).version 2))
 ((len x6+len ((⟨(nth x2 (Int.toNat x0) (Ty.dflt Ty.happening)).kind,(nth x2 (Int.toNat x0) (Ty.dflt Ty.happening)).unit,(nth x2 (Int.toNat x0) (Ty.dflt Ty.happening)).k,⟨((nth x2 (Int.toNat x0) (Ty.dflt Ty.happening)).o).roots,((nth x2 (Int.toNat x0) (Ty.dflt Ty.happening)).o).rootSigs,⟨(((nth x2 (Int.toNat x0) (Ty.dflt Ty.happening)).o).r).version,(((nth x2 (Int.toNat x0) (Ty.dflt Ty.happening)).o).r).til,(((nth x2 (Int.toNat x0) (Ty.dflt Ty.happening)).o).r).targets⟩,((nth x2 (Int.toNat x0) (Ty.dflt Ty.happening)).o).sigs,((nth x2 (Int.toNat x0) (Ty.dflt Ty.happening)).o).images⟩⟩:Vm.Happening)::[]))*160≤140737488355328 ∧
 rec q267_L0 (q267_S0 (w64 (x0+1)) x1 x2 x3 x4 x5 (cat x6 ((⟨(nth x2 (Int.toNat x0) (Ty.dflt Ty.happening)).kind,(nth x2 (Int.toNat x0) (Ty.dflt Ty.happening)).unit,(nth x2 (Int.toNat x0) (Ty.dflt Ty.happening)).k,⟨((nth x2 (Int.toNat x0) (Ty.dflt Ty.happening)).o).roots,((nth x2 (Int.toNat x0) (Ty.dflt Ty.happening)).o).rootSigs,⟨(((nth x2 (Int.toNat x0) (Ty.dflt Ty.happening)).o).r).version,(((nth x2 (Int.toNat x0) (Ty.dflt Ty.happening)).o).r).til,(((nth x2 (Int.toNat x0) (Ty.dflt Ty.happening)).o).r).targets⟩,((nth x2 (Int.toNat x0) (Ty.dflt Ty.happening)).o).sigs,((nth x2 (Int.toNat x0) (Ty.dflt Ty.happening)).o).images⟩⟩:Vm.Happening)::[])) x7 x8 x9 x10 x11 x12 x13 x14 x15 x16 x17 x18 x19 x20 x21))
 (rec q267_L0 (q267_S0 (w64 (x0+1)) x1 x2 x3 x4 x5 x6 x7 x8 x9 x10 x11 x12 x13 x14 x15 x16 x17 x18 x19 x20 x21))))
 (br (!(eqi v0.snd.snd 0))
 (K vF [])
 (((0:Int)≤(4:Int)∧(4:Int)≤(100:Int)∧List.length v0.fst.units≤4∧List.length v0.fst.net≤24) ∧
 br (!v2)
 (K vF [])
 (br (!(eqi v3.snd 0))
 (K vF [])
 (br (eqi v3.fst.n 8)
 (K vT [])
 (br (lti 100 v1.now)
 (K vT [])
 (((0:Int)≤(2:Int)∧(2:Int)<(len x4:Int)) ∧
 br (!(eqi v4.snd 9))
 (K vF [])
 (((0:Int)≤(1:Int)∧(1:Int)<(len x4:Int)) ∧
 br (!(eqi v5.snd 0))
 (K vF [])
 (((0:Int)≤(4:Int)∧(4:Int)≤(100:Int)∧List.length v5.fst.units≤4∧List.length v5.fst.net≤24) ∧
 br (!v7)
 (K vF [])
 (rec q267_L1 (q267_S1 0 (len v6.units:Int) v6.units x4 x5 v3.fst.n v3.fst.version v3.fst.commit v3.fst.abort v3.fst.ended))))))))))):=by subst_vars; kernel_rfl
theorem zj0 (x0 x1:Int) (x2:List Vm.UnitD) (x3:List Vm.Offer) (x4:Bool) (x5 x6:Int) (x7 x8 x9:Bool) (rec:RK) (K:KK) v0 (hv0:v0=z5i ⟨⟨((nth x2 (Int.toNat x0) (Ty.dflt Ty.unitd)).f).words,((nth x2 (Int.toNat x0) (Ty.dflt Ty.unitd)).f).fuel⟩,(nth x2 (Int.toNat x0) (Ty.dflt Ty.unitd)).up,(nth x2 (Int.toNat x0) (Ty.dflt Ty.unitd)).n,(nth x2 (Int.toNat x0) (Ty.dflt Ty.unitd)).got⟩) v1 (hv1:v1=readU ⟨⟨((nth x2 (Int.toNat x0) (Ty.dflt Ty.unitd)).f).words,((nth x2 (Int.toNat x0) (Ty.dflt Ty.unitd)).f).fuel⟩,(nth x2 (Int.toNat x0) (Ty.dflt Ty.unitd)).up,(nth x2 (Int.toNat x0) (Ty.dflt Ty.unitd)).n,(nth x2 (Int.toNat x0) (Ty.dflt Ty.unitd)).got⟩) v2 (hv2:v2=eqIs v0.fst (nth (nth x3 (Int.toNat 1) (Ty.dflt Ty.offer)).images (Int.toNat x0) (Ty.dflt (Ty.list Ty.int)))):segD Γ_q267 tab fn_q267 0 K rec (ent q267_L1) (q267_S1 x0 x1 x2 x3 x4 x5 x6 x7 x8 x9)=(
 br (lti x0 x1)
 (((0:Int)≤x0∧x0<(len x2:Int)) ∧
 br (!(eqi v0.snd.snd 0))
 (K vF [])
 (br (!(eqi v1.snd 0))
 (K vF [])
 (br (!(eqi v1.fst.by_ (w64 (x5+1))))
 (K vF [])
 (((0:Int)≤(1:Int)∧(1:Int)<(len x3:Int)) ∧
 ((0:Int)≤x0∧x0<(((len (nth x3 (Int.toNat 1) (Ty.dflt Ty.offer)).images):Nat):Int)) ∧
 List.length v0.fst≤140737488355328 ∧
 br (!v2)
 (K vF [])
 (rec q267_L1 (q267_S1 (w64 (x0+1)) x1 x2 x3 x4 x5 x6 x7 x8 x9))))))
 (K vT [])):=by subst_vars; kernel_rfl

abbrev vgS0 (k n:Int) (l:List Happening) (x:Bool) (os:List Offer) (y:Bool) (acc:List Happening) (v:Vehicle):St:=q267_S0 k n l x os y acc v.b v.s v.g.f.words v.g.f.fuel v.g.up v.g.t.r.version v.g.t.r.keys v.g.t.r.thr v.g.t.version v.g.voted v.g.did v.units v.campaigns v.net v.now
theorem z3g (t:Vehicle) (os:List Offer) (n:Int) (hn:0≤n∧n≤8) (hos:os.length=3) (him:(nth os 1 (Ty.dflt .offer)).images.length=t.units.length) (h:∀ k,k<t.units.length→readU (UU t k)=(TT t k,0)∧(TT t k).by_=n+1∧(z5i (UU t k)).2.2=0∧(z5i (UU t k)).1=nth (nth os 1 (Ty.dflt .offer)).images k []∧(z5i (UU t k)).1.length≤140737488355328) (h4:t.units.length≤4)
  (x:Bool) (a:Int) (b e f:Bool) (K:KK) (hK:K (.one (dB true)) []) :
  ∀ (d k:Nat),k+d=t.units.length→goD Γ_q267 tab fn_q267 0 K (d+1) q267_L1 (q267_S1 (k:Int) (((len t.units):Nat):Int) t.units os x n a b e f)
 | 0,k,hk=>by
  rw [z09 (L:=q267_L1),zj0 _ _ _ _ _ _ _ _ _ _ _ _ _ rfl _ rfl _ rfl]
  exact z22 (by simp only [len]; omega) hK
 | d+1,k,hk=>by
  rw [z09 (L:=q267_L1),zj0 _ _ _ _ _ _ _ _ _ _ _ _ _ rfl _ rfl _ rfl,z08]
  have hkN:k<t.units.length:=by omega
  obtain ⟨r1,r2,r3,r4,r5⟩:=h k hkN
  have next:=z3g t os n hn hos him h h4 x a b e f K hK d (k+1) (by omega)
  refine z2o (by simp only [len]; omega) ⟨⟨by omega,by simp only [len]; omega⟩,?_⟩
  rw [z0f (by omega)]
  show br (!(eqi (z5i (UU t k)).2.2 0)) _ (br (!(eqi (readU (UU t k)).2 0)) _ (br (!(eqi (readU (UU t k)).1.by_ (w64 (n+1)))) _ (_∧(_∧(_∧br (!(eqIs (z5i (UU t k)).1 (nth (nth os 1 (Ty.dflt .offer)).images k []))) _ _)))))
  rw [r1]
  simp only
  rw [r2,z0e (n:=n+1) (by omega) (by omega)]
  refine z1c (fun q=>absurd r3 q) (fun _=>z1c (fun q=>absurd rfl q) (fun _=>z1c (fun q=>absurd rfl q) (fun _=>⟨⟨by omega,by simp only [len]; omega⟩,⟨by omega,?_⟩,r5,z4n (fun q=>?_) (fun _=>next)⟩)))
  ·show (k:Int)<(((nth os 1 (Ty.dflt .offer)).images.length:Nat):Int)
   omega
  ·rw [r4] at q
   have q:eqIs (nth (nth os 1 (Ty.dflt .offer)).images k []) (nth (nth os 1 (Ty.dflt .offer)).images k [])=false:=q
   simp [eqIs] at q
theorem z7b (first:List (List Int)) (n:Nat) (os:List Offer) (f:Vehicle) (hf:VI first 0 f) (hlo:LowV 100 f) (hos:os.length=3) (hI:TrustI f.b f.s f) (ha:∀ o∈os,offOk 100 f.b f.s o=true) (h1:∀ o∈os,oneO o=true) (hg:goodO f.units.length f.b f.s (nth os 1 (Ty.dflt .offer))=true) (hb:badO f.b f.s (nth os 2 (Ty.dflt .offer))=true)
  (l acc:List Happening) (x y:Bool) (hacc:acc.length≤160) (hP:∀ z∈acc,z.kind=1→z.o∈os∧z.o.r.version≠2) (K:KK) (hK:K (.one (dB true)) []) (k:Int) (hk:((len l:Nat):Int)≤k) :
  ∃ m,goD Γ_q267 tab fn_q267 0 K m q267_L0 (vgS0 k (((len l):Nat):Int) l x os y acc f):=by
 obtain ⟨c,I,lw,tI,ul⟩:=VI.runs (P:=TrustI f.b f.s) acc f 0 100 hf hlo hI (fun u z W p hz hh=>zgn W p (fun q=>⟨ha _ (hP z hz q).1,h1 _ (hP z hz q).1,(hP z hz q).2⟩) hh)
 have er:=runV_ok hf hacc
 obtain ⟨v0,hv0⟩:∃ v0,v0=runV f acc:=⟨_,rfl⟩
 rw [← hv0] at er
 have e4:(z45 f acc).1=v0.1:=by rw [er]
 rw [e4] at I lw tI ul
 have e0:v0.2.2=0:=by rw [er]
 obtain ⟨T,Kp,tn,te,_⟩:=I.tour (B:=100+acc.length) lw (by omega)
 obtain ⟨v1,hv1⟩:∃ v1,v1=z0p v0.1 (Int.toNat (4:Int)):=⟨_,rfl⟩
 have h4:z0p v0.1 4=v1:=by rw [hv1]; rfl
 rw [h4] at T Kp tn te
 have te':(ofG v1.g.f).n=0∨(ofG v1.g.f).ended=true:=te.imp (fun q=>by rw [Kp.n]; exact q) id
 obtain ⟨rs,_⟩:=T.rest (first:=first) tn te'
 obtain ⟨v2,hv2⟩:∃ v2,v2=z1y v1:=⟨_,rfl⟩
 rw [← hv2] at rs
 obtain ⟨v3,hv3⟩:∃ v3,v3=readG v1.g:=⟨_,rfl⟩
 have rd:=z6n T.vi.w.g
 rw [← hv3] at rd
 obtain ⟨v4,hv4⟩:∃ v4,v4=doV v1 ⟨1,0,0,nth os (Int.toNat 2) (Ty.dflt .offer)⟩:=⟨_,rfl⟩
 obtain ⟨v5,hv5⟩:∃ v5,v5=doV v1 ⟨1,0,0,nth os (Int.toNat 1) (Ty.dflt .offer)⟩:=⟨_,rfl⟩
 obtain ⟨v6,hv6⟩:∃ v6,v6=z0p v5.1 (Int.toNat (4:Int)):=⟨_,rfl⟩
 obtain ⟨v7,hv7⟩:∃ v7,v7=z1y v6:=⟨_,rfl⟩
 have u4:=I.w.units4.2
 have n24:=I.w.n24
 have start:∀ (m:Nat) (C:Prop),((ofG v1.g.f).n=8∨100<v1.now∨True)→True:=fun _ _ _=>trivial
 by_cases c1:(ofG v1.g.f).n=8
 ·refine ⟨1,?_⟩
  rw [z09 (L:=q267_L0),z8e _ _ _ _ _ _ _ _ _ _ _ _ _ _ _ _ _ _ _ _ _ _ _ _ v0 hv0 v1 hv1 v2 hv2 v3 hv3 v4 hv4 v5 hv5 v6 hv6 v7 hv7]
  refine z22 (by omega) (z1c (fun q=>absurd e0 q) (fun _=>⟨⟨by omega,by omega,u4,n24⟩,z4n (fun q=>by rw [rs] at q; cases q) (fun _=>?_)⟩))
  rw [rd]
  exact z1c (fun q=>absurd rfl q) (fun _=>zgj c1 hK)
 by_cases c2:100<v1.now
 ·refine ⟨1,?_⟩
  rw [z09 (L:=q267_L0),z8e _ _ _ _ _ _ _ _ _ _ _ _ _ _ _ _ _ _ _ _ _ _ _ _ v0 hv0 v1 hv1 v2 hv2 v3 hv3 v4 hv4 v5 hv5 v6 hv6 v7 hv7]
  refine z22 (by omega) (z1c (fun q=>absurd e0 q) (fun _=>⟨⟨by omega,by omega,u4,n24⟩,z4n (fun q=>by rw [rs] at q; cases q) (fun _=>?_)⟩))
  rw [rd]
  exact z1c (fun q=>absurd rfl q) (fun _=>zfd c1 (z2o c2 hK))
 have b1:v1.b=f.b:=Kp.b.trans tI.b
 have s1:v1.s=f.s:=Kp.s.trans tI.s
 have l1:v1.units.length=f.units.length:=Kp.len.trans ul
 have tI1:TrustI v1.b v1.s v1:=⟨rfl,rfl,by rw [Kp.t]; exact tI.r,by rw [Kp.t]; exact tI.n⟩
 have m1:=ha _ (z1g (l:=os) (k:=1) (by omega) (Ty.dflt .offer))
 have m2:=ha _ (z1g (l:=os) (k:=2) (by omega) (Ty.dflt .offer))
 obtain ⟨q1,q2,⟨c',I'⟩,q4,q5,q6,q7⟩:=T.offers te' c1 (by omega) (by omega) tI1 (o:=nth os 1 (Ty.dflt .offer)) (p:=nth os 2 (Ty.dflt .offer)) (by rw [b1,s1]; exact m1) (by rw [b1,s1]; exact m2) (by rw [b1,s1,l1]; exact hg) (by rw [b1,s1]; exact hb)
 have e5:doV v1 ⟨1,0,0,nth os 1 (Ty.dflt .offer)⟩=v5:=hv5.symm
 have e4':doV v1 ⟨1,0,0,nth os 2 (Ty.dflt .offer)⟩=v4:=hv4.symm
 have lt:LowV (100+acc.length+208) v1:=⟨T.gl,fun k hk=>(T.uu k hk).2.2⟩
 have l5:LowV (100+acc.length+208+1) v5.1:=by
  have d:=do_ok q2
  have:=T.vi.low lt d.2.1
  rw [← e5,d.2.2]
  exact this
 rw [e4'] at q1
 rw [e5] at q2 I' q4 q5 q6 q7
 have n8:=(z24 v1.g.f).n8
 have n0:=(z24 v1.g.f).n0
 obtain ⟨z1,z2,z3⟩:=goes_end I' l5 (by omega) q4 n0 q5 T.vi.len q6
 have h6:z0p v5.1 4=v6:=by rw [hv6]; rfl
 rw [h6] at z1 z2 z3
 rw [← hv7] at z1
 have him:(nth os 1 (Ty.dflt .offer)).images.length=v6.units.length:=by
  unfold goodO at hg
  simp only [Bool.and_eq_true,decide_eq_true_eq] at hg
  rw [hg.2.2.2.2.1,z2,q7,l1]
 have inner:=z3g v6 os (ofG v1.g.f).n ⟨n0,n8⟩ hos him (fun k hk=>z3 k (by rw [← z2]; exact hk)) (by rw [z2,q7]; exact T.vi.w.units4.2) y (ofG v1.g.f).version (ofG v1.g.f).commit (ofG v1.g.f).abort (ofG v1.g.f).ended K hK v6.units.length 0 (by omega)
 refine ⟨v6.units.length+1+1,?_⟩
 rw [z09 (L:=q267_L0),z8e _ _ _ _ _ _ _ _ _ _ _ _ _ _ _ _ _ _ _ _ _ _ _ _ v0 hv0 v1 hv1 v2 hv2 v3 hv3 v4 hv4 v5 hv5 v6 hv6 v7 hv7]
 refine z22 (by omega) (z1c (fun q=>absurd e0 q) (fun _=>⟨⟨by omega,by omega,u4,n24⟩,z4n (fun q=>by rw [rs] at q; cases q) (fun _=>?_)⟩))
 rw [rd]
 refine z1c (fun q=>absurd rfl q) (fun _=>zfd c1 (z22 (by omega) ⟨⟨by omega,by simp only [len]; omega⟩,z1c (fun q=>absurd q1 q) (fun _=>⟨⟨by omega,by simp only [len]; omega⟩,z1c (fun q=>absurd q2 q) (fun _=>⟨⟨by omega,by omega,by rw [q7]; exact T.vi.w.units4.2,I'.w.n24⟩,z4n (fun q=>by rw [z1] at q; cases q) (fun _=>inner)⟩)⟩)⟩))
theorem zbb (os:List Offer) (f:Vehicle) (l:List Happening) (hl:l.length≤160) (hos:∀ z∈l,z.kind=1→z.o∈os) (x y:Bool) (K:KK)
  (hE:∀ acc:List Happening,acc.length≤160→(∀ z∈acc,z.kind=1→z.o∈os∧z.o.r.version≠2)→∃ m,goD Γ_q267 tab fn_q267 0 K m q267_L0 (vgS0 (l.length:Int) (((len l):Nat):Int) l x os y acc f)) :
  ∀ (d k:Nat) (acc:List Happening),k+d=l.length→acc.length≤k→(∀ z∈acc,z.kind=1→z.o∈os∧z.o.r.version≠2) →
  ∃ m,goD Γ_q267 tab fn_q267 0 K m q267_L0 (vgS0 (k:Int) (((len l):Nat):Int) l x os y acc f)
 | 0,k,acc,hk,ha,hP=>by
  obtain rfl:k=l.length:=by omega
  exact hE acc (by omega) hP
 | d+1,k,acc,hk,ha,hP=>by
  obtain ⟨z,hz⟩:∃ z,nth l k (Ty.dflt .happening)=z:=⟨_,rfl⟩
  have hmem:z∈l:=by rw [← hz]; exact z1g (by omega) _
  have ek:w64 ((k:Int)+1)=((k+1:Nat):Int):=z0f (by omega)
  by_cases c:z.kind=1∧z.o.r.version=2
  ·obtain ⟨m,hm⟩:=zbb os f l hl hos x y K hE d (k+1) acc (by omega) (by omega) hP
   refine ⟨m+1,?_⟩
   rw [z09 (L:=q267_L0),z8e _ _ _ _ _ _ _ _ _ _ _ _ _ _ _ _ _ _ _ _ _ _ _ _ _ rfl _ rfl _ rfl _ rfl _ rfl _ rfl _ rfl _ rfl,z08,hz]
   refine z2o (by simp only [len]; omega) ⟨⟨by omega,by simp only [len]; omega⟩,ne_f c.1 (ne_f c.2 ?_)⟩
   rw [ek]; exact hm
  ·obtain ⟨m,hm⟩:=zbb os f l hl hos x y K hE d (k+1) (acc++[z]) (by omega) (by rw [List.length_append,List.length_singleton]; omega) (fun u hu hk1=>by
    rcases List.mem_append.1 hu with q | q
    ·exact hP u q hk1
    ·rw [List.mem_singleton.1 q] at hk1 ⊢
     exact ⟨hos z hmem hk1,fun e=>c ⟨hk1,e⟩⟩)
   refine ⟨m+1,?_⟩
   rw [z09 (L:=q267_L0),z8e _ _ _ _ _ _ _ _ _ _ _ _ _ _ _ _ _ _ _ _ _ _ _ _ _ rfl _ rfl _ rfl _ rfl _ rfl _ rfl _ rfl _ rfl,z08,hz]
   have la:((len acc+len (z::[]))*160:Nat)≤140737488355328:=by simp only [len,List.length_cons,List.length_nil]; omega
   refine z2o (by simp only [len]; omega) ⟨⟨by omega,by simp only [len]; omega⟩,z1c (fun h1=>⟨la,?_⟩) (fun h1=>z1c (fun h2=>⟨la,?_⟩) (fun h2=>absurd ⟨h1,h2⟩ c))⟩
   ·rw [ek]; exact hm
   ·rw [ek]; exact hm
theorem run_q267 (K:KK) (hK:K (.one (dB true)) []):GD Γ_q267 fn_q267 0 K [.one (dI units),.one (.dat (.list .happening) l)] []:=by
 have hG:=facGoes_n units
 obtain ⟨w1,w4⟩:=four_w units
 obtain ⟨n,hn⟩:∃ n,Int.toNat (w64 ((1:Int)+units % 4))=n:=⟨_,rfl⟩
 rw [hn] at hG
 unfold facGoes at hG
 simp only [Bool.and_eq_true,decide_eq_true_eq,List.all_eq_true] at hG
 obtain ⟨a1,a2,a3,a4,a5,a6,a7⟩:=hG
 unfold facTakes at a1
 simp only [Bool.and_eq_true,decide_eq_true_eq,List.all_eq_true] at a1
 obtain ⟨f1,f2,f3,f4,f5,f6,f7⟩:=a1
 obtain ⟨i1,i2,_⟩:=fac_VI (z34.1 f2) a2
 have lo:=lowF_ok a3
 have hI:TrustI (facN n 100).1.b (facN n 100).1.s (facN n 100).1:=⟨rfl,rfl,by unfold facRoot; rw [← f3,← f4,← f5],by have:(facN n 100).1.g.t.version=0:=of_decide_eq_true a7; omega⟩
 have a5':goodO (facN n 100).1.units.length (facN n 100).1.b (facN n 100).1.s (nth (facO n 100) 1 (Ty.dflt .offer))=true:=by rw [i2]; exact a5
 obtain ⟨L,hL⟩:∃ L,L=z5z (facO n 100) l:=⟨_,rfl⟩
 have hlen:L.length≤160:=by rw [hL]; unfold z5z; simp; omega
 obtain ⟨m,hm⟩:=zbb (facO n 100) (facN n 100).1 L hlen (fun z hz hk=>zk8 (by omega) (by rw [← hL]; exact hz) hk) true false K (fun acc h1 h2=>z7b (facR n 100).first n (facO n 100) (facN n 100).1 i1 lo f6 hI f7 a4 a5' a6 L acc true false h1 h2 K hK _ (by simp only [len]; omega)) L.length 0 [] (by omega) (Nat.le_refl _) (fun z hz=>by cases hz)
 refine ⟨m+1,?_⟩
 rw [z02,q267_vc _ _ _ _ _ rfl _ rfl _ rfl _ rfl,hn]
 rw [← hL]
 exact ⟨⟨by omega,by omega⟩,⟨w1,w4,f1⟩,by omega,hm⟩
theorem sound_q267:z03 Tryz.prog tab n_q267 c_q267:=z01 ok_q267 hg_q267 (by
 intro vs bs p v bs' h hp
 unfold c_q267 at h
 split at h
 ·cases h
  exact ⟨by kernel_rfl,rfl,.inl (run_q267 _ _ _ ⟨rfl,rfl⟩)⟩
 ·cases h)
end Go.Proofs.YtlbppjmekiemiacGreatDoor
