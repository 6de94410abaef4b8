/-
  That the functions of the seat answer what the terms of text W say; nothing is assumed.
-/
import Derived.Test.YtfljmgnghlpapaaGreatP0
namespace Go.Proofs.YtfljmgnghlpapaaGreat
open Go.RowKit
set_option linter.unusedVariables false
set_option maxRecDepth 100000
set_option maxHeartbeats 4000000
noncomputable section
def Ss:List (Bool×List Sh):=[g_0]
def Apf (r:(Bool×Unit)):List RV×List RV:=([rv g_1 r],[])
def A49:Ao:=Am Ss (fun d=>(Nt d.1).val) Apf
theorem A1n:Fn Tryz.prog 4 .plain A49:=mkF [(6,.plain,Au4),(20,.view,Ala),(21,.plain,A1b),(22,.plain,A1c),(23,.plain,Rm),(24,.plain,Up),(25,.plain,Hw),(27,.plain,Bal),(26,.plain,A1g),(28,.plain,Aqx),(29,.plain,Axy),(31,.plain,A1m),(30,.plain,Ot)] ⟨A0k,Azi,Baj,Bak,Z9,Aea,Ia,Be2,Bam,Axw,A7y,Bao,O9,trivial⟩ Tryz.func4 0
def Rg:Ao:=Am [g_0] (fun d=>(Kz d.1).val) fun r=>([rv Fs r.1,rv g_3 r.2],[])
theorem Agz:Fn Tryz.prog 32 .view Rg:=mkF [(39,.ret,Zm),(59,(.box [3] true false),Vd),(43,(.box [3] true true),Cc)] ⟨Ae0,Ab8,B7,trivial⟩ Tryz.func32 0
def Aq1:Ao:=Am [H1] (fun d=>(Ag0 d.1).val) fun r=>([rv H1 r],[])
theorem Axz:Fn Tryz.prog 87 .plain Aq1:=mkF [(45,.plain,Py),(46,.plain,Jc),(65,.plain,C5)] ⟨Sq,Kl,Cy,trivial⟩ Tryz.func87 0
def Acp:Ao:=Am [g_9,g_3,H1] (fun d=>(Acq d.1 d.2.1 d.2.2.1).val) fun r=>([rv g_9 r.1,rv g_1 r.2],[])
theorem Alz:Fn Tryz.prog 13 .plain Acp:=mkF [(44,.plain,Sm),(15,.plain,Z2),(46,.plain,Jc)] ⟨Wr,Agm,Kl,trivial⟩ Tryz.func13 0
def Al0:Ao:=Am [g_3,g_3,g_0] (fun d=>(Aaa d.1 d.2.1 d.2.2.1).val) fun r=>([rv Aez r],[])
theorem Atm:Fn Tryz.prog 88 .plain Al0:=mkF [(65,.plain,C5)] ⟨Cy,trivial⟩ Tryz.func88 0
def Aab:Ao:=Am [Fs,g_3] (fun d=>(K4 d.1 d.2.1).val) fun r=>([rv Fs r.1,rv Aa1 r.2.1,rv g_3 r.2.2],[])
theorem Aq2:Fn Tryz.prog 33 .plain Aab:=mkF [(60,.plain,Jd),(25,.plain,Hw),(87,.plain,Aq1),(13,.plain,Acp),(88,.plain,Al0)] ⟨K3,Ia,Axz,Alz,Atm,trivial⟩ Tryz.func33 0
def Atn:Ao:=Am [H1] (fun d=>(Ag1 d.1).val) fun r=>([rv Aez r],[])
theorem A5a:Fn Tryz.prog 89 .plain Atn:=mkF [] trivial Tryz.func89 0
def Aac:Ao:=Am [Fs,g_3] (fun d=>(P7 d.1 d.2.1).val) fun r=>([rv Fs r.1,rv Aa1 r.2.1,rv g_3 r.2.2],[])
theorem Aq3:Fn Tryz.prog 34 .plain Aac:=mkF [(66,.plain,Acg),(67,.plain,Pq),(56,.plain,Cb),(55,.plain,Ri),(89,.plain,Atn)] ⟨Alq,Uc,Bx,Tl,A5a,trivial⟩ Tryz.func34 0
def Tn:Ao:=Am [g_0] (fun d=>(Ls d.1).val) fun r=>([rv Fs r.1,rv g_3 r.2],[])
theorem Ajx:Fn Tryz.prog 35 .view Tn:=mkF [(39,.ret,Zm),(59,(.box [3] true false),Vd),(52,(.box [3] true true),Dr)] ⟨Ae0,Ab8,Dl,trivial⟩ Tryz.func35 0
def Al1:Ao:=Am [J1,g_3] (fun d=>(W8 d.1 d.2.1).val) fun r=>([rv J1 r],[])
theorem Az1:Fn Tryz.prog 111 .plain Al1:=mkF [(102,.plain,Pu),(100,.plain,Ve),(53,.plain,Bm)] ⟨Ui,Acb,Bh,trivial⟩ Tryz.func111 0
def To:Ao:=Am [Ht,g_3] (fun d=>(Iq d.1 d.2.1).val) fun r=>([rv Ht r],[])
def Ir:Fns:=[(103,.plain,Oi)]
theorem Tp:CfgOk Tryz.prog (C9 Ir):=E5 J2 Hu (show Il Tryz.prog Ir from⟨Rj,trivial⟩)
def P8:Sk:=⟨[(1,.v false [(.int .i64,.nil)]),(4,.box 4 0),(5,.box 5 0),(13,.v false [(.sl 169 h_4,(.own 4000000))]),(14,.v false [(.int .i64,.nil)]),(15,.v false [(.int .i64,.nil)])],[(4,[(.int .i64,.nil),(.int .i64,.nil),(.sl 169 h_4,(.own 4000001))]),(5,[(.int .i64,.nil),(.int .i64,.nil),(.sl 169 h_4,(.own 4000002))])],[4000000,4000001,4000002]⟩
def P9:List (Ex×Sk):=[((.exit 0),⟨[(4,.box 4 0),(5,.box 5 0)],[(4,[(.int .i64,.nil),(.int .i64,.nil),(.sl 169 h_4,(.own 4000000))]),(5,[(.int .i64,.nil),(.int .i64,.nil),(.sl 169 h_4,(.own 4000001))])],[4000000,4000001]⟩)]
def Lu:E0:=fun i st=>cond (Nat.beq i 3) (lam P8 4000000 P9 D9 st) <| .fail
theorem Aeb (cx:Cx) (hp:cx.pin.length≤0):De Tryz.prog cx Tryz.f162.ntmps Lu (Ax Tryz.f162 0):=Bcz Tp hp (Cv (by kernel_rfl:Be (Ax Tryz.f162 0)=[]) trivial) 13 15 4500000 (by kernel_rfl) (by kernel_rfl) (fun d=>(by kernel_rfl:Bc0 (C9 Ir) 0 Tryz.f162.ntmps Lu (Ax Tryz.f162 0) P8 4000000 P9 13 15 4500000 d=D9 d))
theorem Ajy:Fn Tryz.prog 162 .plain To:=K2 Tp Tryz.func162 (by kernel_rfl) (by kernel_rfl) (fun cx b hp hb=>Cv (by kernel_rfl:Be (Tryz.f162.body.getD .skip)=[Ax Tryz.f162 0]) ⟨Aeb cx hp,trivial⟩ b hb) (fun d=>(by kernel_rfl:F6 (C9 Ir) 0 Lu Tryz.f162 .plain (mkA [Ht,g_3] d)=(Iq d.1 d.2.1).run fun r=>some ([rv Ht r],[])))
def Al2:Ao:=Am [Ht,g_3] (fun d=>(W9 d.1 d.2.1).val) fun r=>([rv Ht r],[])
theorem Az2:Fn Tryz.prog 112 .plain Al2:=mkF [(101,.plain,Acc),(53,.plain,Bm),(103,.plain,Oi),(162,.plain,To)] ⟨Alh,Bh,Rj,Ajy,trivial⟩ Tryz.func112 0
def Al3:Ao:=Am [H1,g_3] (fun d=>(Xa d.1 d.2.1).val) fun r=>([rv H1 r],[])
theorem Az3:Fn Tryz.prog 54 .plain Al3:=mkF [(46,.plain,Jc),(45,.plain,Py),(53,.plain,Bm),(87,.plain,Aq1),(111,.plain,Al1),(112,.plain,Al2)] ⟨Kl,Sq,Bh,Axz,Az1,Az2,trivial⟩ Tryz.func54 0
def Apg:Ao:=Am [g_9,g_3] (fun d=>(Acr d.1 d.2.1).val) fun r=>([rv g_9 r],[])
theorem A1o:Fn Tryz.prog 11 .plain Apg:=Ca [(15,.plain,Z2),(53,.plain,Bm),(44,.plain,Sm),(54,.plain,Al3)] ⟨Agm,Bh,Wr,Az3,trivial⟩ ⟨[(1,.v false [(.int .i64,.nil)]),(4,.box 4 0),(5,.box 5 0),(22,.v false [(.sl 40 B5,.ro)]),(23,.v false [(.int .i64,.nil)]),(24,.v false [(.int .i64,.nil)])],[(4,[(.int .i64,.nil),(.sl 40 B5,(.own 6000000))]),(5,[(.int .i64,.nil),(.sl 40 B5,(.own 6000001))])],[6000000,6000001]⟩ 6000000 [((.exit 0),⟨[(4,.box 4 0),(5,.box 5 0)],[(4,[(.int .i64,.nil),(.sl 40 B5,(.own 6000000))]),(5,[(.int .i64,.nil),(.sl 40 B5,(.own 6000001))])],[6000000,6000001]⟩)] 5 Id Tryz.func11 0
def Aec:Ao:=Am [Fs,g_3] (fun d=>(Mw d.1 d.2.1).val) fun r=>([rv Fs r.1,rv Aa1 r.2],[])
theorem Ato:Fn Tryz.prog 36 .plain Aec:=Ca [(60,.plain,Jd),(25,.plain,Hw),(53,.plain,Bm),(11,.plain,Apg),(19,.plain,Agk),(88,.plain,Al0)] ⟨K3,Ia,Bh,A1o,Ao4,Atm,trivial⟩ ⟨[(4,.box 4 0),(6,.box 6 0),(7,.v false [(.sl 106 h_7,(.own 8000000))]),(30,.v false [(.sl 40 B5,.ro)]),(31,.v false [(.int .i64,.nil)]),(32,.v false [(.int .i64,.nil)])],[(4,[(.sl 22 [.sl 5 [.int .u8]],(.own 8000001)),(.sl 5 [.int .u8],(.own 8000002)),(.sl 5 [.int .u8],(.own 8000003)),(.int .i64,.nil),(.int .i64,.nil),(.sl 40 B5,(.own 8000004)),(.sl 147 h_2,(.own 8000005))]),(6,[(.sl 22 [.sl 5 [.int .u8]],(.own 8000006)),(.sl 5 [.int .u8],(.own 8000007)),(.sl 5 [.int .u8],(.own 8000008)),(.int .i64,.nil),(.int .i64,.nil),(.sl 40 B5,(.own 8000009)),(.sl 147 h_2,(.own 8000010))])],[8000000,8000001,8000002,8000003,8000004,8000005,8000006,8000007,8000008,8000009,8000010]⟩ 8000000 [((.exit 0),⟨[(4,.box 4 0),(6,.box 6 0),(7,.v false [(.sl 106 h_7,(.own 8000000))])],[(4,[(.sl 22 [.sl 5 [.int .u8]],(.own 8000001)),(.sl 5 [.int .u8],(.own 8000002)),(.sl 5 [.int .u8],(.own 8000003)),(.int .i64,.nil),(.int .i64,.nil),(.sl 40 B5,(.own 8000004)),(.sl 147 h_2,(.own 8000005))]),(6,[(.sl 22 [.sl 5 [.int .u8]],(.own 8000006)),(.sl 5 [.int .u8],(.own 8000007)),(.sl 5 [.int .u8],(.own 8000008)),(.int .i64,.nil),(.int .i64,.nil),(.sl 40 B5,(.own 8000009)),(.sl 147 h_2,(.own 8000010))])],[8000000,8000001,8000002,8000003,8000004,8000005,8000006,8000007,8000008,8000009,8000010]⟩)] 7 F3 Tryz.func36 0
def Aph:Ao:=Am [g_0,g_3] (fun d=>(Acs d.1 d.2.1).val) fun r=>([rv g_1 r],[])
theorem A1p:Fn Tryz.prog 142 .plain Aph:=mkF [] trivial Tryz.func142 0
def Atp:Ao:=Am [Aez] (fun d=>(Ag2 d.1).val) fun r=>([rv g_1 r],[])
theorem A5b:Fn Tryz.prog 90 .plain Atp:=mkF [(53,.plain,Bm),(142,.plain,Aph),(80,.plain,J3)] ⟨Bh,A1p,Kt,trivial⟩ Tryz.func90 0
def Api:Ao:=Am [Aa1] (fun d=>(Acu d.1).val) fun r=>([rv g_1 r],[])
theorem A1q:Fn Tryz.prog 37 .plain Api:=Ca [(90,.plain,Atp)] ⟨A5b,trivial⟩ ⟨[(0,.v false [(.sl 106 h_7,.ro)]),(3,.v false [(.int .i64,.nil)])],[],[]⟩ 3000000 [(.ret,⟨[(2,.v false [(.bool,.nil)])],[],[]⟩),((.exit 0),⟨[],[],[]⟩)] 2 Ie Tryz.func37 0
def Ag3:Ao:=Am [g_3,g_0,g_3,g_3] (fun d=>(Atq d.1 d.2.1 d.2.2.1 d.2.2.2.1).val) fun r=>([rv g_0 r],[])
theorem Apj:Fn Tryz.prog 206 .plain Ag3:=mkF [(153,.plain,Pw),(98,.plain,Hc),(53,.plain,Bm),(132,.plain,Ll),(130,.plain,G4)] ⟨So,Hv,Bh,Lm,Hd,trivial⟩ Tryz.func206 0
def Apk:Ao:=Am [g_0,g_0,g_3] (fun d=>(Apl d.1 d.2.1 d.2.2.1).val) fun r=>([rv g_0 r],[])
theorem A1r:Fn Tryz.prog 244 .plain Apk:=mkF [(53,.plain,Bm),(130,.plain,G4),(132,.plain,Ll),(133,.plain,W0)] ⟨Bh,Hd,Lm,Z7,trivial⟩ Tryz.func244 0
def Atr:Ao:=Am [g_0,g_0,g_3] (fun d=>(Ats d.1 d.2.1 d.2.2.1).val) fun r=>([rv g_0 r],[])
theorem A5c:Fn Tryz.prog 238 .plain Atr:=Ca [(53,.plain,Bm),(244,.plain,Apk),(65,.plain,C5)] ⟨Bh,A1r,Cy,trivial⟩ ⟨[(0,.v false [(.sl 5 [.int .u8],.ro)]),(1,.v false [(.sl 5 [.int .u8],.ro)]),(2,.v false [(.int .i64,.nil)]),(7,.v false [(.sl 5 [.int .u8],(.own 6000000))]),(8,.v false [(.int .i64,.nil)])],[],[6000000]⟩ 6000000 [((.exit 0),⟨[(2,.v false [(.int .i64,.nil)]),(7,.v false [(.sl 5 [.int .u8],(.own 6000000))])],[],[6000000]⟩)] 5 Al4 Tryz.func238 0
def A6f:Ao:=Am [g_0,g_0,g_0] (fun d=>(A6g d.1 d.2.1 d.2.2.1).val) fun r=>([rv g_0 r],[])
theorem Bc1:Fn Tryz.prog 233 .plain A6f:=Ca [(238,.plain,Atr)] ⟨A5c,trivial⟩ ⟨[(2,.v false [(.sl 5 [.int .u8],.ro)]),(7,.v false [(.sl 5 [.int .u8],(.own 6000000))]),(28,.v false [(.sl 5 [.int .u8],(.own 6000001))]),(29,.v false [(.int .i64,.nil)]),(30,.v false [(.int .i64,.nil)])],[],[6000000,6000001]⟩ 6000000 [((.exit 0),⟨[(7,.v false [(.sl 5 [.int .u8],(.own 6000000))])],[],[6000000]⟩)] 5 Ax0 Tryz.func233 0
def Xb:Ao:=Am [g_3,Nh] (fun d=>(Al5 d.1 d.2.1).val) fun r=>([rv g_0 r],[])
theorem Ajp:Fn Tryz.prog 176 .plain Xb:=mkF [(153,.plain,Pw),(134,.plain,Vg),(81,.plain,Sr),(206,.plain,Ag3),(130,.plain,G4)] ⟨So,Acl,W6,Apj,Hd,trivial⟩ Tryz.func176 0
def A1s:Ao:=Am [g_0,g_3,g_0,g_3,g_3,g_3,g_0] (fun d=>(A1t d.1 d.2.1 d.2.2.1 d.2.2.2.1 d.2.2.2.2.1 d.2.2.2.2.2.1 d.2.2.2.2.2.2.1).val) fun r=>([rv Nh r.1,rv g_1 r.2],[])
theorem Bap:Fn Tryz.prog 205 .plain A1s:=mkF [(65,.plain,C5),(153,.plain,Pw),(134,.plain,Vg),(81,.plain,Sr),(206,.plain,Ag3),(233,.plain,A6f),(176,.plain,Xb),(79,.plain,Avw)] ⟨Cy,So,Acl,W6,Apj,Bc1,Ajp,A1i,trivial⟩ Tryz.func205 0
def Att:Ao:=Am [Kx,g_3,g_0,g_3,g_0] (fun d=>(Atu d.1 d.2.1 d.2.2.1 d.2.2.2.1 d.2.2.2.2.1).val) fun r=>([rv Kx r.1,rv Nh r.2.1,rv g_3 r.2.2],[])
theorem A5d:Fn Tryz.prog 174 .plain Att:=mkF [(156,.plain,Af5),(154,.plain,Agg),(205,.plain,A1s)] ⟨Ao0,Alf,Bap,trivial⟩ Tryz.func174 0
def Al6:Ao:=Am [J1,g_3,g_0] (fun d=>(Al7 d.1 d.2.1 d.2.2.1).val) fun r=>([rv J1 r.1,rv Nh r.2.1,rv g_3 r.2.2],[])
theorem Az4:Fn Tryz.prog 143 .plain Al6:=mkF [(102,.plain,Pu),(100,.plain,Ve),(174,.plain,Att)] ⟨Ui,Acb,A5d,trivial⟩ Tryz.func143 0
def A1u:Ao:=Am [g_0,g_0] (fun d=>(A1v d.1 d.2.1).val) fun r=>([rv Aez r],[])
theorem Baq:Fn Tryz.prog 175 .plain A1u:=mkF [(65,.plain,C5)] ⟨Cy,trivial⟩ Tryz.func175 0
def Atv:Ao:=Am [J1,Nh] (fun d=>(Atw d.1 d.2.1).val) fun r=>([rv Aez r],[])
theorem A5e:Fn Tryz.prog 144 .plain Atv:=mkF [(176,.plain,Xb),(175,.plain,A1u)] ⟨Ajp,Baq,trivial⟩ Tryz.func144 0
def Al8:Ao:=Am [H1,g_0] (fun d=>(Xc d.1 d.2.1).val) fun r=>([rv H1 r.1,rv Bgl r.2.1,rv Aa1 r.2.2.1,rv g_3 r.2.2.2],[])
theorem Az5:Fn Tryz.prog 91 .plain Al8:=mkF [(46,.plain,Jc),(45,.plain,Py),(143,.plain,Al6),(65,.plain,C5),(144,.plain,Atv)] ⟨Kl,Sq,Az4,Cy,A5e,trivial⟩ Tryz.func91 0
def Aed:Ao:=Am [Fs,g_3,g_3,g_0] (fun d=>(Ro d.1 d.2.1 d.2.2.1 d.2.2.2.1).val) fun r=>([rv Fs r.1,rv Bgl r.2.1,rv Aa1 r.2.2.1,rv g_3 r.2.2.2],[])
theorem Atx:Fn Tryz.prog 38 .plain Aed:=mkF [(60,.plain,Jd),(25,.plain,Hw),(53,.plain,Bm),(91,.plain,Al8),(13,.plain,Acp)] ⟨K3,Ia,Bh,Az5,Alz,trivial⟩ Tryz.func38 0
end
end Go.Proofs.YtfljmgnghlpapaaGreat
