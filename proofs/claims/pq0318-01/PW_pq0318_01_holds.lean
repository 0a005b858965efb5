import PyProof.Rows.All
import Wide.All
import OpenK.AllK
import Wide.FinOn
import KE.KRevSl
import Lean
import PySem.Challenge.RW_pq0318_01
set_option linter.all false
set_option Elab.async false
set_option maxRecDepth 100000
set_option maxHeartbeats 0
set_option genSizeOf false
set_option genSizeOfSpec false
set_option backward.match.sparseCases false
set_option bootstrap.genMatcherCode false
namespace Mine
theorem ae{n m k:Nat}:n<m->m<=k->n<k:=Nat.lt_of_lt_of_le
theorem ag{α:Type _}{a b:α}:some a=some b->a=b:=Option.some.inj
theorem ab(n:Nat):n<=n:=Nat.le_refl n
theorem af{n m k:Nat}:n<=m->m<=k->n<=k:=Nat.le_trans
theorem ai{α:Type _}{β:Type _}{as:List α}(f:α->β):(as.map f).length=as.length:=List.length_map f
theorem ao{p:Prop}[Decidable p]:decide p=true->p:=of_decide_eq_true
theorem aj{a b:Nat}:a<b->a≠b:=Nat.ne_of_lt
theorem ak{a b c:Int}:a<=b->b<=c->a<=c:=Int.le_trans
theorem aE(n:Nat):n<n.succ:=Nat.lt_succ_self n
theorem aI{n m:Nat}:n.succ<=m->n<=m:=Nat.le_of_succ_le
theorem aK{p:Prop}[Decidable p]:p->decide p=true:=decide_eq_true
theorem aY{a b:Nat}:a<b->a<b.succ:=Nat.lt_succ_of_lt
theorem aL{n m:Nat}:n<=m->n<=m.succ:=Nat.le_succ_of_le
theorem aM{n:Nat}:(List.range n).length=n:=List.length_range
theorem bA{n m:Nat}:n.beq m=true->n=m:=Nat.eq_of_beq_eq_true
theorem aT{a b c:Int}:a<b->b<=c->a<c:=Int.lt_of_lt_of_le
theorem bG{n m:Nat}:n.succ<=m.succ->n<=m:=Nat.le_of_succ_le_succ
theorem bN{α:Type _}{a:α}{l:List α}:a∈a::l:=List.mem_cons_self
theorem ba{a b:Int}:a<b->a<=b:=Int.le_of_lt
theorem bP{n m:Nat}:n.ble m=true->n<=m:=Nat.le_of_ble_eq_true
theorem bD{m n:Nat}:m<n.succ->m<=n:=Nat.le_of_lt_succ
theorem bB{p:Prop}[Decidable p]:¬p->decide p=false:=decide_eq_false
theorem bT{p:Prop}[Decidable p]:decide p=false->¬p:=of_decide_eq_false
theorem cG{a b:Int}:a<=b->∀c:Int,a+c<=b+c:=Int.add_le_add_right
theorem cH{α:Type _}(y:α){a:α}{l:List α}:a∈l->a∈y::l:=List.mem_cons_of_mem y
theorem bO{α:Type _}{β:Type _}{f:α->β}{l:List α}{i:Nat}:(l.map f)[i]?=l[i]?.map f:=List.getElem?_map
theorem cK{a b:Int}:0<=b->a<=a+b:=Int.le_add_of_nonneg_right
theorem bQ(a:Int):a<=a:=Int.le_refl a
end Mine
section
open PySem PySem.W PyProof.Rows
noncomputable abbrev Mine.lw:=PySem.Challenge.rw_pq0318_01
noncomputable abbrev Mine.pp:=(Fast.tw2368527892694137696 Mine.lw).prog
namespace Mine
theorem bt{a b:Bool}(x:a=true)(y:b=true):(a&&b)=true:=by rw[x,y];rfl
theorem PH:Fast.tw11788848310118352699 pp.main=true:=by kernel_rfl
theorem Qd:((Fast.tw9807087744658564304 pp.main.body).isEmpty||Fast.tw12862048085361865435 (Fast.tw9807087744658564304 pp.main.body) pp.main.body)=true:=by kernel_rfl
theorem Pr:Fast.tw8377067652309620493 pp=true:=by kernel_rfl
theorem Qp:R.allR (Fast.tw18344453789297297638 pp) (fun n=> !Fast.tw3471404346716756564 Fast.tw14412699480532031325 n)=true:=by kernel_rfl
theorem QA:Fast.tw17119622794617984870 pp pp.main.body (fun x n=>Fast.tw17868728402115742887 n)=true:=by kernel_rfl
theorem Ps:Fast.tw12908688711261696721 pp=true:=by
 delta Fast.tw12908688711261696721
 exact bt (bt (bt (bt (bt PH Qd) Pr) Qp) (by kernel_rfl)) QA
theorem QM:Fast.tw2436336058641802641 (Fast.tw2368527892694137696 lw)=true:=by
 delta Fast.tw2436336058641802641
 iterate 13 refine bt ?_ (by kernel_rfl)
 exact Ps
theorem QG:Fast.tw8179353310426384613 lw.prog lw.footing=true:=by kernel_rfl
theorem Qk:Fast.tw8326940854005059898 {strict:=true,foot:=some (Fast.tw797321630700447069 lw),writes:=lw.writes,may:=Fast.tw9572597257264208301 lw} lw.footing=true:=by kernel_rfl
theorem nD:Fast.tw9446332074065402090 lw=true:=by
 delta Fast.tw9446332074065402090
 iterate 12 refine bt ?_ (by kernel_rfl)
 exact bt (bt (bt (bt (bt (bt (bt (bt QM (by kernel_rfl)) (by kernel_rfl)) (by kernel_rfl)) (by kernel_rfl)) QG) (by kernel_rfl)) (by kernel_rfl)) Qk
end Mine
theorem Mine.ur(h:PySem.Challenge.rw_pq0318_01.row.wellSaid=true->PySem.Challenge.rw_pq0318_01.row.Holds):PySem.Challenge.rw_pq0318_01.Holds:=
 PySem.W.holds_law (by rw[show @PySem.W.OpenLaw.wellSaid=PySem.W.Fast.tw9446332074065402090 from PySem.W.Fast.te9446332074065402090];exact Mine.nD) h
namespace Mine.H
noncomputable abbrev P0:Program:=PySem.Challenge.pw_pq0318_01
noncomputable abbrev sR:=PySem.W.Fast.tw10110043849684766642
noncomputable abbrev tT:=PySem.W.Fast.tw14364793385576792824
noncomputable def Br:List Stmt->Nat->Stmt
 |[],_=> .Pass default
 |s::_,0=>s
 |_::r,n+1=>Br r n
noncomputable def st(i:Nat):Stmt:=Br (behindTheImports P0) i
noncomputable def sl(a n:Nat):List Stmt:=((behindTheImports P0).drop a).take n
noncomputable def me(i j:Nat):Stmt:=if h:(st i).ctorIdx=2 then Stmt.ClassDef.elim (motive_2:=fun _=>Stmt) (st i) h (fun _ _ _ b _ _ _ _ _ _ _=>Br b j) else st i
noncomputable def NP(s:Stmt)(q:PySem.Str)(gl:Addr)(dv kv doc pm code ct:Value)(bl:Addr):FuncData:=if h:s.ctorIdx=0 then Stmt.FunctionDef.elim (motive_2:=fun _=>FuncData) s h (fun n a b _ _ _ sc _ _ _=>{name:=n,qualname:=q,params:=a,body:= .stmts b,scope:=sc,globals:=gl,closure:=[],defaults:=dv,kwdefaults:=kv,doc:=doc,pyModule:=pm,annotations:=none,code:=code,closureTuple:=ct,builtins:=bl}) else default
noncomputable def en(P:Params)(k:PySem.Str)(t:Nat)(v:Value):DictEntry:=⟨PyData.keyHash P k, .str k t,v⟩
noncomputable def ov:List (Nat×Obj)->Nat->Nat->List Obj->List Obj
 |_,_,0,_=>[]
 |_,_,_,[]=>[]
 |[],i,n+1,x::xs=>x::ov [] (i+1) n xs
 |(j,o)::r,i,n+1,x::xs=>match Nat.beq j i with
  |true=>o::ov r (i+1) n xs
  |false=>x::ov ((j,o)::r) (i+1) n xs
noncomputable def alt:Bool->List Obj->List Obj
 |_,[]=>[]
 |true,x::xs=>x::alt false xs
 |false,_::xs=>alt true xs
noncomputable def bt:Nat->List Obj->BT
 |0,_=> .nil
 |_,[]=> .nil
 |f+1,x::xs=> .node x (bt f (alt true xs)) (bt f (alt false xs))
noncomputable def env:Env:={scope:=P0.main.scope,locals:=mainNs,globals:=mainNs,cells:=[],code:= .ref 13,frame:=some 14}
noncomputable def cB:Code:= .body (behindTheImports P0) env
noncomputable def xa:Nat->Nat->List Nat->PySem.Str
 |0,_,a=>⟨⟨a⟩⟩
 |k+1,n,a=>xa k (n / 256) (n % 256::a)
noncomputable def xz(k n:Nat):=xa k n []
noncomputable def z0:=xz 31 0x747970652e5f5f737562636c61737365735f5f2e457863657074696f6e2e30
noncomputable def z1:=xz 31 0x747970652e5f5f737562636c61737365735f5f2e457863657074696f6e2e6e
noncomputable def z2:=xz 8 0x5f5f6e616d655f5f
noncomputable def z3:=xz 13 0x6c61775f7071303331385f3031
noncomputable def z4:=xz 7 0x5f5f646f635f5f
noncomputable def z5:=xz 11 0x5f5f7061636b6167655f5f
noncomputable def z6:=xz 10 0x5f5f6c6f616465725f5f
noncomputable def z7:=xz 8 0x5f5f737065635f5f
noncomputable def z8:=xz 15 0x5f5f616e6e6f746174696f6e735f5f
noncomputable def Md:=xz 13 0x2f636c61696d2f6375742e7079
noncomputable def OD:=xz 5 0x5f77616c6c
noncomputable def I7:=xz 11 0x4f7665726c61794e6f6465
noncomputable def IN:=xz 11 0x4f7665726c617954726565
noncomputable def On:=xz 9 0x68616e645f646f776e
noncomputable def N7:=xz 12 0x68616e645f646f776e5f746f
noncomputable def ON:=xz 12 0x67726561746573745f656e64
noncomputable def Oo:=xz 12 0x72656e65775f6c696d697473
noncomputable def Ox:=xz 4 0x68616e67
noncomputable def Nb:=xz 9 0x7475726e5f6c656674
noncomputable def OJ:=xz 10 0x7475726e5f7269676874
noncomputable def JO:=xz 6 0x69735f726564
noncomputable def Nr:=xz 15 0x636f6c6f75725f696e736572746564
noncomputable def Nf:=xz 13 0x7475726e65645f696e77617264
noncomputable def N4:=xz 8 0x7075745f6e6f6465
noncomputable def N5:=xz 11 0x66697273745f62656c6f77
noncomputable def OQ:=xz 10 0x74616b655f706c616365
noncomputable def Oh:=xz 9 0x64726f705f6e6f6465
noncomputable def MV:=xz 14 0x636f6c6f75725f64726f70706564
noncomputable def Np:=xz 10 0x7369626c696e675f6f66
noncomputable def NO:=xz 12 0x7475726e5f746f7761726473
noncomputable def Ot:=xz 9 0x6c69676874656e6564
noncomputable def OM:=xz 13 0x6e6f6465735f6265747765656e
noncomputable def OC:=xz 14 0x626567696e735f746f5f6d6f7665
noncomputable def Nx:=xz 5 0x67726f7773
noncomputable def Nc:=xz 8 0x6f70656e5f676170
noncomputable def No:=xz 11 0x73686966745f6e6f646573
noncomputable def Pi:=xz 9 0x636c6f73655f676170
noncomputable def OU:=xz 2 0x6571
noncomputable def OZ:=xz 10 0x706c6973745f66696e64
noncomputable def Nd:=xz 9 0x706c6973745f676574
noncomputable def M8:=xz 10 0x706c6973745f77697468
noncomputable def Od:=xz 10 0x686f6c64735f70616972
noncomputable def IU:=xz 9 0x50726f7052756c6573
noncomputable def Oy:=xz 8 0x76616c75655f696e
noncomputable def Jf:=xz 7 0x4f7665726c6179
noncomputable def Jc:=xz 11 0x4f7665726c6179486f6d65
noncomputable def OL:=xz 13 0x6f7665726c61795f626567696e
noncomputable def NU:=xz 11 0x6f7665726c61795f656e64
noncomputable def Os:=xz 8 0x74616b655f6f7574
noncomputable def N1:=xz 3 0x6c6179
noncomputable def OY:=xz 12 0x6d6164655f6f7665726c6179
noncomputable def OV:=xz 11 0x6f7665726c61795f676574
noncomputable def Om:=xz 11 0x69735f666c656574696e67
noncomputable def Nl:=xz 11 0x6f7665726c61795f707574
noncomputable def Oj:=xz 8 0x6f665f6e6f646573
noncomputable def NT:=xz 11 0x6f7665726c6179735f6174
noncomputable def Pe:=xz 9 0x746578745f77656e74
noncomputable def IX:=xz 7 0x47617054657874
noncomputable def IZ:=xz 7 0x4d61726b657273
noncomputable def Fg:=xz 6 0x4f7061717565
noncomputable def BX:=xz 6 0x427566666572
noncomputable def Bq:=xz 10 0x4c6973705369676e616c
noncomputable def MX:=xz 13 0x6e6565645f7772697461626c65
noncomputable def NJ:=xz 9 0x6e6565645f726f6f6d
noncomputable def Nu:=xz 7 0x72656163686564
noncomputable def Ou:=xz 10 0x74656c6c5f6168656164
noncomputable def NL:=xz 11 0x74656c6c5f626568696e64
noncomputable def MY:=xz 8 0x746578745f6f7574
noncomputable def NI:=xz 7 0x746578745f696e
noncomputable def Pa:=xz 8 0x68756e675f6f7574
noncomputable def NG:=xz 7 0x68756e675f696e
noncomputable def MZ:=xz 6 0x7075745f696e
noncomputable def FK:=xz 9 0x696e736572745f6174
noncomputable def zN:=xz 6 0x696e73657274
noncomputable def FY:=xz 6 0x64656c657465
noncomputable def GU:=xz 7 0x7265706c616365
noncomputable def I4:=xz 9 0x506c61696e4c697370
noncomputable def OR:=xz 9 0x5f6c61775f64726177
noncomputable def MW:=xz 9 0x5f6c61775f65646974
noncomputable def NQ:=xz 11 0x5f6c61775f627566666572
noncomputable def OH:=xz 9 0x5f6c61775f646f6e65
noncomputable def N0:=xz 11 0x5f6c61775f626568696e64
noncomputable def OP:=xz 10 0x5f6c61775f69735f736f
noncomputable def M0:=xz 3 0x6c6177
noncomputable def QC:=xz 8 0x3c6d6f64756c653e
noncomputable def N6:=xz 8 0x5f5f6d61696e5f5f
noncomputable def jK:=xz 10 0x5f5f6d6f64756c655f5f
noncomputable def pV:=xz 17 0x656d6163732e6f7665726c617974726565
noncomputable def sn:=xz 12 0x5f5f7175616c6e616d655f5f
noncomputable def jM:=xz 15 0x5f5f66697273746c696e656e6f5f5f
noncomputable def fX:=xz 8 0x5f5f696e69745f5f
noncomputable def jL:=xz 21 0x5f5f7374617469635f617474726962757465735f5f
noncomputable def cJ:=xz 4 0x73656c66
noncomputable def iY:=xz 6 0x6e756d626572
noncomputable def k9:=xz 5 0x626567696e
noncomputable def cQ:=xz 3 0x656e64
noncomputable def wf:=xz 13 0x66726f6e745f616476616e6365
noncomputable def xZ:=xz 12 0x726561725f616476616e6365
noncomputable def Fe:=xz 20 0x4f7665726c61794e6f64652e5f5f696e69745f5f
noncomputable def Ff:=xz 5 0x6c696d6974
noncomputable def kO:=xz 6 0x706172656e74
noncomputable def jR:=xz 8 0x5f5f646963745f5f
noncomputable def iy:=xz 11 0x5f5f7765616b7265665f5f
noncomputable def GZ:=xz 20 0x4f7665726c6179547265652e5f5f696e69745f5f
noncomputable def dw:=xz 4 0x6e6f6465
noncomputable def rF:=xz 3 0x736f6e
noncomputable def A5:=xz 4 0x68657265
noncomputable def sY:=xz 5 0x666f756e64
noncomputable def fN:=xz 4 0x74726565
noncomputable def vK:=xz 5 0x6f74686572
noncomputable def oF:=xz 7 0x69735f6c656674
noncomputable def uP:=xz 4 0x676f6e65
noncomputable def CV:=xz 7 0x77616974696e67
noncomputable def fr:=xz 2 0x6174
noncomputable def kQ:=xz 14 0x6265666f72655f6d61726b657273
noncomputable def AG:=xz 17 0x656d6163732e6f7665726c617967617073
noncomputable def mN:=xz 4 0x6d616e79
noncomputable def Fv:=xz 12 0x656d6163732e706c69737473
noncomputable def qp:=xz 5 0x706c697374
noncomputable def mt:=xz 5 0x76616c7565
noncomputable def oG:=xz 15 0x656d6163732e70726f7072756c6573
noncomputable def Bl:=xz 6 0x69735f6e696c
noncomputable def EM:=xz 4 0x6c697370
noncomputable def GN:=xz 18 0x50726f7052756c65732e5f5f696e69745f5f
noncomputable def EJ:=xz 16 0x50726f7052756c65732e69735f6e696c
noncomputable def Dt:=xz 8 0x63617465676f7279
noncomputable def Iq:=xz 9 0x657661706f72617465
noncomputable def GI:=xz 3 0x6e696c
noncomputable def Fh:=xz 8 0x7072696f72697479
noncomputable def IJ:=xz 4 0x74727565
noncomputable def rE:=xz 5 0x72756c6573
noncomputable def d4:=xz 14 0x656d6163732e6f7665726c617973
noncomputable def Fd:=xz 16 0x4f7665726c61792e5f5f696e69745f5f
noncomputable def yL:=xz 4 0x686f6d65
noncomputable def rQ:=xz 8 0x696e736572746564
noncomputable def qC:=xz 7 0x64656c65746564
noncomputable def CY:=xz 9 0x746578745f63616d65
noncomputable def BS:=xz 9 0x746578745f676f6e65
noncomputable def EZ:=xz 20 0x4f7665726c6179486f6d652e5f5f696e69745f5f
noncomputable def JI:=xz 20 0x4f7665726c6179486f6d652e696e736572746564
noncomputable def Kd:=xz 19 0x4f7665726c6179486f6d652e64656c65746564
noncomputable def Fs:=xz 21 0x4f7665726c6179486f6d652e746578745f63616d65
noncomputable def Gs:=xz 21 0x4f7665726c6179486f6d652e746578745f676f6e65
noncomputable def Fb:=xz 8 0x6f7665726c617973
noncomputable def mZ:=xz 7 0x6f7665726c6179
noncomputable def gL:=xz 9 0x656d6163732e676170
noncomputable def qQ:=xz 4 0x73697a65
noncomputable def xW:=xz 4 0x636f6465
noncomputable def gM:=xz 5 0x636f646573
noncomputable def Cu:=xz 8 0x6d6f76655f676170
noncomputable def CA:=xz 9 0x776964656e5f676170
noncomputable def qK:=xz 3 0x707574
noncomputable def Cc:=xz 10 0x6e6172726f775f676170
noncomputable def CX:=xz 8 0x69735f77686f6c65
noncomputable def Bp:=xz 4 0x726f6f6d
noncomputable def EI:=xz 16 0x476170546578742e5f5f696e69745f5f
noncomputable def EH:=xz 12 0x476170546578742e73697a65
noncomputable def KK:=xz 12 0x476170546578742e636f6465
noncomputable def fT:=xz 5 0x7374617274
noncomputable def Hz:=xz 13 0x476170546578742e636f646573
noncomputable def H9:=xz 16 0x476170546578742e6d6f76655f676170
noncomputable def FM:=xz 17 0x476170546578742e776964656e5f676170
noncomputable def Gr:=xz 14 0x476170546578742e696e73657274
noncomputable def Hw:=xz 14 0x476170546578742e64656c657465
noncomputable def LR:=xz 11 0x476170546578742e707574
noncomputable def Lg:=xz 18 0x476170546578742e6e6172726f775f676170
noncomputable def LU:=xz 16 0x476170546578742e69735f77686f6c65
noncomputable def jA:=xz 13 0x656d6163732e6d61726b657273
noncomputable def Dn:=xz 7 0x6e756d62657273
noncomputable def BA:=xz 4 0x64726f70
noncomputable def Dy:=xz 6 0x77697468696e
noncomputable def Ca:=xz 8 0x7265706c61636564
noncomputable def GG:=xz 16 0x4d61726b6572732e5f5f696e69745f5f
noncomputable def Ht:=xz 15 0x4d61726b6572732e6e756d62657273
noncomputable def tW:=xz 6 0x6d61726b6572
noncomputable def L8:=xz 11 0x4d61726b6572732e707574
noncomputable def Kv:=xz 12 0x4d61726b6572732e64726f70
noncomputable def JS:=xz 14 0x4d61726b6572732e77697468696e
noncomputable def Fj:=xz 16 0x4d61726b6572732e696e736572746564
noncomputable def E5:=xz 15 0x4d61726b6572732e64656c65746564
noncomputable def ID:=xz 16 0x4d61726b6572732e7265706c61636564
noncomputable def Ir:=xz 4 0x726f7773
noncomputable def yA:=xz 13 0x656d6163732e6f626a65637473
noncomputable def qR:=xz 5 0x73686f776e
noncomputable def qE:=xz 4 0x6b696e64
noncomputable def Cw:=xz 7 0x73616d655f6173
noncomputable def Lh:=xz 12 0x4f70617175652e73686f776e
noncomputable def Ms:=xz 11 0x4f70617175652e6b696e64
noncomputable def Jx:=xz 14 0x4f70617175652e73616d655f6173
noncomputable def kP:=xz 12 0x656d6163732e627566666572
noncomputable def Bv:=xz 7 0x636f64655f6174
noncomputable def DJ:=xz 4 0x676f746f
noncomputable def CG:=xz 4 0x7469636b
noncomputable def Ba:=xz 11 0x69735f6d6f646966696564
noncomputable def A7:=xz 12 0x7365745f6d6f646966696564
noncomputable def Ef:=xz 5 0x746f756368
noncomputable def Db:=xz 4 0x6e616d65
noncomputable def BQ:=xz 15 0x4275666665722e5f5f696e69745f5f
noncomputable def LE:=xz 12 0x4275666665722e73686f776e
noncomputable def Jw:=xz 11 0x4275666665722e6b696e64
noncomputable def L4:=xz 12 0x4275666665722e626567696e
noncomputable def JB:=xz 10 0x4275666665722e656e64
noncomputable def E9:=xz 11 0x4275666665722e73697a65
noncomputable def qk:=xz 5 0x706c616365
noncomputable def Kt:=xz 14 0x4275666665722e636f64655f6174
noncomputable def LG:=xz 12 0x4275666665722e636f646573
noncomputable def K1:=xz 11 0x4275666665722e676f746f
noncomputable def MG:=xz 11 0x4275666665722e7469636b
noncomputable def Ko:=xz 18 0x4275666665722e69735f6d6f646966696564
noncomputable def Ju:=xz 19 0x4275666665722e7365745f6d6f646966696564
noncomputable def IA:=xz 12 0x4275666665722e746f756368
noncomputable def EL:=xz 5 0x706f696e74
noncomputable def wl:=xz 12 0x656d6163732e6572726f7273
noncomputable def sK:=xz 6 0x73796d626f6c
noncomputable def Hq:=xz 4 0x64617461
noncomputable def KJ:=xz 19 0x4c6973705369676e616c2e5f5f696e69745f5f
noncomputable def fZ:=xz 6 0x627566666572
noncomputable def rp:=xz 13 0x656d6163732e65646974696e67
noncomputable def yH:=xz 3 0x6c6f77
noncomputable def yy:=xz 4 0x68696768
noncomputable def Hc:=xz 8 0x6c697374656e6572
noncomputable def lY:=xz 15 0x656d6163732e706c61696e6c697370
noncomputable def By:=xz 9 0x6e756d6265725f6f66
noncomputable def Co:=xz 7 0x6c6973745f6f66
noncomputable def Ce:=xz 5 0x6974656d73
noncomputable def CW:=xz 4 0x70616972
noncomputable def DX:=xz 15 0x73796d626f6c5f70726f7065727479
noncomputable def FZ:=xz 5 0x6669727374
noncomputable def Hk:=xz 18 0x506c61696e4c6973702e5f5f696e69745f5f
noncomputable def FW:=xz 16 0x506c61696e4c6973702e6e756d626572
noncomputable def MT:=xz 16 0x506c61696e4c6973702e73796d626f6c
noncomputable def LO:=xz 19 0x506c61696e4c6973702e6e756d6265725f6f66
noncomputable def MQ:=xz 17 0x506c61696e4c6973702e6c6973745f6f66
noncomputable def MC:=xz 15 0x506c61696e4c6973702e6974656d73
noncomputable def Ki:=xz 14 0x506c61696e4c6973702e70616972
noncomputable def Lf:=xz 25 0x506c61696e4c6973702e73796d626f6c5f70726f7065727479
noncomputable def GB:=xz 10 0x6f776e5f627566666572
noncomputable def kc(a b:PySem.Str)(t:Nat)(ln i j:Int)(r:Nat)(c:Bool)(q:Nat)(x y z w:Value)(k:Int)(u:Nat):Obj:=⟨(.type PySem.W.SL.s5856160107412720595x4),none,(.fields ⟨[.str a t, .str b (t+1), .str Md (t+2), .int ln 0, .int i 0, .int 0 0, .int 0 0, .int j 0, .ref r, .bool c, .int 181 0, .ref q,x,y,z,w, .int k 0, .int ln 0, .str Md u]⟩),⟨[]⟩⟩
noncomputable def k0(s:Stmt)(q:PySem.Str):Obj:=⟨.none,none,(.func (NP s q 0 .none .none .none .none .none .none 0)),⟨[]⟩⟩
noncomputable def k1(s:Stmt)(q:PySem.Str)(d:Value)(m:PySem.Str)(t r:Nat):Obj:=⟨(.type PySem.W.SL.s7174869446012820540x8),none,(.func (NP s q 3 d .none .none (.str m t) (.ref r) .none 0)),⟨[]⟩⟩
noncomputable def kq(l:List Value):Obj:=⟨(.type PySem.W.SL.s2766695959194262286x5),none,(.seq ⟨l⟩ 0),⟨[]⟩⟩
noncomputable def ss:Nat->List PySem.Str->List Value
 |_,[]=>[]
 |t,x::xs=> .str x t::ss (t+1) xs
noncomputable def ks(t:Nat)(l:List PySem.Str):Obj:=kq (ss t l)
noncomputable def tr(a:Int)(b:Nat)(l:List Value):List Value:= .int a 0:: .int 0 0:: .ref b::l
noncomputable def xd(l:List DictEntry)(n:Nat):Obj:=⟨.type PySem.W.SL.s14018661285674007319x4,none, .dict ⟨l⟩ n,⟨[]⟩⟩
noncomputable def xo(t:String)(l:List Value):Obj:=⟨.type t,none, .fields ⟨l⟩,⟨[]⟩⟩
noncomputable def xf(l:List Value):Obj:=⟨.none,none, .fields ⟨l⟩,⟨[]⟩⟩
noncomputable def xt:List (Int×Nat)->List Value
 |[]=>[]
 |(a,b)::r=> .int a 0:: .int 4 0:: .ref b::xt r
noncomputable def xp(a b:Nat)(s:PySem.Str)(m:Nat):Obj:=⟨.type PySem.W.SL.s658472552662922059x5,none, .plain,⟨[some (.ref a),some (.ref 3),some (.ref b),none,some (.str s m),none,some (.ref 0)]⟩⟩
noncomputable def xb(z:PySem.Str)(b:Nat)(ln:Int)(i:Nat):Obj:=kc z z b ln 0 0 i false (i+1) .none .none .none .none ((b+3:Nat):Int) (b+4)
noncomputable def xl(z:PySem.Str)(i d:Nat)(l:List Value)(a b:Nat):Obj:=⟨.type PySem.W.SL.s17162191345867700912x4,none, .cls ⟨z,[.type PySem.W.SL.s2742458400755230247x6],[.ref i, .type PySem.W.SL.s2742458400755230247x6],d,z,true,[],l,false,none,false⟩,⟨[none,none,some (.str z a),some (.str z b),some (.builtin PySem.W.SL.s11443829558043349243x14),some (.bool true)]⟩⟩
noncomputable def xc(t i:Nat)(r:List Obj):List Obj:=xo PySem.W.SL.s14755015743595814543x17 [.str jR t, .ref i, .builtin PySem.W.SL.s6511155373996960695x17, .builtin PySem.W.SL.s12411053484034534018x21]::xo PySem.W.SL.s14755015743595814543x17 [.str iy (t+2), .ref i, .builtin PySem.W.SL.s10220274742760427390x26, .none]::xo PySem.W.SL.s4290257624100764138x5 [.ref i, .ref i, .ref i]::xo PySem.W.SL.s11030030927630378310x26 [.builtin PySem.W.SL.s4860613602091757760x24, .ref i]::r
noncomputable def xg(z:PySem.Str)(ln c:Nat)(l:List PySem.Str):PySem.Str×PySem.Str×Nat×Nat×List PySem.Str:=(z,z,ln,c,l)
noncomputable def xr(g:Nat->Stmt)(m:PySem.Str)(ms:Nat):Nat->Nat->Nat->List (PySem.Str×PySem.Str×Nat×Nat×List PySem.Str)->List Obj->List Obj
 |_,_,_,[],r=>r
 |i,b,j,(z,q,ln,c,l)::t,r=>kq []::xf []::ks (b+3) l::kq []::k0 (g j) q::kc z q b ln c 3 i true (i+1) .none (.ref (i+2)) (.ref (i+3)) (.ref (i+4)) ((b+3+l.length:Nat):Int) (b+4+l.length)::k1 (g j) q .none m ms (i+5)::xr g m ms (i+7) (b+6+l.length) (j+1) t r
noncomputable def xq(i b:Nat)(s:Stmt)(z:PySem.Str)(ln c:Int)(m:PySem.Str)(ms:Nat)(r:List Obj):List Obj:=kq []::xf []::k0 s z::kc z z b ln c 3 i true (i+1) .none .none .none (.ref (i+2)) ((b+3:Nat):Int) (b+4)::k1 s z .none m ms (i+3)::r
noncomputable def o1(P:Params):Obj:=boot_o_1 P
noncomputable def o2(P:Params):Obj:=⟨.none,none,(.dict ⟨[en P z0 1238 (.int 759 0),en P z1 1239 (.int 1 0)]⟩ 2),⟨[]⟩⟩
noncomputable def l3(P:Params):List DictEntry:=[en P z2 165 (.str z3 1489),en P z4 166 .none,en P z5 167 .none,en P z6 168 (.builtin PySem.W.SL.s7097527257260152453x26),en P z7 169 .none,en P z8 170 (.ref 6),en P (xz 12 0x5f5f6275696c74696e735f5f) 171 (.ref 4),en P (xz 8 0x5f5f66696c655f5f) 173 (.str Md 172),en P (xz 10 0x5f5f6361636865645f5f) 174 .none,en P OD 193 (.ref 21),en P I7 238 (.ref 38),en P IN 267 (.ref 59),en P On 275 (.ref 70),en P N7 284 (.ref 77),en P ON 293 (.ref 84),en P Oo 301 (.ref 91),en P Ox 311 (.ref 98),en P Nb 320 (.ref 105),en P OJ 329 (.ref 112),en P JO 336 (.ref 119),en P Nr 348 (.ref 126),en P Nf 358 (.ref 133),en P N4 369 (.ref 140),en P N5 376 (.ref 147),en P OQ 386 (.ref 154),en P Oh 399 (.ref 161),en P MV 409 (.ref 168),en P Np 417 (.ref 175),en P NO 426 (.ref 182),en P Ot 439 (.ref 189),en P OM 451 (.ref 196),en P OC 462 (.ref 203),en P Nx 471 (.ref 210),en P Nc 477 (.ref 215),en P No 489 (.ref 222),en P Pi 500 (.ref 229),en P OU 510 (.ref 236),en P OZ 519 (.ref 243),en P Nd 528 (.ref 250),en P M8 538 (.ref 257),en P Od 548 (.ref 264),en P IU 595 (.ref 288),en P Oy 606 (.ref 299),en P Jf 642 (.ref 316),en P Jc 711 (.ref 365),en P OL 718 (.ref 376),en P NU 725 (.ref 383),en P Os 732 (.ref 390),en P N1 742 (.ref 397),en P OY 755 (.ref 404),en P OV 764 (.ref 411),en P Om 772 (.ref 418),en P Nl 783 (.ref 425),en P Oj 789 (.ref 430),en P NT 795 (.ref 435),en P Pe 805 (.ref 442),en P IX 925 (.ref 529),en P IZ 1025 (.ref 599),en P Fg 1069 (.ref 634),en P BX 1208 (.ref 740),en P Bq 1241 (.ref 759),en P (xz 7 0x4c4f4e47455354) 1247 (.int 4194304 1246),en P MX 1254 (.ref 769),en P NJ 1262 (.ref 776),en P Nu 1273 (.ref 783),en P Ou 1283 (.ref 790),en P NL 1294 (.ref 797),en P MY 1304 (.ref 804),en P NI 1313 (.ref 811),en P Pa 1322 (.ref 818),en P NG 1332 (.ref 825),en P MZ 1343 (.ref 832),en P FK 1353 (.ref 840),en P zN 1362 (.ref 848),en P FY 1374 (.ref 855),en P GU 1389 (.ref 863),en P (xz 5 0x4e414d4553) 1397 (.ref 864),en P I4 1488 (.ref 930),en P OR 1498 (.ref 941),en P MW 1504 (.ref 946),en P NQ 1520 (.ref 953),en P OH 1533 (.ref 960),en P N0 1539 (.ref 965),en P OP 1545 (.ref 970),en P M0 1551 (.ref 975)]
noncomputable def o3(P:Params):Obj:=xd (l3 P) 85
noncomputable def fW(P:Params):Obj:=kq []
noncomputable def l9:List Value:=tr 1 20<|tr 5 27<|tr 19 48<|tr 24 69<|tr 34 76<|tr 41 83<|tr 47 90<|tr 54 97<|tr 63 104<|tr 75 111<|tr 87 118<|tr 89 125<|tr 109 132<|tr 118 139<|tr 145 146<|tr 151 153<|tr 160 160<|tr 182 167<|tr 191 174<|tr 193 181<|tr 198 188<|tr 224 195<|tr 243 202<|tr 249 209<|tr 251 214<|tr 263 221<|tr 280 228<|tr 300 235<|tr 304 242<|tr 309 249<|tr 312 256<|tr 317 263<|tr 321 270<|tr 336 298<|tr 344 305<|tr 351 326<|tr 369 375<|tr 372 382<|tr 375 389<|tr 380 396<|tr 387 403<|tr 391 410<|tr 393 417<|tr 395 424<|tr 403 429<|tr 405 434<|tr 407 441<|tr 415 448<|tr 479 539<|tr 522 609<|tr 533 644<|tr 595 748<|tr 602 768<|tr 605 775<|tr 608 782<|tr 613 789<|tr 616 796<|tr 620 803<|tr 628 810<|tr 635 817<|tr 640 824<|tr 645 831<|tr 658 839<|tr 660 847<|tr 662 854<|tr 673 862<|tr 697 870<|tr 729 940<|tr 734 945<|tr 739 952<|tr 750 959<|tr 758 964<|tr 775 969<|tr 787 974<|[]
noncomputable def Ja(P:Params):Obj:=xf []
noncomputable def vj(P:Params):Obj:=xo PySem.W.SL.s11030030927630378310x26 [.builtin PySem.W.SL.s10062305145149207511x16, .type PySem.W.SL.s17162191345867700912x4]
noncomputable def Qc(P:Params):Obj:=k1 (me 2 0) Fe .none pV 194 34
noncomputable def Nz(P:Params):Obj:=xd [en P jK 203 (.str pV 194),en P jM 207 (.int 5 206),en P fX 219 (.ref 35),en P jL 231 (.ref 36),en P jR 233 (.ref 39),en P iy 235 (.ref 40),en P z4 236 .none] 4
noncomputable def Ov(P:Params):Obj:=xl I7 38 37 [] 196 204
noncomputable def PI(P:Params):Obj:=k1 (me 3 0) GZ .none pV 194 55
noncomputable def NN(P:Params):Obj:=xd [en P jK 246 (.str pV 194),en P jM 250 (.int 19 249),en P fX 257 (.ref 56),en P jL 260 (.ref 57),en P jR 262 (.ref 60),en P iy 264 (.ref 61),en P z4 265 .none] 4
noncomputable def Nn(P:Params):Obj:=xl IN 59 58 [] 239 247
noncomputable def LM(P:Params):Obj:=k1 (me 36 0) GN .none oG 549 277
noncomputable def Jm(P:Params):Obj:=k1 (me 36 1) EJ .none oG 549 284
noncomputable def FN(P:Params):Obj:=xd [en P jK 558 (.str oG 549),en P jM 562 (.int 321 561),en P fX 570 (.ref 278),en P Bl 578 (.ref 285),en P jL 588 (.ref 286),en P jR 590 (.ref 289),en P iy 592 (.ref 290),en P z4 593 .none] 4
noncomputable def HS(P:Params):Obj:=xl IU 288 287 [] 551 559
noncomputable def K2(P:Params):Obj:=k1 (me 39 0) Fd .none d4 607 312
noncomputable def GM(P:Params):Obj:=xd [en P jK 616 (.str d4 607),en P jM 620 (.int 344 619),en P fX 630 (.ref 313),en P jL 635 (.ref 314),en P jR 637 (.ref 317),en P iy 639 (.ref 318),en P z4 640 .none] 4
noncomputable def Iu(P:Params):Obj:=xl Jf 316 315 [] 609 617
noncomputable def LK(P:Params):Obj:=k1 (me 40 0) EZ .none d4 607 333
noncomputable def Mf(P:Params):Obj:=k1 (me 40 3) Fs .none d4 607 354
noncomputable def Kf(P:Params):Obj:=k1 (me 40 4) Gs .none d4 607 361
noncomputable def Hj(P:Params):Obj:=xd [en P jK 650 (.str d4 607),en P jM 654 (.int 351 653),en P fX 662 (.ref 334),en P rQ 672 (.ref 341),en P qC 681 (.ref 348),en P CY 691 (.ref 355),en P BS 700 (.ref 362),en P jL 704 (.ref 363),en P jR 706 (.ref 366),en P iy 708 (.ref 367),en P z4 709 .none] 4
noncomputable def Gx(P:Params):Obj:=xl Jc 365 364 [] 643 651
noncomputable def KR(P:Params):Obj:=k1 (me 53 0) EI .none gL 806 455
noncomputable def Kb(P:Params):Obj:=k1 (me 53 1) EH .none gL 806 462
noncomputable def Mg(P:Params):Obj:=k1 (me 53 3) Hz .none gL 806 476
noncomputable def LC(P:Params):Obj:=k1 (me 53 4) H9 .none gL 806 483
noncomputable def MA(P:Params):Obj:=k1 (me 53 5) FM .none gL 806 490
noncomputable def KZ(P:Params):Obj:=k1 (me 53 6) Gr .none gL 806 497
noncomputable def L6(P:Params):Obj:=k1 (me 53 7) Hw .none gL 806 504
noncomputable def GJ(P:Params):Obj:=xd [en P jK 815 (.str gL 806),en P jM 819 (.int 415 818),en P fX 828 (.ref 456),en P qQ 835 (.ref 463),en P xW 843 (.ref 470),en P gM 853 (.ref 477),en P Cu 862 (.ref 484),en P CA 871 (.ref 491),en P zN 880 (.ref 498),en P FY 890 (.ref 505),en P qK 899 (.ref 512),en P Cc 906 (.ref 519),en P CX 913 (.ref 526),en P jL 918 (.ref 527),en P jR 920 (.ref 530),en P iy 922 (.ref 531),en P z4 923 .none] 4
noncomputable def EQ(P:Params):Obj:=xl IX 529 528 [] 808 816
noncomputable def JG(P:Params):Obj:=k1 (me 55 0) GG .none jA 926 546
noncomputable def LJ(P:Params):Obj:=k1 (me 55 1) Ht .none jA 926 553
noncomputable def Ml(P:Params):Obj:=k1 (me 55 5) Fj .none jA 926 581
noncomputable def MD(P:Params):Obj:=k1 (me 55 6) E5 .none jA 926 588
noncomputable def KH(P:Params):Obj:=k1 (me 55 7) ID .none jA 926 595
noncomputable def HM(P:Params):Obj:=xd [en P jK 935 (.str jA 926),en P jM 939 (.int 479 938),en P fX 946 (.ref 547),en P Dn 953 (.ref 554),en P qK 962 (.ref 561),en P BA 970 (.ref 568),en P Dy 981 (.ref 575),en P rQ 993 (.ref 582),en P qC 1004 (.ref 589),en P Ca 1016 (.ref 596),en P jL 1018 (.ref 597),en P jR 1020 (.ref 600),en P iy 1022 (.ref 601),en P z4 1023 .none] 4
noncomputable def Hu(P:Params):Obj:=xl IZ 599 598 [] 928 936
noncomputable def Fa(P:Params):Obj:=xd [en P jK 1035 (.str yA 1026),en P jM 1039 (.int 522 1038),en P qR 1046 (.ref 617),en P qE 1053 (.ref 624),en P Cw 1061 (.ref 631),en P jL 1062 (.ref 632),en P jR 1064 (.ref 635),en P iy 1066 (.ref 636),en P z4 1067 .none] 4
noncomputable def IH(P:Params):Obj:=xl Fg 634 633 [.ref 740] 1028 1036
noncomputable def HT(P:Params):Obj:=kq [.int 8 1084]
noncomputable def FX(P:Params):Obj:=k1 (me 59 0) BQ (.ref 646) kP 1070 652
noncomputable def Mi(P:Params):Obj:=k1 (me 59 5) E9 .none kP 1070 687
noncomputable def MN(P:Params):Obj:=k1 (me 59 12) IA .none kP 1070 736
noncomputable def Hg(P:Params):Obj:=xd [en P jK 1079 (.str kP 1070),en P jM 1083 (.int 533 1082),en P fX 1094 (.ref 653),en P qR 1101 (.ref 660),en P qE 1108 (.ref 667),en P k9 1115 (.ref 674),en P cQ 1122 (.ref 681),en P qQ 1129 (.ref 688),en P Bv 1137 (.ref 695),en P gM 1146 (.ref 702),en P DJ 1154 (.ref 709),en P CG 1161 (.ref 716),en P Ba 1168 (.ref 723),en P A7 1176 (.ref 730),en P Ef 1184 (.ref 737),en P jL 1205 (.ref 738),en P z4 1206 .none] 2
noncomputable def Fp(P:Params):Obj:=⟨(.type PySem.W.SL.s17162191345867700912x4),none,(.cls ⟨BX,[.ref 634],[.ref 740, .ref 634, .type PySem.W.SL.s2742458400755230247x6],739,BX,true,[],[],false,none,false⟩),⟨[some (.ref 639),none,some (.str BX 1072),some (.str BX 1080),some (.builtin PySem.W.SL.s11443829558043349243x14),some (.bool true)]⟩⟩
noncomputable def FS(P:Params):Obj:=kq [.bool false]
noncomputable def IL(P:Params):Obj:=kq [.bool false]
noncomputable def HW(P:Params):Obj:=kq [.none]
noncomputable def LT(P:Params):Obj:=k1 (me 80 0) Hk .none lY 1390 877
noncomputable def ML(P:Params):Obj:=k1 (me 80 1) FW .none lY 1390 884
noncomputable def Ij(P:Params):Obj:=xd [en P jK 1405 (.str lY 1390),en P jM 1409 (.int 697 1408),en P fX 1417 (.ref 878),en P iY 1425 (.ref 885),en P sK 1433 (.ref 892),en P By 1441 (.ref 899),en P Co 1449 (.ref 906),en P Ce 1457 (.ref 913),en P CW 1465 (.ref 920),en P DX 1476 (.ref 927),en P jL 1481 (.ref 928),en P jR 1483 (.ref 931),en P iy 1485 (.ref 932),en P z4 1486 .none] 4
noncomputable def EC(P:Params):Obj:=xl I4 930 929 [] 1398 1406
noncomputable def c0(P:Params)(r:List Obj):List Obj:=(boot_o_0 P)::o1 P::o2 P::o3 P::(boot_o_4 P)::(boot_o_5 P)::(boot_o_6 P)::(boot_o_7 P)::(boot_o_8 P)::(boot_o_9 P)::(boot_o_10 P)::fW P::(xf (l9))::(xb QC 182 1 11)::(xp 13 3 N6 164)::xr st N6 164 15 187 0 [xg OD 1 1 [(xz 1 0x6b)]] (fW P::vj P::(xd [en P jK 203 (.str pV 194),en P sn 205 (.str I7 204),en P jM 207 (.int 5 206),en P fX 219 (.ref 35),en P jL 231 (.ref 36)] 5)::fW P::(xf (xt [(7,34)]))::(xb I7 198 5 25)::(xp 27 24 pV 194)::xr (me 2) pV 194 29 208 0 [(fX,Fe,7,6,[cJ,iY,k9,cQ,wf,xZ])] ((ks 220 [k9,cQ,wf,JO,(xz 4 0x6c656674),Ff,iY,(xz 6 0x6f6666736574),kO,xZ,(xz 5 0x7269676874)])::Nz P::Ov P::xc 232 38 (fW P::vj P::r)))
noncomputable def c1(P:Params)(r:List Obj):List Obj:=(xd [en P jK 246 (.str pV 194),en P sn 248 (.str IN 247),en P jM 250 (.int 19 249),en P fX 257 (.ref 56),en P jL 260 (.ref 57)] 5)::fW P::(xf (xt [(21,55)]))::(xb IN 241 19 46)::(xp 48 45 pV 194)::xr (me 3) pV 194 50 251 0 [(fX,GZ,21,1,[cJ])] ((ks 258 [(xz 5 0x636f756e74),(xz 4 0x726f6f74)])::NN P::Nn P::xc 261 59 (xr st pV 194 64 268 4 [xg On 24 1 [dw,rF],xg N7 34 1 [dw,(xz 4 0x70617468),A5],xg ON 41 1 [dw,sY,rF],xg Oo 47 1 [dw,Ff],xg Ox 54 4 [fN,kO,dw,vK],xg Nb 63 2 [fN,dw,rF],xg OJ 75 2 [fN,dw,rF],xg JO 87 1 [dw],xg Nr 89 2 [fN,dw,kO,(xz 5 0x61626f7665),oF,(xz 5 0x756e636c65)],xg Nf 109 3 [fN,dw,oF,kO],xg N4 118 2 [fN,dw,A5,kO,oF],xg N5 145 1 [dw],xg OQ 151 3 [fN,dw,vK,rF],xg Oh 160 2 [fN,dw,uP,rF,kO,(xz 7 0x7761735f726564),A5],xg MV 182 3 [fN,dw,kO,oF],xg Np 191 2 [kO,oF],xg NO 193 3 [fN,dw,oF],xg Ot 198 4 [fN,dw,kO,oF,vK,(xz 5 0x6f75746572),(xz 5 0x696e6e6572)],xg OM 224 3 [fN,k9,cQ,sY,CV,dw]] (r)))
noncomputable def c2(P:Params)(r:List Obj):List Obj:=xr st AG 452 197 454 24 [xg OC 243 3 [dw,fr,kQ],xg Nx 249 3 [dw,fr,kQ]] (xq 211 472 (st 26) Nc 251 4 AG 452 (xr st AG 452 216 478 27 [xg No 263 4 [fN,fr,mN,kQ,CV,dw],xg Pi 280 3 [fN,fr,mN,CV,dw]] (xr st Fv 501 230 503 30 [xg OU 300 2 [(xz 3 0x6f6e65),vK],xg OZ 304 2 [qp,iY,fr],xg Nd 309 2 [qp,iY,fr],xg M8 312 3 [qp,iY,mt,fr],xg Od 317 3 [qp,iY,mt,fr]] (r))))
noncomputable def c3(P:Params)(r:List Obj):List Obj:=fW P::vj P::(xd [en P jK 558 (.str oG 549),en P sn 560 (.str IU 559),en P jM 562 (.int 321 561),en P fX 570 (.ref 278),en P Bl 578 (.ref 285),en P jL 588 (.ref 286)] 6)::fW P::(xf (xt [(323,277),(334,284)]))::(xb IU 553 321 268)::(xp 270 267 oG 549)::xr (me 36) oG 549 272 563 0 [(fX,GN,323,2,[cJ,EM]),(Bl,EJ,334,2,[cJ,mt])] ((ks 579 [Dt,(xz 8 0x64656661756c7473),Iq,(xz 12 0x66726f6e745f737469636b79),EM,GI,Fh,(xz 14 0x726561725f6e6f6e737469636b79),IJ])::FN P::HS P::xc 589 288 (xr st oG 549 293 596 37 [xg Oy 336 3 [rE,qp,iY,sY,Dt]] (fW P::vj P::(xd [en P jK 616 (.str d4 607),en P sn 618 (.str Jf 617),en P jM 620 (.int 344 619),en P fX 630 (.ref 313),en P jL 635 (.ref 314)] 5)::fW P::(xf (xt [(346,312)]))::(xb Jf 611 344 303)::(xp 305 302 d4 607)::xr (me 39) d4 607 307 621 0 [(fX,Fd,346,4,[cJ,iY,wf,xZ])] (r))))
noncomputable def c4(P:Params)(r:List Obj):List Obj:=(ks 631 [yL,dw,iY,qp])::GM P::Iu P::xc 636 316 (fW P::vj P::(xd [en P jK 650 (.str d4 607),en P sn 652 (.str Jc 651),en P jM 654 (.int 351 653),en P fX 662 (.ref 334),en P rQ 672 (.ref 341),en P qC 681 (.ref 348),en P CY 691 (.ref 355),en P BS 700 (.ref 362),en P jL 704 (.ref 363)] 9)::fW P::(xf (xt [(353,333),(358,340),(361,347),(364,354),(367,361)]))::(xb Jc 645 351 324)::(xp 326 323 d4 607)::xr (me 40) d4 607 328 655 0 [(fX,EZ,353,2,[cJ,rE]),(rQ,JI,358,4,[cJ,fr,mN,kQ]),(qC,Kd,361,3,[cJ,k9,cQ]),(CY,Fs,364,4,[cJ,fr,mN,kQ]),(BS,Gs,367,3,[cJ,fr,cQ])] (r))
noncomputable def c5(P:Params)(r:List Obj):List Obj:=(ks 701 [Fb,rE,fN])::Hj P::Gx P::xc 705 365 (xr st d4 607 370 712 41 [xg OL 369 1 [mZ],xg NU 372 1 [mZ],xg Os 375 1 [mZ],xg N1 380 4 [mZ,yL,k9,cQ],xg OY 387 6 [yL,iY,k9,cQ,wf,xZ,sY],xg OV 391 3 [rE,mZ,iY],xg Om 393 2 [rE,mZ],xg Nl 395 4 [rE,mZ,iY,mt,(xz 7 0x6368616e676564)]] (r))
noncomputable def c6(P:Params)(r:List Obj):List Obj:=xq 426 784 (st 49) Oj 403 2 d4 607 (xq 431 790 (st 50) NT 405 2 d4 607 (xr st d4 607 436 796 51 [xg Pe 407 3 [yL,fr,mN,mZ]] (fW P::vj P::(xd [en P jK 815 (.str gL 806),en P sn 817 (.str IX 816),en P jM 819 (.int 415 818),en P fX 828 (.ref 456),en P qQ 835 (.ref 463),en P xW 843 (.ref 470),en P gM 853 (.ref 477),en P Cu 862 (.ref 484),en P CA 871 (.ref 491),en P zN 880 (.ref 498),en P FY 890 (.ref 505),en P qK 899 (.ref 512),en P Cc 906 (.ref 519),en P CX 913 (.ref 526),en P jL 918 (.ref 527)] 15)::fW P::(xf (xt [(417,455),(423,462),(426,469),(429,476),(437,483),(448,490),(454,497),(460,504),(470,511),(473,518),(476,525)]))::(xb IX 810 415 446)::(xp 448 445 gL 806)::xr (me 53) gL 806 450 820 0 [(fX,EI,417,3,[cJ,gM,Bp]),(qQ,EH,423,1,[cJ]),(xW,KK,426,2,[cJ,fr]),(gM,Hz,429,3,[cJ,fT,cQ,(xz 5 0x7368696674)]),(Cu,H9,437,2,[cJ,fr,(xz 5 0x6d6f766564)]),(CA,FM,448,2,[cJ,(xz 6 0x77616e746564),(xz 4 0x6c61636b)]),(zN,Gr,454,3,[cJ,fr,gM]),(FY,Hw,460,3,[cJ,fT,cQ,uP]),(qK,LR,470,3,[cJ,fr,xW]),(Cc,Lg,473,1,[cJ]),(CX,LU,476,1,[cJ])] (r))))
noncomputable def c7(P:Params)(r:List Obj):List Obj:=(ks 914 [(xz 5 0x63656c6c73),(xz 7 0x6761705f656e64),(xz 9 0x6761705f7374617274),Bp])::GJ P::EQ P::xc 919 529 (fW P::vj P::(xd [en P jK 935 (.str jA 926),en P sn 937 (.str IZ 936),en P jM 939 (.int 479 938),en P fX 946 (.ref 547),en P Dn 953 (.ref 554),en P qK 962 (.ref 561),en P BA 970 (.ref 568),en P Dy 981 (.ref 575),en P rQ 993 (.ref 582),en P qC 1004 (.ref 589),en P Ca 1016 (.ref 596),en P jL 1018 (.ref 597)] 12)::fW P::(xf (xt [(481,546),(484,553),(487,560),(490,567),(493,574),(500,581),(506,588),(514,595)]))::(xb IZ 930 479 537)::(xp 539 536 jA 926)::xr (me 55) jA 926 541 940 0 [(fX,GG,481,1,[cJ]),(Dn,Ht,484,1,[cJ]),(qK,L8,487,3,[cJ,tW,(xz 8 0x706f736974696f6e)]),(BA,Kv,490,2,[cJ,tW]),(Dy,JS,493,3,[cJ,fT,cQ,sY,iY]),(rQ,Fj,500,4,[cJ,fT,cQ,(xz 9 0x69735f6265666f7265),iY,tW]),(qC,E5,506,3,[cJ,fT,cQ,iY,tW]),(Ca,ID,514,4,[cJ,fT,cQ,mN,iY,tW])] (r))
noncomputable def c8(P:Params)(r:List Obj):List Obj:=(kq [.str Ir 1017])::HM P::Hu P::xc 1019 599 (fW P::vj P::(xd [en P jK 1035 (.str yA 1026),en P sn 1037 (.str Fg 1036),en P jM 1039 (.int 522 1038),en P qR 1046 (.ref 617),en P qE 1053 (.ref 624),en P Cw 1061 (.ref 631),en P jL 1062 (.ref 632)] 7)::fW P::(xf (xt [(524,616),(527,623),(530,630)]))::(xb Fg 1030 522 607)::(xp 609 606 yA 1026)::xr (me 57) yA 1026 611 1040 0 [(qR,Lh,524,1,[cJ]),(qE,Ms,527,1,[cJ]),(Cw,Jx,530,2,[cJ,vK])] (fW P::Fa P::IH P::xc 1063 634 ((kq [.ref 634])::vj P::(xd [en P jK 1079 (.str kP 1070),en P sn 1081 (.str BX 1080),en P jM 1083 (.int 533 1082),en P fX 1094 (.ref 653),en P qR 1101 (.ref 660),en P qE 1108 (.ref 667),en P k9 1115 (.ref 674),en P cQ 1122 (.ref 681),en P qQ 1129 (.ref 688),en P Bv 1137 (.ref 695),en P gM 1146 (.ref 702),en P DJ 1154 (.ref 709),en P CG 1161 (.ref 716),en P Ba 1168 (.ref 723),en P A7 1176 (.ref 730),en P Ef 1184 (.ref 737),en P jL 1205 (.ref 738)] 17)::r)))
noncomputable def c9(P:Params)(r:List Obj):List Obj:=fW P::(xf (xt [(535,652),(557,659),(560,666),(563,673),(566,680),(569,687),(572,694),(575,701),(578,708),(581,715),(584,722),(587,729),(590,736)]))::(xb BX 1074 533 642)::(xp 644 641 kP 1070)::HT P::fW P::Ja P::(ks 1088 [cJ,iY,Db,Bp])::fW P::(k0 (me 59 0) BQ)::(kc fX BQ 1085 535 4 3 647 true 648 .none (.ref 649) (.ref 650) (.ref 651) 1092 1093)::FX P::xr (me 59) kP 1070 654 1095 1 [(qR,LE,557,1,[cJ]),(qE,Jw,560,1,[cJ]),(k9,L4,563,1,[cJ]),(cQ,JB,566,1,[cJ]),(qQ,E9,569,1,[cJ]),(Bv,Kt,572,2,[cJ,qk]),(gM,LG,575,3,[cJ,fT,cQ]),(DJ,K1,578,2,[cJ,qk]),(CG,MG,581,1,[cJ]),(Ba,Ko,584,1,[cJ]),(A7,Ju,587,2,[cJ,(xz 5 0x69735f736f)]),(Ef,IA,590,2,[cJ,(xz 9 0x6172655f636f646573)])] (r)
noncomputable def QJ(P:Params)(r:List Obj):List Obj:=(ks 1185 [(xz 4 0x62656776),(xz 11 0x636f6465735f7469636b73),(xz 4 0x66696c65),(xz 7 0x69735f6c697665),(xz 12 0x69735f726561645f6f6e6c79),(xz 9 0x6c697374656e657273),(xz 6 0x6c6f63616c73),(xz 4 0x6d61726b),(xz 7 0x6d61726b657273),Db,iY,Fb,EL,(xz 5 0x70726f7073),(xz 11 0x73617665645f7469636b73),(xz 6 0x73796e746178),(xz 4 0x74657874),(xz 5 0x7469636b73),(xz 4 0x756e646f),(xz 2 0x7a76)])::Hg P::Fp P::(xo PySem.W.SL.s4290257624100764138x5 [.ref 740, .ref 740, .ref 740])::(xo PySem.W.SL.s11030030927630378310x26 [.builtin PySem.W.SL.s4860613602091757760x24, .ref 740])::(kq [.type PySem.W.SL.s5946037652744460706x9])::vj P::(xd [en P jK 1218 (.str wl 1209),en P sn 1220 (.str Bq 1219),en P jM 1222 (.int 595 1221),en P fX 1231 (.ref 756),en P jL 1234 (.ref 757)] 5)::fW P::(xf (xt [(597,755)]))::(xb Bq 1213 595 746)::(xp 748 745 wl 1209)::xr (me 61) wl 1209 750 1223 0 [(fX,KJ,597,3,[cJ,sK,Hq])] ((ks 1232 [Hq,sK])::(xd [en P jK 1218 (.str wl 1209),en P jM 1222 (.int 595 1221),en P fX 1231 (.ref 756),en P jL 1234 (.ref 757),en P iy 1236 (.ref 760),en P z4 1237 .none] 3)::⟨(.type PySem.W.SL.s17162191345867700912x4),none,(.cls ⟨Bq,[.type PySem.W.SL.s5946037652744460706x9],[.ref 759, .type PySem.W.SL.s5946037652744460706x9, .type PySem.W.SL.s4278001404047624695x13, .type PySem.W.SL.s2742458400755230247x6],758,Bq,true,[],[],false,none,false⟩),⟨[some (.ref 743),none,some (.str Bq 1211),some (.str Bq 1219),some (.builtin PySem.W.SL.s5160863994218179198x17),some (.bool true)]⟩⟩::(xo PySem.W.SL.s14755015743595814543x17 [.str iy 1235, .ref 759, .builtin PySem.W.SL.s10220274742760427390x26, .none])::(xo PySem.W.SL.s4290257624100764138x5 [.ref 759, .ref 759, .ref 759])::(xo PySem.W.SL.s11030030927630378310x26 [.builtin PySem.W.SL.s4860613602091757760x24, .ref 759])::xr st rp 1242 763 1248 64 [xg MX 602 1 [fZ],xg NJ 605 2 [fZ,(xz 6 0x67726f777468)],xg Nu 608 3 [fZ,fT,cQ,yH,yy],xg Ou 613 3 [fZ,fT,cQ,Hc],xg NL 616 4 [fZ,fT,cQ,(xz 10 0x6f6c645f6c656e677468),Hc],xg MY 620 3 [fZ,fT,cQ,uP],xg NI 628 3 [fZ,qk,gM],xg Pa 635 3 [fZ,fT,cQ],xg NG 640 4 [fZ,qk,mN,kQ],xg MZ 645 5 [fZ,qk,gM,kQ,(xz 15 0x69735f706f696e745f626568696e64)]] (r))
noncomputable def Pt(P:Params)(r:List Obj):List Obj:=FS P::fW P::Ja P::(ks 1347 [fZ,qk,gM,kQ])::fW P::(k0 (st 74) FK)::(kc FK FK 1344 658 4 3 834 true 835 .none (.ref 836) (.ref 837) (.ref 838) 1351 1352)::(k1 (st 74) FK (.ref 833) rp 1242 839)::IL P::fW P::Ja P::(ks 1357 [fZ,gM,kQ])::fW P::(k0 (st 75) zN)::(kc zN zN 1354 660 3 3 842 true 843 .none (.ref 844) (.ref 845) (.ref 846) 1360 1361)::(k1 (st 75) zN (.ref 841) rp 1242 847)::xr st rp 1242 849 1363 76 [xg FY 662 3 [fZ,fT,cQ,yH,yy,uP]] (HW P::fW P::Ja P::(ks 1378 [fZ,fT,cQ,gM,Ir,yH,yy,EL,uP])::fW P::(k0 (st 77) GU)::(kc GU GU 1375 673 5 3 857 true 858 .none (.ref 859) (.ref 860) (.ref 861) 1387 1388)::(k1 (st 77) GU (.ref 856) rp 1242 862)::(ks 1392 [Dt,(xz 12 0x66726f6e742d737469636b79),(xz 14 0x726561722d6e6f6e737469636b79),Iq,Fh])::fW P::vj P::(xd [en P jK 1405 (.str lY 1390),en P sn 1407 (.str I4 1406),en P jM 1409 (.int 697 1408),en P fX 1417 (.ref 878),en P iY 1425 (.ref 885),en P sK 1433 (.ref 892),en P By 1441 (.ref 899),en P Co 1449 (.ref 906),en P Ce 1457 (.ref 913),en P CW 1465 (.ref 920),en P DX 1476 (.ref 927),en P jL 1481 (.ref 928)] 12)::fW P::(xf (xt [(699,877),(705,884),(708,891),(711,898),(714,905),(717,912),(720,919),(723,926)]))::(xb I4 1400 697 868)::(xp 870 867 lY 1390)::xr (me 80) lY 1390 872 1410 0 [(fX,Hk,699,2,[cJ,FZ]),(iY,FW,705,2,[cJ,Db]),(sK,MT,708,2,[cJ,iY]),(By,LO,711,2,[cJ,mt]),(Co,MQ,714,2,[cJ,(xz 6 0x76616c756573)]),(Ce,MC,717,2,[cJ,mt]),(CW,Ki,720,2,[cJ,mt]),(DX,Lf,723,3,[cJ,mt,iY,(xz 3 0x6f776e),(xz 4 0x68656c64)])] (r))
noncomputable def c12(P:Params)(r:List Obj):List Obj:=(ks 1477 [FZ,GI,(xz 6 0x706c69737473),IJ])::Ij P::EC P::xc 1482 930 (xr st z3 1489 935 1491 82 [xg OR 729 2 [(xz 4 0x6465636b),mN]] (xq 942 1499 (st 83) MW 734 3 z3 1489 (xr st z3 1489 947 1505 84 [xg NQ 739 2 [(xz 5 0x7369676e73),(xz 4 0x6c6f7473),(xz 9 0x6f776e5f72756c6573),GB,(xz 4 0x6c616964),yH,yy,(xz 8 0x69735f66726f6e74),(xz 7 0x69735f72656172),(xz 14 0x69735f73686f72745f6c69766564)],xg OH 750 3 [GB,(xz 4 0x65646974),(xz 7 0x66757274686572),fT,cQ,(xz 4 0x63616d65),(xz 8 0x69735f6168656164)]] (xq 961 1534 (st 86) N0 758 3 z3 1489 (xq 966 1540 (st 87) OP 775 3 z3 1489 (xq 971 1546 (st 88) M0 787 1 z3 1489 (r)))))))
noncomputable def fl(P:Params):List Obj:=c0 P<|c1 P<|c2 P<|c3 P<|c4 P<|c5 P<|c6 P<|c7 P<|c8 P<|c9 P<|QJ P<|Pt P<|c12 P []
noncomputable def FR(P:Params):Obj:=xf []
noncomputable def t0(P:Params):BT:=bt 12 (ov [(2,boot_o_2 P),(3,boot_o_3 P),(12,FR P)] 0 15 (fl P))
noncomputable def MF(P:Params):Obj:=xd (en P z2 165 (.str pV 194)::((l3 P).drop 1).take 10) 11
noncomputable def Gl(P:Params):Obj:=xf (l9.take 6)
noncomputable def t1(P:Params):BT:=bt 12 (ov [(2,boot_o_2 P),(3,MF P),(12,Gl P)] 0 43 (fl P))
noncomputable def Kq(P:Params):Obj:=xd (en P z2 165 (.str pV 194)::((l3 P).drop 1).take 16) 17
noncomputable def GK(P:Params):Obj:=xf (l9.take 24)
noncomputable def t2(P:Params):BT:=bt 12 (ov [(2,boot_o_2 P),(3,Kq P),(12,GK P)] 0 99 (fl P))
noncomputable def LZ(P:Params):Obj:=xd (en P z2 165 (.str pV 194)::((l3 P).drop 1).take 28) 29
noncomputable def HU(P:Params):Obj:=xf (l9.take 60)
noncomputable def t3(P:Params):BT:=bt 12 (ov [(2,boot_o_2 P),(3,LZ P),(12,HU P)] 0 183 (fl P))
noncomputable def J3(P:Params):Obj:=xd (en P z2 165 (.str Fv 501)::((l3 P).drop 1).take 40) 41
noncomputable def EF(P:Params):Obj:=xf (l9.take 96)
noncomputable def t4(P:Params):BT:=bt 12 (ov [(2,boot_o_2 P),(3,J3 P),(12,EF P)] 0 265 (fl P))
noncomputable def LQ(P:Params):Obj:=xd (en P z2 165 (.str d4 607)::((l3 P).drop 1).take 42) 43
noncomputable def Ip(P:Params):Obj:=xf (l9.take 102)
noncomputable def t5(P:Params):BT:=bt 12 (ov [(2,boot_o_2 P),(3,LQ P),(12,Ip P)] 0 300 (fl P))
noncomputable def KM(P:Params):Obj:=xd (en P z2 165 (.str d4 607)::((l3 P).drop 1).take 43) 44
noncomputable def EG(P:Params):Obj:=xf (l9.take 105)
noncomputable def t6(P:Params):BT:=bt 12 (ov [(2,boot_o_2 P),(3,KM P),(12,EG P)] 0 321 (fl P))
noncomputable def Mj(P:Params):Obj:=xd (en P z2 165 (.str d4 607)::((l3 P).drop 1).take 45) 46
noncomputable def Hr(P:Params):Obj:=xf (l9.take 111)
noncomputable def t7(P:Params):BT:=bt 12 (ov [(2,boot_o_2 P),(3,Mj P),(12,Hr P)] 0 377 (fl P))
noncomputable def KY(P:Params):Obj:=xd (en P z2 165 (.str gL 806)::((l3 P).drop 1).take 55) 56
noncomputable def GH(P:Params):Obj:=xf (l9.take 141)
noncomputable def t8(P:Params):BT:=bt 12 (ov [(2,boot_o_2 P),(3,KY P),(12,GH P)] 0 443 (fl P))
noncomputable def JU(P:Params):Obj:=xd (en P z2 165 (.str gL 806)::((l3 P).drop 1).take 56) 57
noncomputable def EB(P:Params):Obj:=xf (l9.take 144)
noncomputable def t9(P:Params):BT:=bt 12 (ov [(2,boot_o_2 P),(3,JU P),(12,EB P)] 0 534 (fl P))
noncomputable def HD(P:Params):Obj:=xd (en P z2 165 (.str jA 926)::((l3 P).drop 1).take 56) 57
noncomputable def BW(P:Params):Obj:=xf (l9.take 144)
noncomputable def Nj(P:Params):BT:=bt 12 (ov [(2,boot_o_2 P),(3,HD P),(12,BW P)] 0 534 (fl P))
noncomputable def GL(P:Params):Obj:=xd (en P z2 165 (.str jA 926)::((l3 P).drop 1).take 57) 58
noncomputable def CP(P:Params):Obj:=xf (l9.take 147)
noncomputable def NE(P:Params):BT:=bt 12 (ov [(2,boot_o_2 P),(3,GL P),(12,CP P)] 0 604 (fl P))
noncomputable def IK(P:Params):Obj:=xd (en P z2 165 (.str kP 1070)::((l3 P).drop 1).take 58) 59
noncomputable def A0(P:Params):Obj:=xf (l9.take 150)
noncomputable def xS(P:Params):Obj:=xl Fg 634 633 [] 1028 1036
noncomputable def OS(P:Params):BT:=bt 12 (ov [(2,boot_o_2 P),(3,IK P),(12,A0 P),(634,xS P)] 0 639 (fl P))
noncomputable def HJ(P:Params):Obj:=xd (en P z2 165 (.str kP 1070)::((l3 P).drop 1).take 59) 60
noncomputable def DW(P:Params):Obj:=xf (l9.take 153)
noncomputable def NC(P:Params):BT:=bt 12 (ov [(2,boot_o_2 P),(3,HJ P),(12,DW P)] 0 743 (fl P))
noncomputable def FQ(P:Params):Obj:=xd (en P z2 165 (.str rp 1242)::((l3 P).drop 1).take 65) 66
noncomputable def BV(P:Params):Obj:=xf (l9.take 168)
noncomputable def NM(P:Params):BT:=bt 12 (ov [(3,FQ P),(12,BV P)] 0 791 (fl P))
noncomputable def ER(P:Params):Obj:=xd (en P z2 165 (.str lY 1390)::((l3 P).drop 1).take 76) 77
noncomputable def Cs(P:Params):Obj:=xf (l9.take 198)
noncomputable def Ol(P:Params):BT:=bt 12 (ov [(3,ER P),(12,Cs P)] 0 865 (fl P))
noncomputable def Fw(P:Params):Obj:=xd (en P z2 165 (.str lY 1390)::((l3 P).drop 1).take 77) 78
noncomputable def Df(P:Params):Obj:=xf (l9.take 201)
noncomputable def Nv(P:Params):BT:=bt 12 (ov [(3,Fw P),(12,Df P)] 0 935 (fl P))
noncomputable def Jd(P:Params):BT:=bt 12 (ov [] 0 976 (fl P))
end Mine.H
end
section
open PySem PySem.W PyProof.Rows
namespace Mine.H
theorem p1:∀w:World,(fun os=>sR tT P0 w 11 (some (.ref 6)) 1 275 ⟨t0 w.params,15,{},⟨[]⟩,{},187,os⟩ (piecesOf (sl 0 3) env cB ⟨0,0,0,0⟩ [topFrame ⟨0,0,0,0⟩]))=fun os=>some (Flow.next,(⟨t1 w.params,43,{},⟨[]⟩,{},239,os⟩:SharedT),cB,(⟨5,0,18,26⟩:Pos)):=by intro w;kernel_rfl
theorem p2:∀w:World,(fun os=>sR tT P0 w 11 (some (.ref 6)) 1 377 ⟨t1 w.params,43,{},⟨[]⟩,{},239,os⟩ (piecesOf (sl 3 6) env cB ⟨5,0,18,26⟩ [topFrame ⟨0,0,0,0⟩]))=fun os=>some (Flow.next,(⟨t2 w.params,99,{},⟨[]⟩,{},312,os⟩:SharedT),cB,(⟨54,0,62,29⟩:Pos)):=by intro w;kernel_rfl
theorem p3:∀w:World,(fun os=>sR tT P0 w 11 (some (.ref 6)) 1 380 ⟨t2 w.params,99,{},⟨[]⟩,{},312,os⟩ (piecesOf (sl 9 12) env cB ⟨54,0,62,29⟩ [topFrame ⟨0,0,0,0⟩]))=fun os=>some (Flow.next,(⟨t3 w.params,183,{},⟨[]⟩,{},427,os⟩:SharedT),cB,(⟨193,0,197,30⟩:Pos)):=by intro w;kernel_rfl
theorem p4:∀w:World,(fun os=>sR tT P0 w 11 (some (.ref 6)) 1 399 ⟨t3 w.params,183,{},⟨[]⟩,{},427,os⟩ (piecesOf (sl 21 14) env cB ⟨193,0,197,30⟩ [topFrame ⟨0,0,0,0⟩]))=fun os=>some (Flow.next,(⟨t4 w.params,265,{},⟨[]⟩,{},549,os⟩:SharedT),cB,(⟨317,0,319,46⟩:Pos)):=by intro w;kernel_rfl
theorem p5:∀w:World,(fun os=>sR tT P0 w 11 (some (.ref 6)) 1 314 ⟨t4 w.params,265,{},⟨[]⟩,{},549,os⟩ (piecesOf (sl 35 4) env cB ⟨317,0,319,46⟩ [topFrame ⟨0,0,0,0⟩]))=fun os=>some (Flow.next,(⟨t5 w.params,300,{},⟨[]⟩,{},609,os⟩:SharedT),cB,(⟨343,0,343,8⟩:Pos)):=by intro w;kernel_rfl
theorem p6:∀w:World,(fun os=>sR tT P0 w 11 (some (.ref 6)) 1 228 ⟨t5 w.params,300,{},⟨[]⟩,{},609,os⟩ (piecesOf (sl 39 1) env cB ⟨343,0,343,8⟩ [topFrame ⟨0,0,0,0⟩]))=fun os=>some (Flow.next,(⟨t6 w.params,321,{},⟨[]⟩,{},643,os⟩:SharedT),cB,(⟨344,0,350,23⟩:Pos)):=by intro w;kernel_rfl
theorem p7:∀w:World,(fun os=>sR tT P0 w 11 (some (.ref 6)) 1 388 ⟨t6 w.params,321,{},⟨[]⟩,{},643,os⟩ (piecesOf (sl 40 2) env cB ⟨344,0,350,23⟩ [topFrame ⟨0,0,0,0⟩]))=fun os=>some (Flow.next,(⟨t7 w.params,377,{},⟨[]⟩,{},719,os⟩:SharedT),cB,(⟨369,0,371,29⟩:Pos)):=by intro w;kernel_rfl
theorem p8:∀w:World,(fun os=>sR tT P0 w 11 (some (.ref 6)) 1 313 ⟨t7 w.params,377,{},⟨[]⟩,{},719,os⟩ (piecesOf (sl 42 11) env cB ⟨369,0,371,29⟩ [topFrame ⟨0,0,0,0⟩]))=fun os=>some (Flow.next,(⟨t8 w.params,443,{},⟨[]⟩,{},808,os⟩:SharedT),cB,(⟨414,0,414,8⟩:Pos)):=by intro w;kernel_rfl
theorem p9:∀w:World,(fun os=>sR tT P0 w 11 (some (.ref 6)) 1 552 ⟨t8 w.params,443,{},⟨[]⟩,{},808,os⟩ (piecesOf (sl 53 1) env cB ⟨414,0,414,8⟩ [topFrame ⟨0,0,0,0⟩]))=fun os=>some (Flow.next,(⟨t9 w.params,534,{},⟨[]⟩,{},926,os⟩:SharedT),cB,(⟨415,0,477,16⟩:Pos)):=by intro w;kernel_rfl
theorem PM:∀w:World,(fun os=>sR tT P0 w 11 (some (.ref 6)) 1 10 ⟨t9 w.params,534,{},⟨[]⟩,{},926,os⟩ (piecesOf (sl 54 1) env cB ⟨415,0,477,16⟩ [topFrame ⟨0,0,0,0⟩]))=fun os=>some (Flow.next,(⟨Nj w.params,534,{},⟨[]⟩,{},928,os⟩:SharedT),cB,(⟨478,0,478,8⟩:Pos)):=by intro w;kernel_rfl
theorem Ql:∀w:World,(fun os=>sR tT P0 w 11 (some (.ref 6)) 1 460 ⟨Nj w.params,534,{},⟨[]⟩,{},928,os⟩ (piecesOf (sl 55 1) env cB ⟨478,0,478,8⟩ [topFrame ⟨0,0,0,0⟩]))=fun os=>some (Flow.next,(⟨NE w.params,604,{},⟨[]⟩,{},1026,os⟩:SharedT),cB,(⟨479,0,520,39⟩:Pos)):=by intro w;kernel_rfl
theorem QF:∀w:World,(fun os=>sR tT P0 w 11 (some (.ref 6)) 1 302 ⟨NE w.params,604,{},⟨[]⟩,{},1026,os⟩ (piecesOf (sl 56 3) env cB ⟨479,0,520,39⟩ [topFrame ⟨0,0,0,0⟩]))=fun os=>some (Flow.next,(⟨OS w.params,639,{},⟨[]⟩,{},1072,os⟩:SharedT),cB,(⟨532,0,532,8⟩:Pos)):=by intro w;kernel_rfl
theorem PU:∀w:World,(fun os=>sR tT P0 w 11 (some (.ref 6)) 1 647 ⟨OS w.params,639,{},⟨[]⟩,{},1072,os⟩ (piecesOf (sl 59 1) env cB ⟨532,0,532,8⟩ [topFrame ⟨0,0,0,0⟩]))=fun os=>some (Flow.next,(⟨NC w.params,743,{},⟨[]⟩,{},1209,os⟩:SharedT),cB,(⟨533,0,593,41⟩:Pos)):=by intro w;kernel_rfl
theorem QB:∀w:World,(fun os=>sR tT P0 w 11 (some (.ref 6)) 1 388 ⟨NC w.params,743,{},⟨[]⟩,{},1209,os⟩ (piecesOf (sl 60 8) env cB ⟨533,0,593,41⟩ [topFrame ⟨0,0,0,0⟩]))=fun os=>some (Flow.next,(⟨NM w.params,791,{},⟨[]⟩,{},1284,os⟩:SharedT),cB,(⟨613,0,615,50⟩:Pos)):=by intro w;kernel_rfl
theorem QL:∀w:World,(fun os=>sR tT P0 w 11 (some (.ref 6)) 1 354 ⟨NM w.params,791,{},⟨[]⟩,{},1284,os⟩ (piecesOf (sl 68 12) env cB ⟨613,0,615,50⟩ [topFrame ⟨0,0,0,0⟩]))=fun os=>some (Flow.next,(⟨Ol w.params,865,{},⟨[]⟩,{},1398,os⟩:SharedT),cB,(⟨696,0,696,5⟩:Pos)):=by intro w;kernel_rfl
theorem PJ:∀w:World,(fun os=>sR tT P0 w 11 (some (.ref 6)) 1 453 ⟨Ol w.params,865,{},⟨[]⟩,{},1398,os⟩ (piecesOf (sl 80 1) env cB ⟨696,0,696,5⟩ [topFrame ⟨0,0,0,0⟩]))=fun os=>some (Flow.next,(⟨Nv w.params,935,{},⟨[]⟩,{},1489,os⟩:SharedT),cB,(⟨697,0,727,19⟩:Pos)):=by intro w;kernel_rfl
theorem Pk:∀w:World,(fun os=>sR tT P0 w 11 (some (.ref 6)) 1 217 ⟨Nv w.params,935,{},⟨[]⟩,{},1489,os⟩ (piecesOf (sl 81 8) env cB ⟨697,0,727,19⟩ [topFrame ⟨0,0,0,0⟩]))=fun os=>some (Flow.next,(⟨Jd w.params,976,{},⟨[]⟩,{},1552,os⟩:SharedT),cB,(⟨787,0,812,88⟩:Pos)):=by intro w;kernel_rfl
abbrev q0:Pos:=⟨0,0,0,0⟩
theorem BC:PySem.Challenge.pw_pq0318_01=P0:=rfl
theorem JM: @segRunT=sR:=PySem.W.Fast.te10110043849684766642
theorem Ho:treeTable=tT:=PySem.W.Fast.te14364793385576792824
theorem cN{w:World}{n:Nat}{s s':SharedT}{t:Thread}{c:Code}{q:Pos}(h:sR tT P0 w 11 (some (.ref 6)) 1 n s t=some (Flow.next,s',c,q)):
  segRun treeTable P0 w 11 (some (.ref 6)) 1 n s.abs t=some (Flow.next,s'.abs,c,q):=segRun_of (by rw[JM,Ho];exact h)
def S(T:Params->BT)(n t:Nat)(w:World)(os:OsState):SharedT:=⟨T w.params,n,{},⟨[]⟩,{},t,os⟩
theorem fin(w:World)(s:Shared)(p:Pos):topRun treeTable P0 w 11 (some (.ref 6)) 2 s ⟨doneF .next,cB,p,[topFrame q0]⟩=some s:=by kernel_rfl
theorem Ky:∀w:World,(fun os=>PySem.W.Fast.tw15667345088766844465 tT P0 w 11 (some (.ref 6)) 12 ⟨boot_heap w.params,⟨[]⟩,boot_drawn,boot_toks,os⟩ (topStub P0))=
  fun os=>some ((S t0 15 187 w os).abs,(⟨PySem.W.Fast.tw11892475500146522536 tT cB,cB,q0,[topFrame q0]⟩:Thread)):=by intro w;kernel_rfl
theorem pre(w:World)(os:OsState):topGo treeTable P0 w 11 (some (.ref 6)) 12 ⟨boot_heap w.params,⟨[]⟩,boot_drawn,boot_toks,os⟩ (topStub P0)=
  some ((S t0 15 187 w os).abs,(⟨denote treeTable cB,cB,q0,[topFrame q0]⟩:Thread)):=by
 rw[show @topGo=PySem.W.Fast.tw15667345088766844465 from PySem.W.Fast.te15667345088766844465,show @denote=PySem.W.Fast.tw11892475500146522536 from PySem.W.Fast.te11892475500146522536,Ho]
 exact congrFun (Ky w) os
theorem block(w:World)(s:Shared):segRun treeTable P0 w 11 (some (.ref 6)) 1 1 s (blockOf (behindTheImports P0) env cB q0 [topFrame q0])=some (.next,s,cB,q0):=by kernel_rfl
theorem yF:behindTheImports P0=(sl 0 3++(sl 3 6++(sl 9 12++(sl 21 14++(sl 35 4++(sl 39 1++(sl 40 2++(sl 42 11++(sl 53 1++(sl 54 1++(sl 55 1++(sl 56 3++(sl 59 1++(sl 60 8++(sl 68 12++(sl 80 1++(sl 81 8++[]))))))))))))))))):=by kernel_rfl
abbrev Mn:Nat:=(12+(1+(275+(377+(380+(399+(314+(228+(388+(313+(552+(10+(460+(302+(647+(388+(354+(453+(217+2)))))))))))))))))))
theorem run(w:World)(os:OsState):topRun treeTable P0 w 11 (some (.ref 6)) Mn ⟨boot_heap w.params,⟨[]⟩,boot_drawn,boot_toks,os⟩ (topStub P0)=some (S Jd 976 1552 w os).abs:=by
 refine go_top (pre w os) (piece_block (block w _) ?_)
 rw[yF]
 exact(piece_app (cN (congrFun (p1 w) os)) (piece_app (cN (congrFun (p2 w) os)) (piece_app (cN (congrFun (p3 w) os)) (piece_app (cN (congrFun (p4 w) os)) (piece_app (cN (congrFun (p5 w) os)) (piece_app (cN (congrFun (p6 w) os)) (piece_app (cN (congrFun (p7 w) os)) (piece_app (cN (congrFun (p8 w) os)) (piece_app (cN (congrFun (p9 w) os)) (piece_app (cN (congrFun (PM w) os)) (piece_app (cN (congrFun (Ql w) os)) (piece_app (cN (congrFun (QF w) os)) (piece_app (cN (congrFun (PU w) os)) (piece_app (cN (congrFun (QB w) os)) (piece_app (cN (congrFun (QL w) os)) (piece_app (cN (congrFun (PJ w) os)) (piece_app (cN (congrFun (Pk w) os)) (piece_nil (fin w _ _)))))))))))))))))))
noncomputable def qF:Program:={P0 with main:={P0.main with body:=[st 88]}}
noncomputable def lo:List PySem.Str:=P0.boundNames.filter fun n=> !(n==PySem.Str.mk #[108,97,119])
noncomputable abbrev H1:Params->Heap:=fun P=>absHeap (Jd P) 976 {}
theorem wg(P:Params):(Jd P).list 976=fl P:=by kernel_rfl
theorem IG:∀w:World,((boot_heap w.params).isNs mainGlobals&&(⟨[]⟩:Array GenState).size==0,(boot_heap w.params).objs.size,(boot_heap w.params).nsMap mainGlobals "__annotations__")=(true,11,some (.ref 6)):=by
 intro w;kernel_rfl
theorem open_1:opening P0=plainProg P0.main.scope.names:=by kernel_rfl
theorem A9(s:Shared):fenceModules? P0 s=some s:=by kernel_rfl
theorem Qj(w:World)(os:OsState):(staticsOk (importedModules P0.main.body) (boot_heap w.params) (H1 w.params)&&namesBound P0 (H1 w.params)&&gensDone ⟨H1 w.params,⟨[]⟩,{},1552,os⟩&&laidKept (boot_heap w.params) (H1 w.params))=true:=by kernel_rfl
noncomputable abbrev oS:= @PySem.W.Fast.tw4187177175401517315
theorem JW:∀w:World,(fun os=>oS qF lo (importedModules P0.main.body) (fun _=>true) true ⟨H1 w.params,⟨[]⟩,{},1552,os⟩)=fun _=>openGood qF lo:=by intro w;kernel_rfl
theorem Qi(w:World)(os:OsState):openSeen qF lo (importedModules P0.main.body) (fun _=>true) true ⟨H1 w.params,⟨[]⟩,{},1552,os⟩=openGood qF lo:=by
 rw[show @openSeen=oS from PySem.W.Fast.te4187177175401517315]
 exact congrFun (JW w) os
theorem HC:LeftO P0 qF lo (fun _=>true) (fun s:Shared=>s.heap) (fun w=>H1 w.params) 12206:=
 LeftO.of_pieces (H₀:=boot_heap) (gs₀:=Array.mk []) (d₀:=boot_drawn) (k₀:=boot_toks) (H₁:=H1) (gs₁:=⟨[]⟩) (d₁:={}) (k₁:=1552) (m₀:=11) (ann:=some (.ref 6))
  (boot_open open_1 (by decide+kernel) A9) IG (fun w os=>run w os) (by decide+kernel)
  (fun w=>funext fun os=>by
   rw[Qj w os,Qi w os])
theorem left:LeftO PySem.Challenge.pw_pq0318_01 qF lo (fun _=>true) (fun s:Shared=>s.heap) (fun w=>H1 w.params) 12206:=by
 rw[BC];exact HC
noncomputable def iz:DefRec:=if h:(st 88).ctorIdx=0 then Stmt.FunctionDef.elim (motive_2:=fun _=>DefRec) (st 88) h (fun n a b _ _ _ sc _ _ pos=>⟨n,a,b,sc,pos⟩) else⟨default,default,[],default,default⟩
def hJ(w:World)(h:Heap):Prop:=∀a o,(fl w.params)[a]?=some o->o.isFreed=false->h.get? a=some o
theorem wv(w:World)(s:Shared)(e:s.heap=H1 w.params):hJ w s.heap:=fun a o ho hf=>
 e.symm▸Heap.get?_some_iff.mpr ⟨(congrArg (·[a]?) (congrArg List.toArray (wg w.params):(H1 w.params).objs=(fl w.params).toArray)).trans (List.getElem?_toArray.trans ho),hf⟩
theorem i7(w:World)(h h':Heap)(x:hJ w h)(k:∀b o,h.get? b=some o->h'.get? b=some o):hJ w h':=fun a o ho hf=>k _ _ (x a o ho hf)
theorem Il:PySem.Challenge.pw_pq0318_01.bare:=⟨rfl,rfl,rfl,rfl,rfl,by decide+kernel⟩
theorem Hd:defOf qF (PySem.Str.ofString "law")=some (iz,[]):=by kernel_rfl
theorem ET:P0.theDef (PySem.Str.ofString "law")=some (iz.params,iz.body,iz.scope):=by kernel_rfl
theorem DP:PySem.Challenge.rw_pq0318_01.row.prog.theDef PySem.Challenge.rw_pq0318_01.row.name=some (iz.params,iz.body,iz.scope):=by
 show PySem.Challenge.pw_pq0318_01.theDef _=_
 rw[BC];exact ET
theorem Gj:kwWritten? iz.params.kwonlyargs iz.params.kw_defaults=some []:=by kernel_rfl
theorem LB:chainsOk qF=true:=by kernel_rfl
theorem LL:opensWell PySem.Challenge.pw_pq0318_01=true:=by rw[BC];kernel_rfl
theorem MJ:(frees PySem.Challenge.rw_pq0318_01.row.toRowW&&PySem.Challenge.rw_pq0318_01.row.toRowW.within.isEmpty)=true:=by decide+kernel
theorem prom:PySem.Challenge.rw_pq0318_01.row.toRowW.promised:=by w_witness2
theorem head(call:WalkO qF lo (fun _ _=>True) hJ PySem.Challenge.rw_pq0318_01.row.toRowW iz [] fun f vs=>PySem.call f vs):PySem.Challenge.rw_pq0318_01.Holds:=
 Mine.ur fun said=>PySem.W.holds_open (loose:=lo) (Xt:=fun _=>true) (XP:=fun _ _=>True) (Yf:=fun s:Shared=>s.heap) (Ya:=fun w=>H1 w.params) (YP:=hJ) (kwd:=[])
  left wv i7 (fun _ _=>trivial) (fun _ _ _ _ _=>trivial) Hd DP Gj (fun _ _=>recFacts_nil rfl) rfl said
  (by rw[LB];show(true&&opensWell PySem.Challenge.pw_pq0318_01&&_)=true;rw[LL,MJ];rfl) Il prom call
end Mine.H
end
section
namespace Mine
set_option tactic.hygienic false
set_option genInjectivity false
theorem aS{α:Type _}{a:α}{p:Prop}(h:none=some a):p:=Option.noConfusion rfl (heq_of_eq h)
theorem Hy{α:Type _}{a:α}{p:Prop}(h:some a=none):p:=Option.noConfusion rfl (heq_of_eq h)
theorem ft{p:Prop}(h:false=true):p:=Bool.noConfusion h
theorem tf{p:Prop}(h:true=false):p:=Bool.noConfusion h
theorem qi{α β:Type _}{a c:α}{b d:β}{p:α->β->Prop}(h:some (a,b)=some (c,d))(g:p c d):p a b:=(ag h).casesOn (motive:=fun x _=>p x.1 x.2->p a b) (fun g=>g) g
theorem iD{α:Type _}{c:Prop}[Decidable c]{x y r:α}{p:Prop}(h:(if c then x else y)=r)(g1:c->x=r->p)(g2:¬c->y=r->p):p:=
 if q:c then g1 q ((if_pos q).symm.trans h) else g2 q ((if_neg q).symm.trans h)
inductive V where
 |none|bool (b:Bool)|int (i:Int)|str (k:Nat)
 |tup (xs:List V)|fro (xs:List V)|ref (c:Nat) (q:Option Nat)|list (i:Nat)|dict (i:Nat)|range (n:Int)
inductive Ty where|int|bool|ptr (c:Nat)|obj (c:Nat)|lst|dct|gen
structure H where
 I:Nat->Nat->Nat->Int
 B:Nat->Nat->Nat->Bool
 Q:Nat->Nat->Nat->Option Nat
 N:Nat->Nat->Nat->Nat
 F:Nat->Nat->Nat->V
 raw:List (Nat×Nat×List Nat)
 ni:Nat
 lst:Nat->List V
 nl:Nat
 dct:Nat->(Int->Option V)×Bool
 nd:Nat
inductive Op where|add|sub|mul|fdiv|mod
inductive Cm where|eq|ne|lt|le|gt|ge|is|isNot|wx
inductive Bi where|len|min|max|abs|range|list|sorted
inductive E where
 |none|bool (b:Bool)|int (i:Int)|str (k:Nat)|var (x:Nat)|glob (x:Nat)
 |attr (e:E) (a:Nat)
 |bop (o:Op) (a b:E)|neg (e:E)|not (e:E)
 |bool2 (isAnd:Bool) (es:List E)
 |cmp (a:E) (o:Cm) (b:E)
 |cmp2 (a:E) (o:Cm) (b:E) (p:Cm) (c:E)
 |ite (t a b:E)
 |list (es:List E)|tup (es:List E)
 |comp (elt:E) (x:Nat) (it:E) (ifs:List E)
 |sub (e i:E)|slice (e:E) (lo hi:E)|rev (e:E)
 |call (f:Nat) (args:List E)|new (c:Nat) (args:List E)|meth (e:E) (m:Nat) (args:List E)
 |blt (b:Bi) (args:List E)
 |dict0|isB (e:E)
 |bad
inductive T where
 |var (x:Nat)|attr (e:E) (a:Nat)|sub (e i:E)|slice (e lo hi:E)|tup (xs:List Nat)|bad
inductive S where
 |asg (t:T) (e:E)|expr (e:E)|ret (e:E)|ret0
 |ite (t:E) (a b:List S)|while (t:E) (b:List S)|for (t:T) (it:E) (b:List S)
 |pass|bad
inductive Fl where|next|ret (v:V)
structure Fn where
 ps:List Nat
 ds:List V
 body:List S
structure Pg where
 fn:Nat->Option Fn
 init:Nat->Option Nat
 meth:Nat->Nat->Option Nat
 cst:Nat->Option V
 ty:Nat->Nat->Option Ty
 all:Nat->List Nat
abbrev au:=Nat->Option V
mutual
noncomputable def pd:V->Nat->Bool
 | .none,_=>true
 | .bool _,_=>true
 | .int _,_=>true
 | .tup xs,n+1=>iB xs n
 |_,_=>false
noncomputable def iB:List V->Nat->Bool
 |[],_=>true
 |x::xs,n=>pd x n&&iB xs n
end
mutual
noncomputable def uU:V->V->Bool
 | .none, .none=>true
 | .bool a, .bool b=>a==b
 | .bool a, .int b=>(if a then 1 else 0)==b
 | .int a, .bool b=>a==(if b then 1 else 0)
 | .int a, .int b=>a==b
 | .tup xs, .tup ys=>hG xs ys
 |_,_=>false
noncomputable def hG:List V->List V->Bool
 |[],[]=>true
 |x::xs,y::ys=>uU x y&&hG xs ys
 |_,_=>false
end
noncomputable def H.seq(h:H):V->Option (List V)
 | .tup xs=>some xs
 | .list i=>some (h.lst i)
 |_=>none
noncomputable def fs{α:Type}(v:V)(k:Int->Option α):Option α:=match v with
 | .int i=>k i
 |_=>none
noncomputable def Et{α:Type}(v:V)(k:Nat->Option α):Option α:=match v with
 | .list i=>k i
 |_=>none
noncomputable def Lp{α:Type}(v:V)(k:Nat->Option α):Option α:=match v with
 | .dict i=>k i
 |_=>none
noncomputable def IS{α:Type}(v:V)(k:Nat->Option α):Option α:=match v with
 | .str i=>k i
 |_=>none
noncomputable def one{α:Type}(vs:List V)(k:V->Option α):Option α:=match vs with
 |[v]=>k v
 |_=>none
noncomputable def two{α:Type}(vs:List V)(k:V->V->Option α):Option α:=match vs with
 |[v,w]=>k v w
 |_=>none
section
variable{α:Type}{v:V}{r:α}
theorem HY{k:Int->Option α}(h:fs v k=some r):∃i,v= .int i/\k i=some r:=by
 rcases v with _|_|i|_|_|_|_|_|_|_<;>first|exact aS h|exact⟨_,rfl,h⟩
theorem Ia{k:Nat->Option α}(h:Et v k=some r):∃i,v= .list i/\k i=some r:=by
 rcases v with _|_|_|_|_|_|_|i|_|_<;>first|exact aS h|exact⟨_,rfl,h⟩
theorem E7{k:Nat->Option α}(h:Lp v k=some r):∃i,v= .dict i/\k i=some r:=by
 rcases v with _|_|_|_|_|_|_|_|i|_<;>first|exact aS h|exact⟨_,rfl,h⟩
theorem He{k:Nat->Option α}(h:IS v k=some r):∃i,v= .str i/\k i=some r:=by
 rcases v with _|_|_|i|_|_|_|_|_|_<;>first|exact aS h|exact⟨_,rfl,h⟩
section
variable{p:Prop}
theorem dT{k:Int->Option α}(h:fs v k=some r)(g:∀a,v= .int a->k a=some r->p):p:=(HY h).elim fun a e=>g a e.1 e.2
theorem wy{k:Nat->Option α}(h:Et v k=some r)(g:∀a,v= .list a->k a=some r->p):p:=(Ia h).elim fun a e=>g a e.1 e.2
theorem Jq{k:Nat->Option α}(h:Lp v k=some r)(g:∀a,v= .dict a->k a=some r->p):p:=(E7 h).elim fun a e=>g a e.1 e.2
theorem FP{k:Nat->Option α}(h:IS v k=some r)(g:∀a,v= .str a->k a=some r->p):p:=(He h).elim fun a e=>g a e.1 e.2
end
theorem kC{vs:List V}{k:V->Option α}(h:one vs k=some r):∃v,vs=[v]/\k v=some r:=by
 rcases vs with _|⟨v,_|⟨w,t⟩⟩
 ·exact aS h
 ·exact⟨v,rfl,h⟩
 ·exact aS h
theorem sE{vs:List V}{k:V->V->Option α}(h:two vs k=some r):∃v w,vs=[v,w]/\k v w=some r:=by
 rcases vs with _|⟨v,_|⟨w,_|⟨u,t⟩⟩⟩
 ·exact aS h
 ·exact aS h
 ·exact⟨v,w,rfl,h⟩
 ·exact aS h
end
noncomputable def BN(h:H)(a b:V):Option Bool:=match a with
 | .list i=>Et b fun j=>if iB (h.lst i) 5&&iB (h.lst j) 5 then some (hG (h.lst i) (h.lst j)) else none
 |a=>if pd a 5&&pd b 5 then some (uU a b) else none
noncomputable def Ct(a b:V):Option Bool:=match a with
 | .none=>(match b with
  | .none=>some true
  | .ref _ q=>some q.isNone
  |_=>none)
 | .ref c q=>(match b with
  | .none=>some q.isNone
  | .ref d p=>some (match q,p with
   |none,none=>true
   |some i,some j=>Nat.beq c d&&Nat.beq i j
   |_,_=>false)
  |_=>none)
 | .tup _=>(match b with
  | .none=>some false
  |_=>none)
 |_=>none
noncomputable def kg(h:H)(o:Cm)(a b:V):Option Bool:=match o with
 | .eq=>BN h a b
 | .ne=>(BN h a b).map (!·)
 | .lt=>fs a fun x=>fs b fun y=>some (decide (x<y))
 | .le=>fs a fun x=>fs b fun y=>some (decide (x<=y))
 | .gt=>fs a fun x=>fs b fun y=>some (decide (x>y))
 | .ge=>fs a fun x=>fs b fun y=>some (decide (x>=y))
 | .is=>Ct a b
 | .isNot=>(Ct a b).map (!·)
 | .wx=>fs a fun x=>Lp b fun d=>some ((h.dct d).1 x).isSome
noncomputable def small(i:Int):Bool:=decide (-(2 ^ 40)<i)&&decide (i<2 ^ 40)
noncomputable def H.newL(h:H)(xs:List V):H:={h with lst:=fun j=>if j=h.nl then xs else h.lst j,nl:=h.nl+1}
noncomputable def H.ax(h:H)(i:Nat)(xs:List V):H:={h with lst:=fun j=>if j=i then xs else h.lst j}
noncomputable def iH{α:Type}(f:Nat->Nat->Nat->α)(a c i:Nat)(v:α):Nat->Nat->Nat->α:=fun a' c' i'=>bif Nat.beq a' a then bif Nat.beq c' c then bif Nat.beq i' i then v else f a' c' i' else f a' c' i' else f a' c' i'
noncomputable def jI(c i:Nat)(p:Nat×Nat×List Nat):Bool:=Nat.beq p.1 c&&Nat.beq p.2.1 i
noncomputable def bL(a c i:Nat)(l:List (Nat×Nat×List Nat)):List (Nat×Nat×List Nat):=l.map fun p=>bif jI c i p then(p.1,p.2.1,a::p.2.2) else p
noncomputable def l8(c i:Nat)(l:List (Nat×Nat×List Nat)):Bool:=l.any (jI c i)
noncomputable def dY(c i:Nat)(l:List (Nat×Nat×List Nat)):List (Nat×Nat×List Nat):=l.filter fun p=> !jI c i p
noncomputable def fj(a c i:Nat)(l:List (Nat×Nat×List Nat)):Bool:=l.all fun p=> !jI c i p||p.2.2.any (Nat.beq a)
noncomputable def H.get(h:H)(t:Ty)(a c i:Nat):V:=match t with
 | .int=> .int (h.I a c i)
 | .bool=> .bool (h.B a c i)
 | .ptr d=> .ref d (h.Q a c i)
 | .obj d=> .ref d (some (h.N a c i))
 | .lst=> .list (h.N a c i)
 | .dct=> .dict (h.N a c i)
 | .gen=>h.F a c i
noncomputable def H.sI(h:H)(a c i:Nat)(x:Int):H:={h with I:=iH h.I a c i x,raw:=bL a c i h.raw}
noncomputable def H.sB(h:H)(a c i:Nat)(x:Bool):H:={h with B:=iH h.B a c i x,raw:=bL a c i h.raw}
noncomputable def H.sQ(h:H)(a c i:Nat)(x:Option Nat):H:={h with Q:=iH h.Q a c i x,raw:=bL a c i h.raw}
noncomputable def H.sN(h:H)(a c i:Nat)(x:Nat):H:={h with N:=iH h.N a c i x,raw:=bL a c i h.raw}
noncomputable def H.sF(h:H)(a c i:Nat)(x:V):H:={h with F:=iH h.F a c i x,raw:=bL a c i h.raw}
noncomputable def H.set(h:H)(t:Ty)(a c i:Nat)(v:V):Option H:=match t,v with
 | .int, .int x=>some (h.sI a c i x)
 | .bool, .bool b=>some (h.sB a c i b)
 | .ptr _, .none=>some (h.sQ a c i none)
 | .ptr d, .ref e q=>bif Nat.beq e d then some (h.sQ a c i q) else none
 | .obj d, .ref e (some j)=>bif Nat.beq e d then some (h.sN a c i j) else none
 | .lst, .list j=>some (h.sN a c i j)
 | .dct, .dict j=>some (h.sN a c i j)
 | .gen,v=>some (h.sF a c i v)
 |_,_=>none
noncomputable def H.aQ(h:H)(c:Nat):H:={h with raw:=(c,h.ni,[])::h.raw,ni:=h.ni+1}
noncomputable def H.newD(h:H):H:={h with dct:=fun j=>if j=h.nd then(fun _=>none,true) else h.dct j,nd:=h.nd+1}
noncomputable def H.cA(h:H)(d:Nat)(f:Int->Option V):H:={h with dct:=fun j=>if j=d then(f,false) else h.dct j}
noncomputable def eg:Nat:=100000
noncomputable def oo(o:Op)(x y:Int):Option Int:=match o with
 | .add=>some (x+y)
 | .sub=>some (x - y)
 | .mul=>if small x&&small y then some (x*y) else none
 | .fdiv=>if small x&&small y&&y != 0 then some (Int.fdiv x y) else none
 | .mod=>if y != 0 then some (Int.fmod x y) else none
noncomputable def KI(h:H)(o:Op)(i:Nat)(y:V):Option (V×H):=match o with
 | .add=>(match y with
  | .list j=>if(h.lst i).length+(h.lst j).length<eg then some (.list h.nl,h.newL (h.lst i++h.lst j)) else none
  |_=>none)
 | .mul=>(match y with
  | .int k=>if(h.lst i).length=1/\0<=k/\k<eg then some (.list h.nl,h.newL (List.replicate k.toNat (h.lst i)).flatten) else none
  |_=>none)
 |_=>none
noncomputable def lN(h:H)(o:Op)(x y:V):Option (V×H):=match x with
 | .int x=>(match y with
  | .int y=>(oo o x y).map fun z=>(.int z,h)
  |_=>none)
 | .list i=>KI h o i y
 |_=>none
noncomputable def pP(n:Nat)(k:Int):Option Nat:=if 0<=k then(if k<n then some k.toNat else none) else if -n<=k then some (k+n).toNat else none
noncomputable def eO(h:H)(o i:V):Option V:=match o with
 | .list l=>fs i fun k=>(pP (h.lst l).length k).bind fun j=>(h.lst l)[j]?
 | .tup xs=>fs i fun k=>(pP xs.length k).bind fun j=>xs[j]?
 | .dict d=>fs i fun k=>(h.dct d).1 k
 |_=>none
noncomputable def cutAt(n:Nat):V->(dflt:Nat)->Option Nat
 | .none,d=>some d
 | .int k,_=>if small k then some (if k<0 then(if k+n<0 then 0 else(k+n).toNat) else if k>n then n else k.toNat) else none
 |_,_=>none
noncomputable def m5(h:H)(o lo hi:V):Option (V×H):=match o with
 | .list l=>do
   let a ←cutAt (h.lst l).length lo 0
   let b ←cutAt (h.lst l).length hi (h.lst l).length
   some (.list h.nl,h.newL (((h.lst l).drop a).take (b - a)))
 | .tup xs=>do
   let a ←cutAt xs.length lo 0
   let b ←cutAt xs.length hi xs.length
   if b - a<xs.length then some (.tup ((xs.drop a).take (b - a)),h) else none
 | .fro xs=>do
   let a ←cutAt xs.length lo 0
   let b ←cutAt xs.length hi xs.length
   some (.list h.nl,h.newL ((xs.drop a).take (b - a)))
 |_=>none
noncomputable def GR(h:H):V->Option (V×H)
 | .list l=>some (.list h.nl,h.newL (h.lst l).reverse)
 |_=>none
noncomputable def nS:List V->Option (List Int)
 |[]=>some []
 |v::r=>fs v fun i=>(nS r).map (i:: ·)
noncomputable def H8(h:H)(v:V):Option (V×H):=match v with
 | .list i=>some (.int (h.lst i).length,h)
 | .tup xs=>some (.int xs.length,h)
 |_=>none
noncomputable def zh(h:H)(v:V):Option (V×H):=match v with
 | .list i=>(nS (h.lst i)).bind fun xs=>if xs.length<64 then some (.list h.nl,h.newL ((xs.mergeSort fun a b=>decide (a<=b)).map .int)) else none
 | .dict d=>if(h.dct d).2 then some (.list h.nl,h.newL []) else none
 |_=>none
noncomputable def i9(h:H)(b:Bi)(vs:List V):Option (V×H):=match b with
 | .len=>one vs (H8 h)
 | .min=>two vs fun v w=>fs v fun x=>fs w fun y=>some (.int (if y<x then y else x),h)
 | .max=>two vs fun v w=>fs v fun x=>fs w fun y=>some (.int (if x<y then y else x),h)
 | .abs=>one vs fun v=>fs v fun x=>some (.int (x.natAbs:Int),h)
 | .range=>one vs fun v=>fs v fun n=>if small n then some (.range n,h) else none
 | .list=>one vs fun v=>Et v fun i=>some (.list h.nl,h.newL (h.lst i))
 | .sorted=>one vs (zh h)
noncomputable def Eo:V->Option Bool
 | .bool _=>some true
 | .none=>some false
 | .int _=>some false
 |_=>none
noncomputable def bR:Nat:=0
noncomputable def cY:Nat:=1
noncomputable def et:Nat:=2
noncomputable def strAt:List V->Nat->Nat->Option Nat
 |[],_,_=>none
 |v::r,k,n=>IS v fun j=>if j=k then some n else strAt r k (n+1)
noncomputable def nZ(o:V)(m:Nat):Bool:=match o with
 | .list _=>Nat.beq m bR||Nat.beq m cY
 | .dict _=>Nat.beq m cY
 | .tup _=>Nat.beq m et
 |_=>false
noncomputable def vg(h:H)(o:V)(m:Nat)(vs:List V):Option (V×H):=match o with
 | .list i=>(match vs with
  |[v]=>if m=bR/\(h.lst i).length<eg then some (.none,h.ax i (h.lst i++[v])) else none
  |[]=>if m=cY then(h.lst i).getLast?.map fun v=>(v,h.ax i (h.lst i).dropLast) else none
  |_=>none)
 | .dict d=>one vs fun v=>fs v fun k=>if m=cY then((h.dct d).1 k).map fun v=>(v,h.cA d fun j=>if j=k then none else(h.dct d).1 j) else none
 | .tup xs=>one vs fun v=>IS v fun k=>if m=et/\k<200 then(strAt xs k 0).map fun(n:Nat)=>(.int (n:Int),h) else none
 |_=>none
noncomputable def itemAt(h:H)(it:V)(k:Nat):Option (Option V):=match it with
 | .list i=>some ((h.lst i)[k]?)
 | .tup xs=>some xs[k]?
 | .range n=>some (if(k:Int)<n then some (.int k) else none)
 |_=>none
noncomputable def upd(ρ:au)(x:Nat)(v:V):au:=fun y=>bif Nat.beq y x then some v else ρ y
noncomputable def cw(ρ:au):List Nat->List V->Option au
 |[],[]=>some ρ
 |x::xs,v::vs=>cw (upd ρ x v) xs vs
 |_,_=>none
noncomputable def binds(ps:List Nat)(ds vs:List V):Option au:=
 let miss:=ps.length - vs.length
 if vs.length<=ps.length/\miss<=ds.length then some fun x=>(ps.zip (vs++ds.drop (ds.length - miss))).lookup x else none
noncomputable def HA:V->Option V
 | .int i=>some (.int (-i))
 |_=>none
noncomputable def FG(h:H)(o k v:V):Option H:=match o with
 | .list l=>fs k fun k=>if 0<=k then(pP (h.lst l).length k).map fun j=>h.ax l ((h.lst l).set j v) else none
 | .dict d=>fs k fun k=>if 0<=k/\k<1000 then some (h.cA d fun j=>if j=k then some v else(h.dct d).1 j) else none
 |_=>none
noncomputable def td(h:H)(o lo hi v:V):Option H:=Et o fun l=>Et v fun s=>if l≠s/\(h.lst l).length+(h.lst s).length<eg then(do
   let a ←cutAt (h.lst l).length lo 0
   let b ←cutAt (h.lst l).length hi (h.lst l).length
   some (h.ax l ((h.lst l).take a++h.lst s++(h.lst l).drop (max a b)))) else none
noncomputable def rT(P:Pg)(h:H)(o:V)(a:Nat):Option V:=match o with
 | .ref c (some i)=>match P.ty c a with
  |some t=>bif l8 c i h.raw then none else some (h.get t a c i)
  |none=>none
 |_=>none
noncomputable def pH(P:Pg)(h:H)(o:V)(a:Nat)(v:V):Option H:=match o with
 | .ref c (some i)=>match P.ty c a with
  |some t=>h.set t a c i v
  |none=>none
 |_=>none
noncomputable def whole(P:Pg)(c i:Nat)(r:V)(h:H):Option (V×H):=match r with
 | .none=>bif (P.all c).all fun a=>fj a c i h.raw then some (.ref c (some i),{h with raw:=dY c i h.raw}) else none
 |_=>none
noncomputable def on{α:Type}(x:Option α)(k:α->Prop):Prop:=match x with
 |some a=>k a
 |none=>False
noncomputable def fg{α β:Type}(x:Option (α×β))(k:α->β->Prop):Prop:=match x with
 |some (a,b)=>k a b
 |none=>False
noncomputable def pk(v:V)(k:Bool->Prop):Prop:=match v with
 | .bool b=>k b
 |_=>False
noncomputable def fork(c:Bool)(a b:Prop):Prop:=match c with
 |true=>a
 |false=>b
noncomputable def goes(f:Fl)(k:V->Prop)(a:Prop):Prop:=match f with
 | .next=>a
 | .ret v=>k v
noncomputable def same(c b:Bool)(a d:Prop):Prop:=match c,b with
 |true,true=>a
 |false,false=>a
 |true,false=>d
 |false,true=>d
structure Sm where
 ev:au->H->E->(V->H->Prop)->Prop
 met:au->H->Nat->List E->(V->H->Prop)->V->Prop
 evs:au->H->List E->(List V->H->Prop)->Prop
 evB:au->H->Bool->List E->(V->H->Prop)->Prop
 tst:au->H->E->(Bool->H->Prop)->Prop
 tsts:au->H->Bool->List E->(Bool->H->Prop)->Prop
 cml:au->H->E->Nat->List E->V->Nat->Nat->(H->Prop)->Prop
 cal:H->Nat->List V->(V->H->Prop)->Prop
 asg:au->H->T->V->(au->H->Prop)->Prop
 ex:au->H->S->(Fl->au->H->Prop)->Prop
 exs:au->H->List S->(Fl->au->H->Prop)->Prop
 whl:au->H->E->List S->(Fl->au->H->Prop)->Prop
 frl:au->H->T->List S->V->Nat->(Fl->au->H->Prop)->Prop
noncomputable def step(P:Pg)(z:Sm):Sm where
 ev ρ h e k:=match e with
   | .none=>k .none h
   | .bool b=>k (.bool b) h
   | .int i=>k (.int i) h
   | .str s=>k (.str s) h
   | .var x=>on (ρ x) fun v=>k v h
   | .glob x=>on (P.cst x) fun v=>k v h
   | .attr e a=>z.ev ρ h e fun o h=>on (rT P h o a) fun v=>k v h
   | .bop o a b=>z.ev ρ h a fun x h=>z.ev ρ h b fun y h=>fg (lN h o x y) k
   | .neg e=>z.ev ρ h e fun x h=>on (HA x) fun v=>k v h
   | .not e=>z.ev ρ h e fun x h=>pk x fun b=>k (.bool (!b)) h
   | .bool2 c es=>z.evB ρ h c es k
   | .cmp a o b=>z.ev ρ h a fun x h=>z.ev ρ h b fun y h=>on (kg h o x y) fun r=>k (.bool r) h
   | .cmp2 a o b p c=>z.ev ρ h a fun x h=>z.ev ρ h b fun y h=>on (kg h o x y) fun r=>fork r (z.ev ρ h c fun z h=>on (kg h p y z) fun q=>k (.bool q) h) (k (.bool false) h)
   | .ite t a b=>z.tst ρ h t fun c h=>fork c (z.ev ρ h a k) (z.ev ρ h b k)
   | .list es=>z.evs ρ h es fun vs h=>k (.list h.nl) (h.newL vs)
   | .tup es=>z.evs ρ h es fun vs h=>k (.tup vs) h
   | .comp elt x it ifs=>z.ev ρ h it fun v h=>z.cml ρ (h.newL []) elt x ifs v 0 h.nl fun h'=>k (.list h.nl) h'
   | .sub e i=>z.ev ρ h e fun o h=>z.ev ρ h i fun j h=>on (eO h o j) fun v=>k v h
   | .slice e lo hi=>z.ev ρ h e fun o h=>z.ev ρ h lo fun a h=>z.ev ρ h hi fun b h=>fg (m5 h o a b) k
   | .rev e=>z.ev ρ h e fun o h=>fg (GR h o) k
   | .call f args=>z.evs ρ h args fun vs h=>z.cal h f vs k
   | .new c args=>z.evs ρ h args fun vs h=>on (P.init c) fun f=>z.cal (h.aQ c) f (.ref c (some h.ni)::vs) fun r h'=>fg (whole P c h.ni r h') k
   | .meth e m args=>z.ev ρ h e fun o h=>z.met ρ h m args k o
   | .blt b args=>z.evs ρ h args fun vs h=>fg (i9 h b vs) k
   | .dict0=>k (.dict h.nd) h.newD
   | .isB e=>z.ev ρ h e fun x h=>on (Eo x) fun b=>k (.bool b) h
   | .bad=>False
 met ρ h m args k o:=match o with
   | .ref c (some i)=>on (P.meth c m) fun f=>z.evs ρ h args fun vs h=>z.cal h f (.ref c (some i)::vs) k
   |o=>fork (nZ o m) (z.evs ρ h args fun vs h=>fg (vg h o m vs) k) False
 evs ρ h es k:=match es with
   |[]=>k [] h
   |e::r=>z.ev ρ h e fun v h=>z.evs ρ h r fun vs h=>k (v::vs) h
 evB ρ h c es k:=match es with
   |[]=>False
   |[e]=>z.ev ρ h e k
   |e::r=>z.ev ρ h e fun v h=>pk v fun b=>same b c (z.evB ρ h c r k) (k v h)
 tst ρ h e k:=match e with
   | .not x=>z.tst ρ h x fun b h=>k (!b) h
   | .bool2 c es=>z.tsts ρ h c es k
   | .ite t a b=>z.tst ρ h t fun c h=>fork c (z.tst ρ h a k) (z.tst ρ h b k)
   |e=>z.ev ρ h e fun v h=>pk v fun b=>k b h
 tsts ρ h c es k:=match es with
   |[]=>k c h
   |e::r=>z.tst ρ h e fun b h=>same b c (z.tsts ρ h c r k) (k b h)
 cml ρ h elt x ifs it j a k:=on (itemAt h it j) fun r=>match r with
   |none=>k h
   |some v=>z.tsts (upd ρ x v) h true ifs fun c h=>fork c (z.ev (upd ρ x v) h elt fun y h=>(h.lst a).length<eg/\z.cml ρ (h.ax a (h.lst a++[y])) elt x ifs it (j+1) a k)
    (z.cml ρ h elt x ifs it (j+1) a k)
 cal h f vs k:=on (P.fn f) fun F=>on (binds F.ps F.ds vs) fun ρ=>z.exs ρ h F.body fun r _ h=>goes r (fun v=>k v h) (k .none h)
 asg ρ h t v k:=match t with
   | .var x=>k (upd ρ x v) h
   | .attr e a=>z.ev ρ h e fun o h=>on (pH P h o a v) fun h=>k ρ h
   | .sub e i=>z.ev ρ h e fun o h=>z.ev ρ h i fun j h=>on (FG h o j v) fun h=>k ρ h
   | .slice e lo hi=>z.ev ρ h e fun o h=>z.ev ρ h lo fun a h=>z.ev ρ h hi fun b h=>on (td h o a b v) fun h=>k ρ h
   | .tup xs=>on (h.seq v) fun vs=>on (cw ρ xs vs) fun ρ=>k ρ h
   | .bad=>False
 ex ρ h s k:=match s with
   | .asg t e=>z.ev ρ h e fun v h=>z.asg ρ h t v fun ρ h=>k .next ρ h
   | .expr e=>z.ev ρ h e fun _ h=>k .next ρ h
   | .ret e=>z.ev ρ h e fun v h=>k (.ret v) ρ h
   | .ret0=>k (.ret .none) ρ h
   | .ite t a b=>z.tst ρ h t fun c h=>fork c (z.exs ρ h a k) (z.exs ρ h b k)
   | .while t b=>z.whl ρ h t b k
   | .for t it b=>z.ev ρ h it fun v h=>z.frl ρ h t b v 0 k
   | .pass=>k .next ρ h
   | .bad=>False
 exs ρ h ss k:=match ss with
   |[]=>k .next ρ h
   |s::r=>z.ex ρ h s fun f ρ h=>goes f (fun v=>k (.ret v) ρ h) (z.exs ρ h r k)
 whl ρ h t b k:=z.tst ρ h t fun c h=>fork c (z.exs ρ h b fun f ρ h=>goes f (fun v=>k (.ret v) ρ h) (z.whl ρ h t b k)) (k .next ρ h)
 frl ρ h t b it j k:=on (itemAt h it j) fun r=>match r with
   |none=>k .next ρ h
   |some v=>z.asg ρ h t v fun ρ h=>z.exs ρ h b fun f ρ h=>goes f (fun v=>k (.ret v) ρ h) (z.frl ρ h t b it (j+1) k)
noncomputable def sem(P:Pg):Nat->Sm
 |0=>⟨fun _ _ _ _=>False,fun _ _ _ _ _ _=>False,fun _ _ _ _=>False,fun _ _ _ _ _=>False,fun _ _ _ _=>False,fun _ _ _ _ _=>False,fun _ _ _ _ _ _ _ _ _=>False,fun _ _ _ _=>False,fun _ _ _ _ _=>False,fun _ _ _ _=>False,fun _ _ _ _=>False,fun _ _ _ _ _=>False,fun _ _ _ _ _ _ _=>False⟩
 |n+1=>step P (sem P n)
noncomputable def aN(P:Pg)(n:Nat):au->H->E->(V->H->Prop)->Prop:=(sem P n).ev
noncomputable def iS(P:Pg)(n:Nat):au->H->Nat->List E->(V->H->Prop)->V->Prop:=(sem P n).met
noncomputable def cp(P:Pg)(n:Nat):au->H->List E->(List V->H->Prop)->Prop:=(sem P n).evs
noncomputable def gv(P:Pg)(n:Nat):au->H->Bool->List E->(V->H->Prop)->Prop:=(sem P n).evB
noncomputable def cC(P:Pg)(n:Nat):au->H->E->(Bool->H->Prop)->Prop:=(sem P n).tst
noncomputable def cD(P:Pg)(n:Nat):au->H->Bool->List E->(Bool->H->Prop)->Prop:=(sem P n).tsts
noncomputable def gH(P:Pg)(n:Nat):au->H->E->Nat->List E->V->Nat->Nat->(H->Prop)->Prop:=(sem P n).cml
noncomputable def aD(P:Pg)(n:Nat):H->Nat->List V->(V->H->Prop)->Prop:=(sem P n).cal
noncomputable def bZ(P:Pg)(n:Nat):au->H->T->V->(au->H->Prop)->Prop:=(sem P n).asg
noncomputable def mW(P:Pg)(n:Nat):au->H->S->(Fl->au->H->Prop)->Prop:=(sem P n).ex
noncomputable def aC(P:Pg)(n:Nat):au->H->List S->(Fl->au->H->Prop)->Prop:=(sem P n).exs
noncomputable def fi(P:Pg)(n:Nat):au->H->E->List S->(Fl->au->H->Prop)->Prop:=(sem P n).whl
noncomputable def dK(P:Pg)(n:Nat):au->H->T->List S->V->Nat->(Fl->au->H->Prop)->Prop:=(sem P n).frl
section
variable{P:Pg}{n:Nat}{ρ:au}{h:H}{k:V->H->Prop}{kb:Bool->H->Prop}{ks:List V->H->Prop}{ka:au->H->Prop}{kf:Fl->au->H->Prop}{e a b c t i lo hi elt it:E}{es r ifs:List E}{f x m j:Nat}{cb:Bool}{bs cs:List S}{s:S}{ss:List S}{tg:T}{v:V}{vs:List V}{α β:Type}{xa:α}{kA:α->Prop}{kA':Bool->Prop}{pp qq:Prop}{z:Int}{o:Op}{p:Cm}{bl:Bi}{xs:List Nat}{kAB:α->β->Prop}
theorem w_var:aN P (n+1) ρ h (.var x) k=(on (ρ x) fun v=>k v h):=rfl
theorem nR:aN P (n+1) ρ h (.attr e x) k=(aN P n ρ h e fun o h=>on (rT P h o x) fun v=>k v h):=rfl
theorem mG:aN P (n+1) ρ h (.bop o a b) k=(aN P n ρ h a fun x h=>aN P n ρ h b fun y h=>fg (lN h o x y) k):=rfl
theorem Hx:aN P (n+1) ρ h (.neg e) k=(aN P n ρ h e fun x h=>on (HA x) fun v=>k v h):=rfl
theorem w_not:aN P (n+1) ρ h (.not e) k=(aN P n ρ h e fun x h=>pk x fun b=>k (.bool (!b)) h):=rfl
theorem yq:aN P (n+1) ρ h (.bool2 cb es) k=(gv P n ρ h cb es k):=rfl
theorem tQ{o:Cm}:aN P (n+1) ρ h (.cmp a o b) k=(aN P n ρ h a fun x h=>aN P n ρ h b fun y h=>on (kg h o x y) fun r=>k (.bool r) h):=rfl
theorem tc{o:Cm}:aN P (n+1) ρ h (.cmp2 a o b p c) k=(aN P n ρ h a fun x h=>aN P n ρ h b fun y h=>on (kg h o x y) fun r=>fork r (aN P n ρ h c fun z h=>on (kg h p y z) fun q=>k (.bool q) h) (k (.bool false) h)):=rfl
theorem w_ite:aN P (n+1) ρ h (.ite t a b) k=(cC P n ρ h t fun c h=>fork c (aN P n ρ h a k) (aN P n ρ h b k)):=rfl
theorem jD:aN P (n+1) ρ h (.list es) k=(cp P n ρ h es fun vs h=>k (.list h.nl) (h.newL vs)):=rfl
theorem sZ:aN P (n+1) ρ h (.tup es) k=(cp P n ρ h es fun vs h=>k (.tup vs) h):=rfl
theorem sD:aN P (n+1) ρ h (.comp elt x it ifs) k=(aN P n ρ h it fun v h=>gH P n ρ (h.newL []) elt x ifs v 0 h.nl fun h'=>k (.list h.nl) h'):=rfl
theorem w_sub:aN P (n+1) ρ h (.sub e i) k=(aN P n ρ h e fun o h=>aN P n ρ h i fun j h=>on (eO h o j) fun v=>k v h):=rfl
theorem qe:aN P (n+1) ρ h (.slice e lo hi) k=(aN P n ρ h e fun o h=>aN P n ρ h lo fun a h=>aN P n ρ h hi fun b h=>fg (m5 h o a b) k):=rfl
theorem w_rev:aN P (n+1) ρ h (.rev e) k=(aN P n ρ h e fun o h=>fg (GR h o) k):=rfl
theorem fO:aN P (n+1) ρ h (.call f es) k=(cp P n ρ h es fun vs h=>aD P n h f vs k):=rfl
theorem ze:aN P (n+1) ρ h (.new x es) k=(cp P n ρ h es fun vs h=>on (P.init x) fun f=>aD P n (h.aQ x) f (.ref x (some h.ni)::vs) fun r h'=>fg (whole P x h.ni r h') k):=rfl
theorem jy:aN P (n+1) ρ h (.meth e m es) k=(aN P n ρ h e fun o h=>iS P n ρ h m es k o):=rfl
theorem oW:aN P (n+1) ρ h (.blt bl es) k=(cp P n ρ h es fun vs h=>fg (i9 h bl vs) k):=rfl
theorem GO:aN P (n+1) ρ h (.isB e) k=(aN P n ρ h e fun x h=>on (Eo x) fun b=>k (.bool b) h):=rfl
theorem E8:iS P (n+1) ρ h m es k (.list j)=fork (nZ (.list j) m) (cp P n ρ h es fun vs h=>fg (vg h (.list j) m vs) k) False:=rfl
theorem LH:iS P (n+1) ρ h m es k (.dict j)=fork (nZ (.dict j) m) (cp P n ρ h es fun vs h=>fg (vg h (.dict j) m vs) k) False:=rfl
theorem II:iS P (n+1) ρ h m es k (.ref x (some j))=(on (P.meth x m) fun f=>cp P n ρ h es fun vs h=>aD P n h f (.ref x (some j)::vs) k):=rfl
theorem pF:dK P (n+1) ρ h tg bs v j kf=(on (itemAt h v j) fun r=>match r with
  |none=>kf .next ρ h
  |some v'=>bZ P n ρ h tg v' fun ρ h=>aC P n ρ h bs fun f ρ h=>goes f (fun v=>kf (.ret v) ρ h) (dK P n ρ h tg bs v (j+1) kf)):=rfl
theorem ul:cp P (n+1) ρ h (e::r) ks=(aN P n ρ h e fun v h=>cp P n ρ h r fun vs h=>ks (v::vs) h):=rfl
theorem FE:gv P (n+1) ρ h cb [e] k=(aN P n ρ h e k):=rfl
theorem Cb:gv P (n+1) ρ h cb (e::a::r) k=(aN P n ρ h e fun v h=>pk v fun b=>same b cb (gv P n ρ h cb (a::r) k) (k v h)):=rfl
theorem sG:cC P (n+1) ρ h (.not e) kb=(cC P n ρ h e fun b h=>kb (!b) h):=rfl
theorem ub:cC P (n+1) ρ h (.bool2 cb es) kb=(cD P n ρ h cb es kb):=rfl
theorem Cd:cC P (n+1) ρ h (.ite t a b) kb=(cC P n ρ h t fun c h=>fork c (cC P n ρ h a kb) (cC P n ρ h b kb)):=rfl
theorem sk:cD P (n+1) ρ h cb (e::r) kb=(cC P n ρ h e fun b h=>same b cb (cD P n ρ h cb r kb) (kb b h)):=rfl
theorem zt:aD P (n+1) h f vs k=(on (P.fn f) fun F=>on (binds F.ps F.ds vs) fun ρ=>aC P n ρ h F.body fun r _ h=>goes r (fun v=>k v h) (k .none h)):=rfl
theorem nj:bZ P (n+1) ρ h (.var x) v ka=(ka (upd ρ x v) h):=rfl
theorem dE:bZ P (n+1) ρ h (.attr e x) v ka=(aN P n ρ h e fun o h=>on (pH P h o x v) fun h=>ka ρ h):=rfl
theorem DN:bZ P (n+1) ρ h (.sub e i) v ka=(aN P n ρ h e fun o h=>aN P n ρ h i fun j h=>on (FG h o j v) fun h=>ka ρ h):=rfl
theorem mc:bZ P (n+1) ρ h (.slice e lo hi) v ka=(aN P n ρ h e fun o h=>aN P n ρ h lo fun a h=>aN P n ρ h hi fun b h=>on (td h o a b v) fun h=>ka ρ h):=rfl
theorem Eh:bZ P (n+1) ρ h (.tup xs) v ka=(on (h.seq v) fun vs=>on (cw ρ xs vs) fun ρ=>ka ρ h):=rfl
theorem dg:mW P (n+1) ρ h (.asg tg e) kf=(aN P n ρ h e fun v h=>bZ P n ρ h tg v fun ρ h=>kf .next ρ h):=rfl
theorem lE:mW P (n+1) ρ h (.expr e) kf=(aN P n ρ h e fun _ h=>kf .next ρ h):=rfl
theorem nI:mW P (n+1) ρ h (.ret e) kf=(aN P n ρ h e fun v h=>kf (.ret v) ρ h):=rfl
theorem ye:mW P (n+1) ρ h (.ret0) kf=(kf (.ret .none) ρ h):=rfl
theorem nH:mW P (n+1) ρ h (.ite t bs cs) kf=(cC P n ρ h t fun c h=>fork c (aC P n ρ h bs kf) (aC P n ρ h cs kf)):=rfl
theorem tJ:mW P (n+1) ρ h (.while t bs) kf=(fi P n ρ h t bs kf):=rfl
theorem nT:mW P (n+1) ρ h (.for tg it bs) kf=(aN P n ρ h it fun v h=>dK P n ρ h tg bs v 0 kf):=rfl
theorem bq:aC P (n+1) ρ h (s::ss) kf=(mW P n ρ h s fun f ρ h=>goes f (fun v=>kf (.ret v) ρ h) (aC P n ρ h ss kf)):=rfl
theorem zT:fi P (n+1) ρ h t bs kf=(cC P n ρ h t fun c h=>fork c (aC P n ρ h bs fun f ρ h=>goes f (fun v=>kf (.ret v) ρ h) (fi P n ρ h t bs kf)) (kf .next ρ h)):=rfl
theorem db{x:Option α}(h:on x kA):∃a,x=some a/\kA a:=by
 cases x with
 |none=>exact h.elim
 |some a=>exact⟨a,rfl,h⟩
theorem gf{x:Option (α×β)}(h:fg x kAB):∃a b,x=some (a,b)/\kAB a b:=by
 cases x with
 |none=>exact h.elim
 |some p=>exact⟨p.1,p.2,rfl,h⟩
theorem pw(h:pk v kA'):∃b,v= .bool b/\kA' b:=by
 unfold pk at h
 split at h
 ·exact⟨_,rfl,h⟩
 ·exact h.elim
theorem BK:on (some xa) kA=(kA xa):=rfl
theorem bx:fork true pp qq=(pp):=rfl
end
set_option genInjectivity true
noncomputable def f3:Fn:=⟨[65],[],
 [.ite (.cmp (.attr (.var 65) 66) .eq (.int 0)) [.ret0] [],
  .asg (.attr (.var 65) 67) (.bop .add (.attr (.var 65) 67) (.attr (.var 65) 66)),
  .asg (.attr (.var 65) 68) (.bop .add (.attr (.var 65) 68) (.attr (.var 65) 66)),
  .asg (.attr (.var 65) 69) (.bop .add (.attr (.var 65) 69) (.attr (.var 65) 66)),
  .for (.var 70) (.tup [.attr (.var 65) 71, .attr (.var 65) 72]) [.ite (.cmp (.var 70) .isNot .none) [.asg (.attr (.var 70) 66) (.bop .add (.attr (.var 70) 66) (.attr (.var 65) 66))] []],
  .asg (.attr (.var 65) 66) (.int 0)]⟩
noncomputable def f4:Fn:=⟨[65],[],
 [.asg (.var 73) (.list []),
  .while (.cmp (.var 65) .isNot .none) [.expr (.meth (.var 73) 0 [.var 65]), .asg (.var 65) (.attr (.var 65) 74)],
  .for (.var 75) (.rev (.var 73)) [.expr (.call 3 [.var 75])]]⟩
noncomputable def f5:Fn:=⟨[65],[],
 [.asg (.var 76) (.attr (.var 65) 68),
  .for (.var 70) (.tup [.attr (.var 65) 71, .attr (.var 65) 72]) [.ite (.cmp (.var 70) .isNot .none) [.asg (.var 76) (.blt .max [.var 76, .bop .add (.attr (.var 70) 69) (.attr (.var 70) 66)])] []],
  .ret (.var 76)]⟩
noncomputable def f6:Fn:=⟨[65],[],
 [.while (.cmp (.var 65) .isNot .none) [.asg (.var 69) (.call 5 [.var 65]), .ite (.cmp (.var 69) .eq (.attr (.var 65) 69)) [.ret0] [], .asg (.attr (.var 65) 69) (.var 69), .asg (.var 65) (.attr (.var 65) 74)]]⟩
noncomputable def f7:Fn:=⟨[77,74,65,78],[],
 [.ite (.cmp (.var 74) .is .none) [.asg (.attr (.var 77) 79) (.var 78)] [.ite (.cmp (.attr (.var 74) 71) .is (.var 65)) [.asg (.attr (.var 74) 71) (.var 78)] [.asg (.attr (.var 74) 72) (.var 78)]],
  .ite (.cmp (.var 78) .isNot .none) [.asg (.attr (.var 78) 74) (.var 74)] []]⟩
noncomputable def f8:Fn:=⟨[77,65],[],
 [.asg (.var 70) (.attr (.var 65) 72),
  .expr (.call 3 [.var 65]),
  .expr (.call 3 [.var 70]),
  .asg (.attr (.var 65) 72) (.attr (.var 70) 71),
  .ite (.cmp (.attr (.var 70) 71) .isNot .none) [.asg (.attr (.attr (.var 70) 71) 74) (.var 65)] [],
  .expr (.call 7 [.var 77, .attr (.var 65) 74, .var 65, .var 70]),
  .asg (.attr (.var 70) 71) (.var 65),
  .asg (.attr (.var 65) 74) (.var 70),
  .asg (.attr (.var 65) 69) (.call 5 [.var 65]),
  .asg (.attr (.var 70) 69) (.call 5 [.var 70])]⟩
noncomputable def f9:Fn:=⟨[77,65],[],
 [.asg (.var 70) (.attr (.var 65) 71),
  .expr (.call 3 [.var 65]),
  .expr (.call 3 [.var 70]),
  .asg (.attr (.var 65) 71) (.attr (.var 70) 72),
  .ite (.cmp (.attr (.var 70) 72) .isNot .none) [.asg (.attr (.attr (.var 70) 72) 74) (.var 65)] [],
  .expr (.call 7 [.var 77, .attr (.var 65) 74, .var 65, .var 70]),
  .asg (.attr (.var 70) 72) (.var 65),
  .asg (.attr (.var 65) 74) (.var 70),
  .asg (.attr (.var 65) 69) (.call 5 [.var 65]),
  .asg (.attr (.var 70) 69) (.call 5 [.var 70])]⟩
noncomputable def PY:Fn:=⟨[65],[],
 [.ret (.bool2 true [.cmp (.var 65) .isNot .none, .attr (.var 65) 10])]⟩
noncomputable def Pn:Fn:=⟨[77,65],[],
 [.while (.call 10 [.attr (.var 65) 74]) [.asg (.var 74) (.attr (.var 65) 74), .asg (.var 80) (.attr (.var 74) 74), .asg (.var 81) (.cmp (.attr (.var 80) 71) .is (.var 74)), .asg (.var 82) (.ite (.var 81) (.attr (.var 80) 72) (.attr (.var 80) 71)), .ite (.call 10 [.var 82]) [.asg (.attr (.var 74) 10) (.bool false), .asg (.attr (.var 82) 10) (.bool false), .asg (.attr (.var 80) 10) (.bool true), .asg (.var 65) (.var 80)] [.asg (.var 65) (.call 12 [.var 77, .var 65, .var 81]), .asg (.attr (.attr (.var 65) 74) 10) (.bool false), .asg (.attr (.var 80) 10) (.bool true), .ite (.var 81) [.expr (.call 9 [.var 77, .var 80])] [.expr (.call 8 [.var 77, .var 80])]]],
  .asg (.attr (.attr (.var 77) 79) 10) (.bool false)]⟩
noncomputable def PO:Fn:=⟨[77,65,81],[],
 [.asg (.var 74) (.attr (.var 65) 74),
  .ite (.bool2 true [.var 81, .cmp (.attr (.var 74) 72) .is (.var 65)]) [.expr (.call 8 [.var 77, .var 74]), .ret (.var 74)] [],
  .ite (.bool2 true [.not (.var 81), .cmp (.attr (.var 74) 71) .is (.var 65)]) [.expr (.call 9 [.var 77, .var 74]), .ret (.var 74)] [],
  .ret (.var 65)]⟩
noncomputable def Qq:Fn:=⟨[77,65],[],
 [.asg (.attr (.var 77) 83) (.bop .add (.attr (.var 77) 83) (.int 1)),
  .asg (.attr (.var 65) 71) .none,
  .asg (.attr (.var 65) 72) .none,
  .asg (.attr (.var 65) 74) .none,
  .asg (.attr (.var 65) 66) (.int 0),
  .asg (.attr (.var 65) 69) (.attr (.var 65) 68),
  .ite (.cmp (.attr (.var 77) 79) .is .none) [.asg (.attr (.var 65) 10) (.bool false), .asg (.attr (.var 77) 79) (.var 65), .ret0] [],
  .asg (.var 75) (.attr (.var 77) 79),
  .asg (.var 74) .none,
  .asg (.var 81) (.bool false),
  .while (.cmp (.var 75) .isNot .none) [.expr (.call 3 [.var 75]), .asg (.attr (.var 75) 69) (.blt .max [.attr (.var 75) 69, .attr (.var 65) 68]), .asg (.var 74) (.var 75), .asg (.var 81) (.cmp (.attr (.var 65) 67) .le (.attr (.var 75) 67)), .asg (.var 75) (.ite (.var 81) (.attr (.var 75) 71) (.attr (.var 75) 72))],
  .asg (.attr (.var 65) 74) (.var 74),
  .ite (.var 81) [.asg (.attr (.var 74) 71) (.var 65)] [.asg (.attr (.var 74) 72) (.var 65)],
  .asg (.attr (.var 65) 10) (.bool true),
  .expr (.call 11 [.var 77, .var 65])]⟩
noncomputable def PC:Fn:=⟨[65],[],
 [.expr (.call 3 [.var 65]),
  .while (.cmp (.attr (.var 65) 71) .isNot .none) [.asg (.var 65) (.attr (.var 65) 71), .expr (.call 3 [.var 65])],
  .ret (.var 65)]⟩
noncomputable def P2:Fn:=⟨[77,65,78],[],
 [.expr (.call 7 [.var 77, .attr (.var 65) 74, .var 65, .var 78]),
  .asg (.attr (.var 78) 71) (.attr (.var 65) 71),
  .asg (.attr (.var 78) 72) (.attr (.var 65) 72),
  .asg (.attr (.var 78) 10) (.attr (.var 65) 10),
  .for (.var 70) (.tup [.attr (.var 78) 71, .attr (.var 78) 72]) [.ite (.cmp (.var 70) .isNot .none) [.asg (.attr (.var 70) 74) (.var 78)] []],
  .asg (.attr (.var 78) 69) (.call 5 [.var 78])]⟩
noncomputable def PF:Fn:=⟨[77,65],[],
 [.asg (.attr (.var 77) 83) (.bop .sub (.attr (.var 77) 83) (.int 1)),
  .expr (.call 4 [.var 65]),
  .asg (.var 84) (.var 65),
  .ite (.bool2 true [.cmp (.attr (.var 65) 71) .isNot .none, .cmp (.attr (.var 65) 72) .isNot .none]) [.asg (.var 84) (.call 14 [.attr (.var 65) 72])] [],
  .asg (.var 70) (.ite (.cmp (.attr (.var 84) 71) .isNot .none) (.attr (.var 84) 71) (.attr (.var 84) 72)),
  .asg (.var 74) (.attr (.var 84) 74),
  .asg (.var 85) (.attr (.var 84) 10),
  .expr (.call 7 [.var 77, .var 74, .var 84, .var 70]),
  .ite (.cmp (.var 84) .isNot (.var 65)) [.expr (.call 15 [.var 77, .var 65, .var 84]), .asg (.var 74) (.ite (.cmp (.var 74) .is (.var 65)) (.var 84) (.var 74))] [],
  .asg (.var 75) (.var 74),
  .while (.cmp (.var 75) .isNot .none) [.asg (.attr (.var 75) 69) (.call 5 [.var 75]), .asg (.var 75) (.attr (.var 75) 74)],
  .ite (.not (.var 85)) [.expr (.call 17 [.var 77, .var 70, .var 74])] [],
  .asg (.attr (.var 65) 71) .none,
  .asg (.attr (.var 65) 72) .none,
  .asg (.attr (.var 65) 74) .none]⟩
noncomputable def Pw:Fn:=⟨[77,65,74],[],
 [.while (.bool2 true [.cmp (.var 65) .isNot (.attr (.var 77) 79), .not (.call 10 [.var 65])]) [.asg (.var 81) (.cmp (.attr (.var 74) 71) .is (.var 65)), .asg (.var 65) (.call 20 [.var 77, .var 65, .var 74, .var 81]), .ite (.cmp (.var 65) .is .none) [.ret0] [], .asg (.var 74) (.attr (.var 65) 74)],
  .ite (.cmp (.var 65) .isNot .none) [.asg (.attr (.var 65) 10) (.bool false)] []]⟩
noncomputable def Qu:Fn:=⟨[74,81],[],
 [.ret (.ite (.var 81) (.attr (.var 74) 72) (.attr (.var 74) 71))]⟩
noncomputable def Pm:Fn:=⟨[77,65,81],[],
 [.ite (.var 81) [.expr (.call 8 [.var 77, .var 65])] [.expr (.call 9 [.var 77, .var 65])]]⟩
noncomputable def QH:Fn:=⟨[77,65,74,81],[],
 [.asg (.var 78) (.call 18 [.var 74, .var 81]),
  .ite (.call 10 [.var 78]) [.asg (.attr (.var 78) 10) (.bool false), .asg (.attr (.var 74) 10) (.bool true), .expr (.call 19 [.var 77, .var 74, .var 81]), .asg (.var 78) (.call 18 [.var 74, .var 81])] [],
  .asg (.var 86) (.ite (.var 81) (.attr (.var 78) 72) (.attr (.var 78) 71)),
  .asg (.var 87) (.ite (.var 81) (.attr (.var 78) 71) (.attr (.var 78) 72)),
  .ite (.bool2 true [.not (.call 10 [.var 86]), .not (.call 10 [.var 87])]) [.asg (.attr (.var 78) 10) (.bool true), .ite (.bool2 false [.attr (.var 74) 10, .cmp (.var 74) .is (.attr (.var 77) 79)]) [.asg (.attr (.var 74) 10) (.bool false), .ret .none] [], .ret (.var 74)] [],
  .ite (.not (.call 10 [.var 86])) [.asg (.attr (.var 87) 10) (.bool false), .asg (.attr (.var 78) 10) (.bool true), .expr (.call 19 [.var 77, .var 78, .not (.var 81)]), .asg (.var 78) (.call 18 [.var 74, .var 81]), .asg (.var 86) (.ite (.var 81) (.attr (.var 78) 72) (.attr (.var 78) 71))] [],
  .asg (.attr (.var 78) 10) (.attr (.var 74) 10),
  .asg (.attr (.var 74) 10) (.bool false),
  .asg (.attr (.var 86) 10) (.bool false),
  .expr (.call 19 [.var 77, .var 74, .var 81]),
  .ret .none]⟩
noncomputable def PD:Fn:=⟨[77,67,68],[],
 [.asg (.var 76) (.list []),
  .asg (.var 88) (.list []),
  .asg (.var 65) (.attr (.var 77) 79),
  .while (.bool2 false [.cmp (.var 65) .isNot .none, .cmp (.blt .len [.var 88]) .gt (.int 0)]) [.while (.cmp (.var 65) .isNot .none) [.expr (.call 3 [.var 65]), .ite (.cmp (.attr (.var 65) 69) .lt (.var 67)) [.asg (.var 65) .none] [.expr (.meth (.var 88) 0 [.var 65]), .asg (.var 65) (.attr (.var 65) 71)]], .ite (.cmp (.blt .len [.var 88]) .gt (.int 0)) [.asg (.var 65) (.meth (.var 88) 1 []), .ite (.bool2 true [.cmp (.attr (.var 65) 67) .le (.var 68), .cmp (.attr (.var 65) 68) .ge (.var 67)]) [.expr (.meth (.var 76) 0 [.var 65])] [], .asg (.var 65) (.ite (.cmp (.attr (.var 65) 67) .le (.var 68)) (.attr (.var 65) 72) .none)] []],
  .ret (.var 76)]⟩
noncomputable def Oa:Fn:=⟨[65,89,90],[],
 [.ite (.cmp (.attr (.var 65) 67) .ne (.var 89)) [.ret (.bool false)] [],
  .ite (.var 90) [.ret (.bool true)] [],
  .ret (.bool2 true [.attr (.var 65) 91, .bool2 false [.cmp (.attr (.var 65) 67) .ne (.attr (.var 65) 68), .attr (.var 65) 92]])]⟩
noncomputable def Nq:Fn:=⟨[65,89,90],[],
 [.ret (.bool2 false [.cmp (.attr (.var 65) 68) .gt (.var 89), .bool2 true [.cmp (.attr (.var 65) 68) .eq (.var 89), .bool2 false [.var 90, .attr (.var 65) 92]]])]⟩
noncomputable def Pj:Fn:=⟨[77,89,93,90],[],
 [.ite (.cmp (.var 93) .le (.int 0)) [.ret0] [],
  .asg (.var 94) (.comp (.var 65) 65 (.call 21 [.var 77, .var 89, .var 89]) [.call 22 [.var 65, .var 89, .var 90]]),
  .for (.var 65) (.var 94) [.expr (.call 16 [.var 77, .var 65])],
  .expr (.call 25 [.var 77, .var 89, .var 93, .var 90]),
  .for (.var 65) (.var 94) [.ite (.bool2 false [.cmp (.attr (.var 65) 68) .ne (.var 89), .attr (.var 65) 92, .var 90]) [.asg (.attr (.var 65) 68) (.bop .add (.attr (.var 65) 68) (.var 93))] [], .asg (.attr (.var 65) 67) (.bop .add (.attr (.var 65) 67) (.var 93)), .expr (.call 13 [.var 77, .var 65])]]⟩
noncomputable def Pz:Fn:=⟨[77,89,93,90],[],
 [.asg (.var 88) (.list [.attr (.var 77) 79]),
  .while (.cmp (.blt .len [.var 88]) .gt (.int 0)) [.asg (.var 65) (.meth (.var 88) 1 []), .ite (.cmp (.var 65) .isNot .none) [.expr (.call 3 [.var 65]), .ite (.cmp (.attr (.var 65) 69) .ge (.var 89)) [.ite (.bool2 true [.cmp (.attr (.var 65) 72) .isNot .none, .cmp (.attr (.var 65) 67) .gt (.var 89)]) [.asg (.attr (.attr (.var 65) 72) 66) (.bop .add (.attr (.attr (.var 65) 72) 66) (.var 93))] [.expr (.meth (.var 88) 0 [.attr (.var 65) 72])], .expr (.meth (.var 88) 0 [.attr (.var 65) 71]), .ite (.cmp (.attr (.var 65) 67) .gt (.var 89)) [.asg (.attr (.var 65) 67) (.bop .add (.attr (.var 65) 67) (.var 93))] [], .ite (.call 23 [.var 65, .var 89, .var 90]) [.asg (.attr (.var 65) 68) (.bop .add (.attr (.var 65) 68) (.var 93))] [], .expr (.call 6 [.var 65])] []] []]]⟩
noncomputable def PX:Fn:=⟨[77,89,93],[],
 [.ite (.cmp (.var 93) .le (.int 0)) [.ret0] [],
  .asg (.var 88) (.list [.attr (.var 77) 79]),
  .while (.cmp (.blt .len [.var 88]) .gt (.int 0)) [.asg (.var 65) (.meth (.var 88) 1 []), .ite (.cmp (.var 65) .isNot .none) [.expr (.call 3 [.var 65]), .ite (.cmp (.attr (.var 65) 69) .gt (.var 89)) [.ite (.bool2 true [.cmp (.attr (.var 65) 72) .isNot .none, .cmp (.attr (.var 65) 67) .gt (.bop .add (.var 89) (.var 93))]) [.asg (.attr (.attr (.var 65) 72) 66) (.bop .sub (.attr (.attr (.var 65) 72) 66) (.var 93))] [.expr (.meth (.var 88) 0 [.attr (.var 65) 72])], .expr (.meth (.var 88) 0 [.attr (.var 65) 71]), .ite (.cmp (.attr (.var 65) 67) .gt (.var 89)) [.asg (.attr (.var 65) 67) (.blt .max [.var 89, .bop .sub (.attr (.var 65) 67) (.var 93)])] [], .ite (.cmp (.attr (.var 65) 68) .gt (.var 89)) [.asg (.attr (.var 65) 68) (.blt .max [.var 89, .bop .sub (.attr (.var 65) 68) (.var 93)])] [], .expr (.call 6 [.var 65])] []] []]]⟩
noncomputable def Nk:Fn:=⟨[95,78],[],
 [.ite (.bool2 false [.isB (.var 95), .isB (.var 78)]) [.ret (.bool2 true [.isB (.var 95), .isB (.var 78), .cmp (.var 95) .eq (.var 78)])] [],
  .ret (.cmp (.var 95) .eq (.var 78))]⟩
noncomputable def N9:Fn:=⟨[96,97],[],
 [.for (.var 89) (.blt .range [.blt .len [.var 96]]) [.ite (.cmp (.sub (.sub (.var 96) (.var 89)) (.int 0)) .eq (.var 97)) [.ret (.var 89)] []],
  .ret (.neg (.int 1))]⟩
noncomputable def Ob:Fn:=⟨[96,97],[],
 [.asg (.var 89) (.call 28 [.var 96, .var 97]),
  .ret (.ite (.cmp (.var 89) .ge (.int 0)) (.tup [.sub (.sub (.var 96) (.var 89)) (.int 1)]) .none)]⟩
noncomputable def M5:Fn:=⟨[96,97,98],[],
 [.asg (.var 89) (.call 28 [.var 96, .var 97]),
  .ite (.cmp (.var 89) .lt (.int 0)) [.ret (.bop .add (.var 96) (.list [.tup [.var 97, .var 98]]))] [],
  .ret (.bop .add (.bop .add (.slice (.var 96) .none (.var 89)) (.list [.tup [.var 97, .var 98]])) (.slice (.var 96) (.bop .add (.var 89) (.int 1)) .none))]⟩
noncomputable def OA:Fn:=⟨[96,97,98],[],
 [.asg (.var 89) (.call 28 [.var 96, .var 97]),
  .ret (.bool2 true [.cmp (.var 89) .ge (.int 0), .call 27 [.sub (.sub (.var 96) (.var 89)) (.int 1), .var 98]])]⟩
noncomputable def f32:Fn:=⟨[99,96,97],[],
 [.asg (.var 76) (.call 29 [.var 96, .var 97]),
  .ite (.cmp (.var 76) .is .none) [.asg (.var 100) (.call 29 [.var 96, .attr (.var 99) 100]), .ite (.bool2 true [.cmp (.var 100) .isNot .none, .cmp (.meth (.attr (.var 99) 101) 102 [.sub (.var 100) (.int 0)]) .ge (.int 0)]) [.asg (.var 76) (.meth (.attr (.var 99) 101) 103 [.sub (.var 100) (.int 0), .var 97])] []] [],
  .ret (.ite (.cmp (.var 76) .is .none) (.attr (.var 99) 104) (.sub (.var 76) (.int 0)))]⟩
noncomputable def Ow:Fn:=⟨[105],[],
 [.expr (.call 4 [.attr (.var 105) 65]),
  .ret (.attr (.attr (.var 105) 65) 67)]⟩
noncomputable def OT:Fn:=⟨[105],[],
 [.expr (.call 4 [.attr (.var 105) 65]),
  .ret (.attr (.attr (.var 105) 65) 68)]⟩
noncomputable def NY:Fn:=⟨[105],[],
 [.ite (.cmp (.attr (.var 105) 106) .isNot .none) [.expr (.call 16 [.attr (.attr (.var 105) 106) 77, .attr (.var 105) 65]), .expr (.meth (.attr (.attr (.var 105) 106) 107) 1 [.attr (.var 105) 97]), .asg (.attr (.var 105) 106) .none] []]⟩
noncomputable def NZ:Fn:=⟨[105,106,67,68],[],
 [.expr (.call 35 [.var 105]),
  .asg (.attr (.attr (.var 105) 65) 67) (.blt .min [.var 67, .var 68]),
  .asg (.attr (.attr (.var 105) 65) 68) (.blt .max [.var 67, .var 68]),
  .asg (.attr (.var 105) 106) (.var 106),
  .asg (.sub (.attr (.var 106) 107) (.attr (.var 105) 97)) (.var 105),
  .expr (.call 13 [.attr (.var 106) 77, .attr (.var 105) 65])]⟩
noncomputable def O0:Fn:=⟨[106,97,67,68,91,92],[],
 [.asg (.var 76) (.new 108 [.var 97, .var 91, .var 92]),
  .expr (.call 36 [.var 76, .var 106, .var 67, .var 68]),
  .ret (.var 76)]⟩
noncomputable def M7:Fn:=⟨[99,105,97],[],
 [.ret (.call 32 [.var 99, .attr (.var 105) 96, .var 97])]⟩
noncomputable def Ni:Fn:=⟨[99,105],[],
 [.ret (.not (.meth (.var 99) 109 [.call 38 [.var 99, .var 105, .attr (.var 99) 110]]))]⟩
noncomputable def J6:Fn:=⟨[99,105,97,98],[],
 [.asg (.var 111) (.not (.call 31 [.attr (.var 105) 96, .var 97, .var 98])),
  .ite (.var 111) [.asg (.attr (.var 105) 96) (.call 30 [.attr (.var 105) 96, .var 97, .var 98])] [],
  .ite (.bool2 true [.cmp (.var 97) .eq (.attr (.var 99) 110), .not (.meth (.var 99) 109 [.var 98]), .cmp (.attr (.var 105) 106) .isNot .none]) [.ite (.cmp (.call 33 [.var 105]) .eq (.call 34 [.var 105])) [.expr (.call 35 [.var 105])] []] [],
  .ret (.var 111)]⟩
noncomputable def OE:Fn:=⟨[106,112],[],
 [.ret (.comp (.sub (.attr (.var 106) 107) (.attr (.var 65) 97)) 65 (.var 112) [])]⟩
noncomputable def OK:Fn:=⟨[106,89],[],
 [.ret (.call 41 [.var 106, .comp (.var 65) 65 (.call 21 [.attr (.var 106) 77, .var 89, .var 89]) [.cmp2 (.attr (.var 65) 67) .le (.var 89) .lt (.attr (.var 65) 68)]])]⟩
noncomputable def NR:Fn:=⟨[106,89,93],[],
 [.ite (.cmp (.var 93) .le (.int 0)) [.ret0] [],
  .expr (.call 26 [.attr (.var 106) 77, .var 89, .var 93]),
  .for (.var 105) (.call 41 [.var 106, .call 21 [.attr (.var 106) 77, .var 89, .var 89]]) [.ite (.bool2 true [.cmp (.attr (.attr (.var 105) 65) 67) .eq (.attr (.attr (.var 105) 65) 68), .call 39 [.attr (.var 106) 99, .var 105]]) [.expr (.call 35 [.var 105])] []]]⟩
noncomputable def Of:Fn:=⟨[113],[],
 [.ite (.attr (.var 113) 114) [.bad] []]⟩
noncomputable def Nt:Fn:=⟨[113,115],[],
 [.ite (.cmp (.bop .add (.meth (.var 113) 116 []) (.var 115)) .gt (.glob 117)) [.bad] []]⟩
noncomputable def Ny:Fn:=⟨[113,118,68],[],
 [.asg (.tup [119,120]) (.tup [.blt .min [.var 118, .var 68], .blt .max [.var 118, .var 68]]),
  .ite (.bool2 false [.cmp (.var 119) .lt (.attr (.var 113) 121), .cmp (.var 120) .gt (.attr (.var 113) 122)]) [.bad] [],
  .ret (.tup [.var 119, .var 120])]⟩
noncomputable def O8:Fn:=⟨[113,118,68],[],
 [.for (.var 123) (.blt .list [.attr (.var 113) 124]) [.expr (.meth (.var 123) 125 [.var 113, .var 118, .var 68])]]⟩
noncomputable def Na:Fn:=⟨[113,118,68,126],[],
 [.expr (.meth (.var 113) 127 [.bool true]),
  .for (.var 123) (.blt .list [.attr (.var 113) 124]) [.expr (.meth (.var 123) 128 [.var 113, .var 118, .var 68, .var 126])]]⟩
noncomputable def NV:Fn:=⟨[113,118,68],[],
 [.ite (.cmp (.attr (.var 113) 129) .isNot .none) [.expr (.meth (.attr (.var 113) 129) 130 [.var 113, .var 118, .var 68])] [],
  .asg (.var 84) (.meth (.attr (.var 113) 131) 56 [.bop .sub (.var 118) (.int 1), .bop .sub (.var 68) (.int 1)]),
  .asg (.attr (.var 113) 122) (.bop .sub (.attr (.var 113) 122) (.bop .sub (.var 68) (.var 118))),
  .ite (.cmp (.attr (.var 113) 132) .gt (.var 118)) [.asg (.attr (.var 113) 132) (.blt .max [.var 118, .bop .sub (.attr (.var 113) 132) (.bop .sub (.var 68) (.var 118))])] [],
  .ret (.var 84)]⟩
noncomputable def OF:Fn:=⟨[113,133,134],[],
 [.ite (.cmp (.attr (.var 113) 129) .isNot .none) [.expr (.meth (.attr (.var 113) 129) 135 [.var 113, .var 133, .blt .len [.var 134]])] [],
  .expr (.meth (.attr (.var 113) 131) 55 [.bop .sub (.var 133) (.int 1), .var 134]),
  .asg (.attr (.var 113) 122) (.bop .add (.attr (.var 113) 122) (.blt .len [.var 134])),
  .ite (.cmp (.attr (.var 113) 132) .gt (.var 133)) [.asg (.attr (.var 113) 132) (.bop .add (.attr (.var 113) 132) (.blt .len [.var 134]))] []]⟩
noncomputable def Pc:Fn:=⟨[113,118,68],[],
 [.ite (.cmp (.attr (.var 113) 136) .isNot .none) [.expr (.meth (.attr (.var 113) 136) 137 [.bop .sub (.var 118) (.int 1), .bop .sub (.var 68) (.int 1)])] [],
  .ite (.cmp (.attr (.var 113) 107) .isNot .none) [.expr (.meth (.attr (.var 113) 107) 137 [.bop .sub (.var 118) (.int 1), .bop .sub (.var 68) (.int 1)])] []]⟩
noncomputable def NK:Fn:=⟨[113,133,93,90],[],
 [.ite (.cmp (.attr (.var 113) 136) .isNot .none) [.expr (.meth (.attr (.var 113) 136) 138 [.bop .sub (.var 133) (.int 1), .var 93])] [],
  .ite (.cmp (.attr (.var 113) 107) .isNot .none) [.expr (.meth (.attr (.var 113) 107) 138 [.bop .sub (.var 133) (.int 1), .var 93, .var 90])] []]⟩
noncomputable def NB:Fn:=⟨[113,133,134,90,139],[],
 [.expr (.call 44 [.var 113]),
  .expr (.call 46 [.var 113, .var 133, .var 133]),
  .ite (.cmp (.blt .len [.var 134]) .eq (.int 0)) [.ret0] [],
  .expr (.call 45 [.var 113, .blt .len [.var 134]]),
  .expr (.call 47 [.var 113, .var 133, .var 133]),
  .expr (.call 50 [.var 113, .var 133, .var 134]),
  .ite (.var 139) [.asg (.attr (.var 113) 132) (.bop .add (.var 133) (.blt .len [.var 134]))] [],
  .expr (.meth (.attr (.var 113) 140) 141 [.var 133, .bop .add (.var 133) (.blt .len [.var 134]), .var 90]),
  .expr (.call 52 [.var 113, .var 133, .blt .len [.var 134], .var 90]),
  .expr (.call 48 [.var 113, .var 133, .bop .add (.var 133) (.blt .len [.var 134]), .int 0])]⟩
noncomputable def IY:Fn:=⟨[113,133,134,90],[.bool false],
 [.expr (.call 53 [.var 113, .var 133, .var 134, .var 90, .bool false])]⟩
noncomputable def IV:Fn:=⟨[113,134,90],[.bool false],
 [.expr (.call 53 [.var 113, .attr (.var 113) 132, .var 134, .var 90, .bool true])]⟩
noncomputable def NF:Fn:=⟨[113,118,68],[],
 [.expr (.call 44 [.var 113]),
  .asg (.tup [119,120]) (.call 46 [.var 113, .var 118, .var 68]),
  .ite (.cmp (.var 119) .eq (.var 120)) [.ret (.list [])] [],
  .expr (.call 47 [.var 113, .var 119, .var 120]),
  .asg (.var 84) (.call 49 [.var 113, .var 119, .var 120]),
  .expr (.meth (.attr (.var 113) 140) 142 [.var 119, .var 120]),
  .expr (.call 51 [.var 113, .var 119, .var 120]),
  .expr (.call 48 [.var 113, .var 119, .var 119, .bop .sub (.var 120) (.var 119)]),
  .ret (.var 84)]⟩
noncomputable def IR:Fn:=⟨[113,118,68,134,143],[.none],
 [.expr (.call 44 [.var 113]),
  .asg (.tup [119,120]) (.call 46 [.var 113, .var 118, .var 68]),
  .ite (.cmp (.var 119) .eq (.var 120)) [.expr (.call 54 [.var 113, .var 119, .var 134]), .ret (.list [])] [],
  .ite (.cmp (.blt .len [.var 134]) .eq (.int 0)) [.ret (.call 56 [.var 113, .var 119, .var 120])] [],
  .expr (.call 45 [.var 113, .bop .sub (.blt .len [.var 134]) (.bop .sub (.var 120) (.var 119))]),
  .asg (.var 132) (.attr (.var 113) 132),
  .expr (.call 47 [.var 113, .var 119, .var 120]),
  .asg (.var 84) (.call 49 [.var 113, .var 119, .var 120]),
  .expr (.call 50 [.var 113, .var 119, .var 134]),
  .ite (.cmp (.var 132) .ge (.var 120)) [.asg (.attr (.var 113) 132) (.bop .sub (.bop .add (.var 132) (.blt .len [.var 134])) (.bop .sub (.var 120) (.var 119)))] [],
  .expr (.meth (.attr (.var 113) 140) 144 [.var 119, .var 120, .blt .len [.var 134]]),
  .expr (.call 52 [.var 113, .var 120, .blt .len [.var 134], .bool true]),
  .expr (.call 51 [.var 113, .var 119, .var 120]),
  .ite (.cmp (.var 143) .isNot .none) [.expr (.meth (.attr (.var 113) 136) 145 [.var 143])] [],
  .expr (.call 48 [.var 113, .var 119, .bop .add (.var 119) (.blt .len [.var 134]), .bop .sub (.var 120) (.var 119)]),
  .ret (.var 84)]⟩
noncomputable def Og:Fn:=⟨[146,93],[],
 [.asg (.sub (.var 146) (.int 1)) (.bop .add (.sub (.var 146) (.int 1)) (.int 1)),
  .ite (.cmp (.sub (.var 146) (.int 1)) .le (.blt .len [.sub (.var 146) (.int 0)])) [.ret (.bop .mod (.sub (.sub (.var 146) (.int 0)) (.bop .sub (.sub (.var 146) (.int 1)) (.int 1))) (.var 93))] [],
  .ret (.bop .mod (.bop .fdiv (.bop .add (.bop .add (.bop .mul (.bop .mul (.sub (.var 146) (.int 1)) (.sub (.var 146) (.int 1))) (.int 31)) (.bop .mul (.int 17) (.sub (.var 146) (.int 1)))) (.bop .mul (.int 5) (.blt .len [.sub (.var 146) (.int 0)]))) (.int 7)) (.var 93))]⟩
noncomputable def OB:Fn:=⟨[146,118,68],[],
 [.ite (.bool2 true [.cmp (.var 118) .lt (.var 68), .cmp (.call 58 [.var 146, .int 2]) .eq (.int 0)]) [.ret (.tup [.var 118, .var 68, .list [], .bool false])] [],
  .asg (.var 147) (.comp (.bop .add (.int 97) (.call 58 [.var 146, .int 6])) 148 (.blt .range [.bop .add (.int 1) (.call 58 [.var 146, .int 3])]) []),
  .ret (.tup [.var 118, .var 68, .var 147, .bool2 true [.cmp (.var 118) .eq (.var 68), .cmp (.call 58 [.var 146, .int 2]) .eq (.int 1)]])]⟩
noncomputable def I5:Fn:=⟨[149,150],[],
 [.asg (.var 151) (.new 152 [.new 153 [.int 900]]),
  .asg (.var 154) (.new 155 [.int 1, .str 95]),
  .expr (.call 55 [.var 154, .var 149]),
  .asg (.attr (.var 154) 107) (.new 156 [.var 151]),
  .asg (.var 157) (.list []),
  .for (.tup [119,120,158,159,160]) (.var 150) [.expr (.meth (.var 157) 0 [.call 37 [.attr (.var 154) 107, .blt .len [.var 157], .var 119, .var 120, .var 158, .var 159]]), .ite (.var 160) [.expr (.call 40 [.var 151, .sub (.var 157) (.neg (.int 1)), .attr (.var 151) 110, .bool true])] []],
  .ret (.tup [.var 154, .var 157])]⟩
noncomputable def M9:Fn:=⟨[154,161,162],[],
 [.asg (.tup [118,68,147,163]) (.var 161),
  .ite (.cmp (.var 118) .eq (.var 68)) [.expr (.call 54 [.var 154, .bop .add (.var 118) (.var 162), .var 147, .var 163])] [.ite (.cmp (.var 147) .eq (.list [])) [.expr (.call 56 [.var 154, .bop .add (.var 118) (.var 162), .bop .add (.var 68) (.var 162)])] [.expr (.call 57 [.var 154, .bop .add (.var 118) (.var 162), .bop .add (.var 68) (.var 162), .var 147])]]]⟩
noncomputable def Mq:Fn:=⟨[164,161,162],[],
 [.ite (.cmp (.var 164) .is .none) [.ret .none] [],
  .asg (.tup [119,120,158,159,160]) (.var 164),
  .asg (.tup [118,68,93]) (.tup [.bop .add (.bop .sub (.sub (.var 161) (.int 0)) (.int 1)) (.var 162), .bop .add (.bop .sub (.sub (.var 161) (.int 1)) (.int 1)) (.var 162), .blt .len [.sub (.var 161) (.int 2)]]),
  .ite (.bool2 true [.cmp (.var 118) .lt (.var 68), .cmp (.var 93) .gt (.int 0)]) [.asg (.tup [119,120]) (.comp (.ite (.cmp (.var 133) .ge (.var 68)) (.bop .add (.var 133) (.var 93)) (.var 133)) 133 (.tup [.var 119, .var 120]) [])] [],
  .ite (.cmp (.var 118) .lt (.var 68)) [.asg (.var 119) (.bop .sub (.var 119) (.blt .min [.blt .max [.bop .sub (.var 119) (.var 118), .int 0], .bop .sub (.var 68) (.var 118)])), .asg (.var 120) (.bop .sub (.var 120) (.blt .min [.blt .max [.bop .sub (.var 120) (.var 118), .int 0], .bop .sub (.var 68) (.var 118)])), .ite (.bool2 true [.cmp (.var 119) .eq (.var 120), .var 160]) [.ret .none] []] [],
  .ite (.bool2 true [.cmp (.var 93) .gt (.int 0), .cmp (.var 118) .eq (.var 68)]) [.asg (.var 165) (.bool2 false [.sub (.var 161) (.int 3), .var 159]), .asg (.var 166) (.bool2 false [.sub (.var 161) (.int 3), .bool2 true [.var 158, .bool2 false [.cmp (.var 119) .lt (.var 120), .var 159]]]), .asg (.tup [119,120]) (.tup [.ite (.bool2 false [.cmp (.var 119) .gt (.var 118), .bool2 true [.cmp (.var 119) .eq (.var 118), .var 166]]) (.bop .add (.var 119) (.var 93)) (.var 119), .ite (.bool2 false [.cmp (.var 120) .gt (.var 118), .bool2 true [.cmp (.var 120) .eq (.var 118), .var 165]]) (.bop .add (.var 120) (.var 93)) (.var 120)])] [],
  .ret (.tup [.var 119, .var 120, .var 158, .var 159, .var 160])]⟩
noncomputable def Pf:Fn:=⟨[154,157,167],[],
 [.for (.var 148) (.blt .range [.blt .len [.var 157]]) [.ite (.cmp (.sub (.var 167) (.var 148)) .is .none) [.ite (.bool2 false [.cmp (.attr (.sub (.var 157) (.var 148)) 106) .isNot .none, .cmp (.var 148) .wx (.attr (.attr (.var 154) 107) 107)]) [.ret (.bool false)] []] [.ite (.cmp (.tup [.call 33 [.sub (.var 157) (.var 148)], .call 34 [.sub (.var 157) (.var 148)]]) .ne (.slice (.sub (.var 167) (.var 148)) .none (.int 2))) [.ret (.bool false)] []]],
  .for (.var 133) (.blt .range [.bop .add (.meth (.var 154) 116 []) (.int 1)]) [.asg (.var 168) (.blt .sorted [.comp (.attr (.var 169) 97) 169 (.call 42 [.attr (.var 154) 107, .var 133]) []]), .ite (.cmp (.var 168) .ne (.comp (.var 148) 148 (.blt .range [.blt .len [.var 167]]) [.bool2 true [.cmp (.sub (.var 167) (.var 148)) .isNot .none, .cmp2 (.sub (.sub (.var 167) (.var 148)) (.int 0)) .le (.var 133) .lt (.sub (.sub (.var 167) (.var 148)) (.int 1))]])) [.ret (.bool false)] []],
  .ret (.bool true)]⟩
noncomputable def f64:Fn:=⟨[170],[],
 [.asg (.var 146) (.list [.comp (.blt .abs [.var 171]) 171 (.slice (.var 170) .none (.int 63)) [], .int 0]),
  .asg (.var 116) (.bop .add (.int 4) (.call 58 [.var 146, .int 7])),
  .asg (.tup [149,150]) (.tup [.comp (.bop .add (.int 65) (.call 58 [.var 146, .int 6])) 148 (.blt .range [.var 116]) [], .list []]),
  .for (.var 148) (.blt .range [.call 58 [.var 146, .int 5]]) [.asg (.var 119) (.call 58 [.var 146, .var 116]), .asg (.var 120) (.bop .add (.bop .add (.var 119) (.int 1)) (.call 58 [.var 146, .bop .sub (.var 116) (.var 119)])), .expr (.meth (.var 150) 0 [.tup [.var 119, .var 120, .cmp (.call 58 [.var 146, .int 2]) .eq (.int 1), .cmp (.call 58 [.var 146, .int 2]) .eq (.int 1), .cmp (.call 58 [.var 146, .int 3]) .eq (.int 0)]])],
  .asg (.var 172) (.bop .add (.int 2) (.call 58 [.var 146, .var 116])),
  .asg (.var 173) (.bop .add (.int 1) (.call 58 [.var 146, .bop .sub (.var 172) (.int 1)])),
  .asg (.var 174) (.bop .add (.int 1) (.call 58 [.var 146, .var 173])),
  .asg (.var 175) (.bop .add (.var 172) (.call 58 [.var 146, .bop .sub (.bop .add (.var 116) (.int 2)) (.var 172)])),
  .asg (.tup [95,78]) (.tup [.call 59 [.var 146, .var 174, .var 173], .call 59 [.var 146, .var 172, .var 175]]),
  .asg (.var 162) (.bop .sub (.blt .len [.sub (.var 95) (.int 2)]) (.bop .sub (.var 173) (.var 174))),
  .asg (.var 167) (.comp (.call 62 [.call 62 [.var 164, .var 95, .int 0], .var 78, .var 162]) 164 (.var 150) []),
  .ite (.cmp (.var 167) .ne (.comp (.call 62 [.call 62 [.var 164, .var 78, .int 0], .var 95, .int 0]) 164 (.var 150) [])) [.ret (.bool false)] [],
  .asg (.tup [154,157]) (.call 60 [.var 149, .var 150]),
  .asg (.tup [176,177]) (.call 60 [.var 149, .var 150]),
  .ite (.not (.call 63 [.var 154, .var 157, .var 150])) [.ret (.bool false)] [],
  .expr (.call 61 [.var 154, .var 95, .int 0]),
  .expr (.call 61 [.var 154, .var 78, .var 162]),
  .expr (.call 61 [.var 176, .var 78, .int 0]),
  .expr (.call 61 [.var 176, .var 95, .int 0]),
  .ret (.bool2 true [.call 63 [.var 154, .var 157, .var 167], .call 63 [.var 176, .var 177, .var 167]])]⟩
noncomputable def zD:Fn:=⟨[178,97,67,68,91,92],[],
 [.asg (.attr (.var 178) 97) (.var 97),
  .asg (.attr (.var 178) 67) (.var 67),
  .asg (.attr (.var 178) 68) (.var 68),
  .asg (.attr (.var 178) 91) (.var 91),
  .asg (.attr (.var 178) 92) (.var 92),
  .asg (.attr (.var 178) 69) (.var 68),
  .asg (.attr (.var 178) 66) (.int 0),
  .asg (.attr (.var 178) 10) (.bool false),
  .asg (.attr (.var 178) 71) .none,
  .asg (.attr (.var 178) 72) .none,
  .asg (.attr (.var 178) 74) .none]⟩
noncomputable def Ax:Fn:=⟨[178],[],
 [.asg (.attr (.var 178) 79) .none,
  .asg (.attr (.var 178) 83) (.int 0)]⟩
noncomputable def y9:Fn:=⟨[178,101],[],
 [.asg (.attr (.var 178) 101) (.var 101),
  .asg (.attr (.var 178) 104) (.attr (.var 101) 104),
  .asg (.attr (.var 178) 181) (.attr (.var 101) 181),
  .asg (.attr (.var 178) 100) (.meth (.var 101) 97 [.str 100]),
  .asg (.attr (.var 178) 182) (.meth (.var 101) 97 [.str 183]),
  .asg (.attr (.var 178) 184) (.meth (.var 101) 97 [.str 185]),
  .asg (.attr (.var 178) 110) (.meth (.var 101) 97 [.str 110]),
  .asg (.attr (.var 178) 186) (.meth (.var 101) 97 [.str 186]),
  .asg (.attr (.var 178) 187) .dict0]⟩
noncomputable def zK:Fn:=⟨[178,98],[],
 [.ret (.call 27 [.var 98, .attr (.var 178) 104])]⟩
noncomputable def zi:Fn:=⟨[178,97,91,92],[],
 [.asg (.attr (.var 178) 97) (.var 97),
  .asg (.attr (.var 178) 65) (.new 179 [.var 97, .int 0, .int 0, .var 91, .var 92]),
  .asg (.attr (.var 178) 106) .none,
  .asg (.attr (.var 178) 96) (.list [])]⟩
noncomputable def AA:Fn:=⟨[178,99],[],
 [.asg (.attr (.var 178) 77) (.new 180 []),
  .asg (.attr (.var 178) 107) .dict0,
  .asg (.attr (.var 178) 99) (.var 99)]⟩
noncomputable def Ad:Fn:=⟨[178,89,93,90],[],
 [.expr (.call 24 [.attr (.var 178) 77, .var 89, .var 93, .var 90])]⟩
noncomputable def Av:Fn:=⟨[178,89,68],[],
 [.expr (.call 43 [.var 178, .var 89, .bop .sub (.var 68) (.var 89)])]⟩
noncomputable def zY:Fn:=⟨[178,134,188],[],
 [.asg (.attr (.var 178) 188) (.var 188),
  .asg (.attr (.var 178) 189) (.bop .add (.blt .list [.var 134]) (.bop .mul (.list [.int 0]) (.var 188))),
  .asg (.attr (.var 178) 190) (.blt .len [.var 134]),
  .asg (.attr (.var 178) 191) (.bop .add (.blt .len [.var 134]) (.var 188))]⟩
noncomputable def Aj:Fn:=⟨[178],[],
 [.ret (.bop .add (.bop .sub (.blt .len [.attr (.var 178) 189]) (.attr (.var 178) 191)) (.attr (.var 178) 190))]⟩
noncomputable def zm:Fn:=⟨[178,118,68],[],
 [.asg (.var 193) (.bop .sub (.attr (.var 178) 191) (.attr (.var 178) 190)),
  .ite (.cmp (.var 68) .le (.attr (.var 178) 190)) [.ret (.slice (.attr (.var 178) 189) (.var 118) (.var 68))] [],
  .ite (.cmp (.var 118) .ge (.attr (.var 178) 190)) [.ret (.slice (.attr (.var 178) 189) (.bop .add (.var 118) (.var 193)) (.bop .add (.var 68) (.var 193)))] [],
  .ret (.bop .add (.slice (.attr (.var 178) 189) (.var 118) (.attr (.var 178) 190)) (.slice (.attr (.var 178) 189) (.attr (.var 178) 191) (.bop .add (.var 68) (.var 193))))]⟩
noncomputable def zJ:Fn:=⟨[178,89],[],
 [.ite (.cmp (.var 89) .lt (.attr (.var 178) 190)) [.asg (.var 194) (.slice (.attr (.var 178) 189) (.var 89) (.attr (.var 178) 190)), .asg (.slice (.attr (.var 178) 189) (.bop .sub (.attr (.var 178) 191) (.blt .len [.var 194])) (.attr (.var 178) 191)) (.var 194), .asg (.attr (.var 178) 191) (.bop .sub (.attr (.var 178) 191) (.blt .len [.var 194]))] [.asg (.var 194) (.slice (.attr (.var 178) 189) (.attr (.var 178) 191) (.bop .sub (.bop .add (.attr (.var 178) 191) (.var 89)) (.attr (.var 178) 190))), .asg (.slice (.attr (.var 178) 189) (.attr (.var 178) 190) (.bop .add (.attr (.var 178) 190) (.blt .len [.var 194]))) (.var 194), .asg (.attr (.var 178) 191) (.bop .add (.attr (.var 178) 191) (.blt .len [.var 194]))],
  .asg (.attr (.var 178) 190) (.var 89)]⟩
noncomputable def zR:Fn:=⟨[178,196],[],
 [.asg (.var 197) (.bop .sub (.var 196) (.bop .sub (.attr (.var 178) 191) (.attr (.var 178) 190))),
  .ite (.cmp (.var 197) .gt (.int 0)) [.asg (.slice (.attr (.var 178) 189) (.attr (.var 178) 191) (.attr (.var 178) 191)) (.bop .mul (.list [.int 0]) (.bop .add (.var 197) (.attr (.var 178) 188))), .asg (.attr (.var 178) 191) (.bop .add (.bop .add (.attr (.var 178) 191) (.var 197)) (.attr (.var 178) 188))] []]⟩
noncomputable def y7:Fn:=⟨[178,89,134],[],
 [.expr (.meth (.var 178) 198 [.blt .len [.var 134]]),
  .expr (.meth (.var 178) 195 [.var 89]),
  .asg (.slice (.attr (.var 178) 189) (.var 89) (.bop .add (.var 89) (.blt .len [.var 134]))) (.var 134),
  .asg (.attr (.var 178) 190) (.bop .add (.var 89) (.blt .len [.var 134]))]⟩
noncomputable def Ac:Fn:=⟨[178,118,68],[],
 [.asg (.var 84) (.meth (.var 178) 134 [.var 118, .var 68]),
  .ite (.cmp (.var 68) .lt (.attr (.var 178) 190)) [.expr (.meth (.var 178) 195 [.var 68])] [],
  .ite (.cmp (.var 118) .gt (.attr (.var 178) 190)) [.expr (.meth (.var 178) 195 [.var 118])] [],
  .asg (.attr (.var 178) 191) (.bop .sub (.bop .add (.attr (.var 178) 191) (.var 68)) (.attr (.var 178) 190)),
  .asg (.attr (.var 178) 190) (.var 118),
  .ret (.var 84)]⟩
noncomputable def zx:Fn:=⟨[178],[],
 [.asg (.attr (.var 178) 143) .dict0]⟩
noncomputable def AB:Fn:=⟨[178],[],
 [.ret (.blt .sorted [.attr (.var 178) 143])]⟩
noncomputable def zO:Fn:=⟨[178,118,68,201],[],
 [.for (.var 97) (.meth (.var 178) 200 []) [.asg (.var 202) (.sub (.attr (.var 178) 143) (.var 97)), .ite (.bool2 false [.cmp (.attr (.var 202) 203) .gt (.var 118), .bool2 true [.cmp (.attr (.var 202) 203) .eq (.var 118), .bool2 false [.var 201, .attr (.var 202) 204]]]) [.asg (.attr (.var 202) 203) (.bop .sub (.bop .add (.attr (.var 202) 203) (.var 68)) (.var 118))] []]]⟩
noncomputable def Au:Fn:=⟨[178,118,68],[],
 [.for (.var 97) (.meth (.var 178) 200 []) [.asg (.var 202) (.sub (.attr (.var 178) 143) (.var 97)), .ite (.cmp (.attr (.var 202) 203) .gt (.var 68)) [.asg (.attr (.var 202) 203) (.bop .sub (.attr (.var 202) 203) (.bop .sub (.var 68) (.var 118)))] [.ite (.cmp (.attr (.var 202) 203) .gt (.var 118)) [.asg (.attr (.var 202) 203) (.var 118)] []]]]⟩
noncomputable def zg:Fn:=⟨[178,118,68,93],[],
 [.for (.var 97) (.meth (.var 178) 200 []) [.asg (.var 202) (.sub (.attr (.var 178) 143) (.var 97)), .ite (.cmp (.attr (.var 202) 203) .ge (.var 68)) [.asg (.attr (.var 202) 203) (.bop .sub (.bop .add (.attr (.var 202) 203) (.var 93)) (.bop .sub (.var 68) (.var 118)))] [.ite (.cmp (.attr (.var 202) 203) .gt (.var 118)) [.asg (.attr (.var 202) 203) (.var 118)] []]]]⟩
noncomputable def pU:Fn:=⟨[178,97,205,188],[.int 8],
 [.asg (.attr (.var 178) 97) (.var 97),
  .asg (.attr (.var 178) 205) (.var 205),
  .asg (.attr (.var 178) 131) (.new 192 [.list [], .var 188]),
  .asg (.attr (.var 178) 140) (.new 199 []),
  .asg (.attr (.var 178) 132) (.int 1),
  .asg (.attr (.var 178) 121) (.int 1),
  .asg (.attr (.var 178) 122) (.int 1),
  .asg (.attr (.var 178) 206) .none,
  .asg (.attr (.var 178) 207) (.bool true),
  .asg (.attr (.var 178) 114) (.bool false),
  .asg (.attr (.var 178) 208) (.int 1),
  .asg (.attr (.var 178) 209) (.int 1),
  .asg (.attr (.var 178) 210) (.int 1),
  .asg (.attr (.var 178) 124) (.list []),
  .asg (.attr (.var 178) 129) .none,
  .asg (.attr (.var 178) 136) .none,
  .asg (.attr (.var 178) 107) .none,
  .asg (.attr (.var 178) 211) .none,
  .asg (.attr (.var 178) 212) .none,
  .asg (.attr (.var 178) 213) .none]⟩
noncomputable def zk:Fn:=⟨[178],[],
 [.ret (.meth (.attr (.var 178) 131) 116 [])]⟩
noncomputable def y8:Fn:=⟨[178,214],[],
 [.asg (.attr (.var 178) 208) (.bop .add (.attr (.var 178) 208) (.int 1)),
  .ite (.var 214) [.asg (.attr (.var 178) 209) (.attr (.var 178) 208)] []]⟩
noncomputable def Ay:Fn:=⟨[178,174],[],
 [.asg (.attr (.var 178) 174) (.var 174),
  .asg (.attr (.var 178) 104) .none,
  .asg (.attr (.var 178) 181) (.bool true),
  .asg (.attr (.var 178) 215) .dict0]⟩
noncomputable def EW:Fn:=⟨[178,205],[],
 [.ret (.bop .add (.attr (.var 178) 174) (.meth (.glob 216) 2 [.var 205]))]⟩
noncomputable def Aa:List (Nat×Fn):=[(3,f3),(4,f4),(5,f5),(6,f6),(7,f7),(8,f8),(9,f9),(10,PY),(11,Pn),(12,PO),(13,Qq),(14,PC),(15,P2),(16,PF),(17,Pw),(18,Qu),(19,Pm),(20,QH),(21,PD),(22,Oa),(23,Nq),(24,Pj),(25,Pz),(26,PX),(27,Nk),(28,N9),(29,Ob),(30,M5),(31,OA),(32,f32),(33,Ow),(34,OT),(35,NY),(36,NZ),(37,O0),(38,M7),(39,Ni),(40,J6),(41,OE),(42,OK),(43,NR),(44,Of),(45,Nt),(46,Ny),(47,O8),(48,Na),(49,NV),(50,OF),(51,Pc),(52,NK),(53,NB),(54,IY),(55,IV),(56,NF),(57,IR),(58,Og),(59,OB),(60,I5),(61,M9),(62,Mq),(63,Pf),(64,f64),(1000,zD),(1001,Ax),(1002,y9),(1003,zK),(1004,zi),(1005,AA),(1006,Ad),(1007,Av),(1008,zY),(1009,Aj),(1010,zm),(1011,zJ),(1012,zR),(1013,y7),(1014,Ac),(1015,zx),(1016,AB),(1017,zO),(1018,Au),(1019,zg),(1020,pU),(1021,zk),(1022,y8),(1023,Ay),(1024,EW)]
noncomputable def GY(f:Nat):Option Fn:=Aa.lookup f
noncomputable def zF:List (Nat×Nat):=[(179,1000),(180,1001),(152,1002),(108,1004),(156,1005),(192,1008),(199,1015),(155,1020),(153,1023)]
noncomputable def jZ(c:Nat):Option Nat:=zF.lookup c
noncomputable def pI:List (Nat×List (Nat×Nat)):=[(152,[(109,1003)]),(156,[(138,1006),(137,1007)]),(192,[(116,1009),(134,1010),(195,1011),(198,1012),(55,1013),(56,1014)]),(199,[(200,1016),(141,1017),(142,1018),(144,1019)]),(155,[(116,1021),(127,1022)]),(153,[(97,1024)])]
noncomputable def tL(c m:Nat):Option Nat:=match pI.lookup c with
 |some l=>l.lookup m
 |none=>none
noncomputable def Py:List (Nat×List (Nat×Ty)):=[(179,[(97, .int),(67, .int),(68, .int),(91, .bool),(92, .bool),(69, .int),(66, .int),(10, .bool),(71, .ptr 179),(72, .ptr 179),(74, .ptr 179)]),
 (180,[(79, .ptr 179),(83, .int)]),
 (152,[(101, .obj 153),(104, .gen),(181, .gen),(100, .int),(182, .int),(184, .int),(110, .int),(186, .int),(187, .dct)]),
 (108,[(97, .int),(65, .obj 179),(106, .ptr 156),(96, .lst)]),
 (156,[(77, .obj 180),(107, .dct),(99, .obj 152)]),
 (192,[(188, .int),(189, .lst),(190, .int),(191, .int)]),
 (199,[(143, .dct)]),
 (155,[(97, .int),(205, .gen),(131, .obj 192),(140, .obj 199),(132, .int),(121, .int),(122, .int),(206, .gen),(207, .bool),(114, .bool),(208, .int),(209, .int),(210, .int),(124, .lst),(129, .gen),(136, .gen),(107, .ptr 156),(211, .gen),(212, .gen),(213, .gen)]),
 (153,[(174, .int),(104, .gen),(181, .gen),(215, .dct)])]
noncomputable def AU(c:Nat):List (Nat×Ty):=(Py.lookup c).getD []
noncomputable def Dh:Nat->Option V
 |117=>some (.int 4194304)
 |216=>some (.tup [.str 100, .str 183, .str 185, .str 110, .str 186])
 |_=>none
noncomputable def P:Pg:=⟨GY,jZ,tL,Dh,fun c a=>(AU c).lookup a,fun c=>(AU c).map (·.1)⟩
noncomputable def nw:Nat->Nat->List Nat->List Nat
 |0,_,a=>a
 |k+1,n,a=>nw k (n / 256) (n % 256::a)
noncomputable def nx(k n:Nat):=nw k n []
noncomputable def oU:List (List Nat):=[
 nx 6 0x617070656e64,nx 3 0x706f70,nx 5 0x696e646578,nx 9 0x68616e645f646f776e,nx 12 0x68616e645f646f776e5f746f,nx 12 0x67726561746573745f656e64,nx 12 0x72656e65775f6c696d697473,nx 4 0x68616e67,nx 9 0x7475726e5f6c656674,nx 10 0x7475726e5f7269676874,nx 6 0x69735f726564,nx 15 0x636f6c6f75725f696e736572746564,nx 13 0x7475726e65645f696e77617264,nx 8 0x7075745f6e6f6465,nx 11 0x66697273745f62656c6f77,nx 10 0x74616b655f706c616365,nx 9 0x64726f705f6e6f6465,nx 14 0x636f6c6f75725f64726f70706564,nx 10 0x7369626c696e675f6f66,nx 12 0x7475726e5f746f7761726473,nx 9 0x6c69676874656e6564,nx 13 0x6e6f6465735f6265747765656e,nx 14 0x626567696e735f746f5f6d6f7665,nx 5 0x67726f7773,nx 8 0x6f70656e5f676170,nx 11 0x73686966745f6e6f646573,nx 9 0x636c6f73655f676170,nx 2 0x6571,nx 10 0x706c6973745f66696e64,nx 9 0x706c6973745f676574,nx 10 0x706c6973745f77697468,nx 10 0x686f6c64735f70616972,nx 8 0x76616c75655f696e,nx 13 0x6f7665726c61795f626567696e,nx 11 0x6f7665726c61795f656e64,nx 8 0x74616b655f6f7574,nx 3 0x6c6179,nx 12 0x6d6164655f6f7665726c6179,nx 11 0x6f7665726c61795f676574,nx 11 0x69735f666c656574696e67,nx 11 0x6f7665726c61795f707574,nx 8 0x6f665f6e6f646573,nx 11 0x6f7665726c6179735f6174,nx 9 0x746578745f77656e74,nx 13 0x6e6565645f7772697461626c65,nx 9 0x6e6565645f726f6f6d,nx 7 0x72656163686564,nx 10 0x74656c6c5f6168656164,nx 11 0x74656c6c5f626568696e64,nx 8 0x746578745f6f7574,nx 7 0x746578745f696e,nx 8 0x68756e675f6f7574,nx 7 0x68756e675f696e,nx 6 0x7075745f696e,nx 9 0x696e736572745f6174,nx 6 0x696e73657274,nx 6 0x64656c657465,nx 7 0x7265706c616365,nx 9 0x5f6c61775f64726177,nx 9 0x5f6c61775f65646974,nx 11 0x5f6c61775f627566666572,nx 9 0x5f6c61775f646f6e65,nx 11 0x5f6c61775f626568696e64,nx 10 0x5f6c61775f69735f736f,nx 3 0x6c6177,nx 4 0x6e6f6465,nx 6 0x6f6666736574,nx 5 0x626567696e,nx 3 0x656e64,nx 5 0x6c696d6974,nx 3 0x736f6e,nx 4 0x6c656674,nx 5 0x7269676874,nx 4 0x70617468,nx 6 0x706172656e74,nx 4 0x68657265,nx 5 0x666f756e64,nx 4 0x74726565,nx 5 0x6f74686572,nx 4 0x726f6f74,nx 5 0x61626f7665,nx 7 0x69735f6c656674,nx 5 0x756e636c65,nx 5 0x636f756e74,nx 4 0x676f6e65,nx 7 0x7761735f726564,nx 5 0x6f75746572,nx 5 0x696e6e6572,nx 7 0x77616974696e67,nx 2 0x6174,nx 14 0x6265666f72655f6d61726b657273,nx 13 0x66726f6e745f616476616e6365,nx 12 0x726561725f616476616e6365,nx 4 0x6d616e79,nx 6 0x6d6f76696e67,nx 3 0x6f6e65,nx 5 0x706c697374,nx 6 0x6e756d626572,nx 5 0x76616c7565,nx 5 0x72756c6573,nx 8 0x63617465676f7279,nx 4 0x6c697370,nx 9 0x6e756d6265725f6f66,nx 15 0x73796d626f6c5f70726f7065727479,nx 3 0x6e696c,nx 7 0x6f7665726c6179,nx 4 0x686f6d65,nx 8 0x6f7665726c617973,nx 7 0x4f7665726c6179,nx 6 0x69735f6e696c,nx 9 0x657661706f72617465,nx 7 0x6368616e676564,nx 5 0x6e6f646573,nx 6 0x627566666572,nx 12 0x69735f726561645f6f6e6c79,nx 6 0x67726f777468,nx 4 0x73697a65,nx 7 0x4c4f4e47455354,nx 5 0x7374617274,nx 3 0x6c6f77,nx 4 0x68696768,nx 4 0x62656776,nx 2 0x7a76,nx 8 0x6c697374656e6572,nx 9 0x6c697374656e657273,nx 13 0x6265666f72655f6368616e6765,nx 10 0x6f6c645f6c656e677468,nx 5 0x746f756368,nx 12 0x61667465725f6368616e6765,nx 4 0x756e646f,nx 9 0x746578745f676f6573,nx 4 0x74657874,nx 5 0x706f696e74,nx 5 0x706c616365,nx 5 0x636f646573,nx 10 0x746578745f636f6d6573,nx 5 0x70726f7073,nx 9 0x746578745f676f6e65,nx 9 0x746578745f63616d65,nx 15 0x69735f706f696e745f626568696e64,nx 7 0x6d61726b657273,nx 8 0x696e736572746564,nx 7 0x64656c65746564,nx 4 0x726f7773,nx 8 0x7265706c61636564,nx 8 0x7075745f726f7773,nx 4 0x6465636b,nx 4 0x63616d65,nx 3 0x6e7468,nx 5 0x7369676e73,nx 4 0x6c6f7473,nx 9 0x6f776e5f72756c6573,nx 9 0x50726f7052756c6573,nx 9 0x506c61696e4c697370,nx 10 0x6f776e5f627566666572,nx 6 0x427566666572,nx 11 0x4f7665726c6179486f6d65,nx 4 0x6c616964,nx 8 0x69735f66726f6e74,nx 7 0x69735f72656172,nx 14 0x69735f73686f72745f6c69766564,nx 4 0x65646974,nx 7 0x66757274686572,nx 8 0x69735f6168656164,nx 3 0x6c6f74,nx 7 0x676f65735f696e,nx 6 0x69735f6c6564,nx 3 0x647565,nx 5 0x6865617264,nx 3 0x6f776e,nx 6 0x736372697074,nx 4 0x63656c6c,nx 5 0x7468697264,nx 6 0x7365636f6e64,nx 5 0x6669727374,nx 6 0x666f75727468,nx 12 0x6c617465725f627566666572,nx 8 0x6c6169645f746f6f,nx 4 0x73656c66,nx 11 0x4f7665726c61794e6f6465,nx 11 0x4f7665726c617954726565,nx 4 0x74727565,nx 12 0x66726f6e745f737469636b79,nx 12 0x66726f6e742d737469636b79,nx 14 0x726561725f6e6f6e737469636b79,nx 14 0x726561722d6e6f6e737469636b79,nx 8 0x7072696f72697479,nx 8 0x64656661756c7473,nx 4 0x726f6f6d,nx 5 0x63656c6c73,nx 9 0x6761705f7374617274,nx 7 0x6761705f656e64,nx 7 0x47617054657874,nx 5 0x7368696674,nx 5 0x6d6f766564,nx 8 0x6d6f76655f676170,nx 6 0x77616e746564,nx 4 0x6c61636b,nx 9 0x776964656e5f676170,nx 7 0x4d61726b657273,nx 7 0x6e756d62657273,nx 9 0x69735f6265666f7265,nx 6 0x6d61726b6572,nx 8 0x706f736974696f6e,nx 8 0x616476616e636573,nx 4 0x6e616d65,nx 4 0x6d61726b,nx 7 0x69735f6c697665,nx 5 0x7469636b73,nx 11 0x636f6465735f7469636b73,nx 11 0x73617665645f7469636b73,nx 6 0x6c6f63616c73,nx 6 0x73796e746178,nx 4 0x66696c65,nx 9 0x6172655f636f646573,nx 6 0x706c69737473,nx 5 0x4e414d4553,nx 6 0x4f7061717565,nx 10 0x4c6973705369676e616c]
end Mine
end
section
open PySem
namespace Mine
set_option tactic.hygienic false
noncomputable def nm(k:Nat):Str:=⟨⟨oU.getD k []⟩⟩
noncomputable def qX:List Nat->List Nat->Bool
 |[],[]=>true
 |a::x,b::y=>Nat.beq a b&&qX x y
 |_,_=>false
theorem lv:∀{x y:List Nat},qX x y=true->x=y
 |[],[],_=>rfl
 |a::x,b::y,h=>by
  have h:=Bool.and_eq_true_iff.mp h
  rw[bA h.1,lv h.2]
 |[],_::_,h=>ft h
 |_::_,[],h=>ft h
noncomputable def dist:List (List Nat)->Bool
 |[]=>true
 |x::r=>r.all (fun y=> !qX x y)&&dist r
theorem eG:∀x:List Nat,qX x x=true
 |[]=>rfl
 |a::x=>Bool.and_eq_true_iff.mpr ⟨Nat.beq_refl a,eG x⟩
theorem mT:∀{l:List (List Nat)},dist l=true->∀{i j:Nat} {x:List Nat},l[i]?=some x->l[j]?=some x->i=j
 |[],_,i,j,x,h,_=>aS (a:=x) h
 |y::r,hd,i,j,x,hi,hj=>by
  have hd:=Bool.and_eq_true_iff.mp hd
  have no:∀{k:Nat},r[k]?=some y->False:=fun {k} h=>ft ((congrArg not (eG y)).symm.trans (List.all_eq_true.mp hd.1 y (List.mem_of_getElem? h)))
  rcases i with _|i
  ·rcases j with _|j
   ·rfl
   ·exact(no (ag hi▸hj:r[j]?=some y)).elim
  ·rcases j with _|j
   ·exact(no (ag hj▸hi:r[i]?=some y)).elim
   ·exact congrArg Nat.succ (mT hd.2 (show r[i]?=some x from hi) hj)
theorem yY:dist oU=true:=by decide+kernel
noncomputable def seq(a b:Str):Bool:=qX a.cps.toList b.cps.toList
theorem seq_eq{a b:Str}(h:seq a b=true):a=b:=by
 obtain⟨⟨x⟩⟩:=a;obtain⟨⟨y⟩⟩:=b
 have:x=y:=lv h
 rw[this]
noncomputable def knd:List (Str×NameKind)->Str->Option NameKind
 |[],_=>none
 |(a,k)::r,s=>if seq a s then some k else knd r s
theorem tK(a:Str):seq a a=true:=by
 obtain⟨⟨x⟩⟩:=a
 exact eG x
theorem rD{a b:Str}(h:seq a b=false):a≠b:=by rintro rfl;rw[tK] at h;cases h
theorem oy:∀(l:List (Str×NameKind)) (s:Str),knd l s=l.lookup s
 |[],_=>rfl
 |(a,k)::r,s=>by
  show(if seq a s then some k else knd r s)=_
  rw[List.lookup_cons]
  rcases h:seq a s with _|_
  ·rw[if_neg Bool.false_ne_true,oy r s,show(s==a)=false from beq_eq_false_iff_ne.mpr fun e=>rD h e.symm]
  ·rw[if_pos rfl,seq_eq h,beq_self_eq_true]
theorem lu{l:List (Str×NameKind)}{s:Str}(f:Option NameKind->Bool)(h0:f none=false)(h:f (knd l s)=true):∃k,l.lookup s=some k/\f (some k)=true:=by
 rw[oy] at h
 rcases q:l.lookup s with _|k
 ·rw[q,h0] at h;exact ft h
 ·rw[q] at h;exact⟨k,rfl,h⟩
noncomputable def filled(s:Str):Bool:=match s.cps.toList with
 |[]=>false
 |_=>true
noncomputable def isVar(sc:Scope)(s:Str):Bool:=filled s&&match knd sc.names s with
 |some .local=>true
 |some .cell=>true
 |some .free=>true
 |_=>false
theorem fQ{x y:Nat}(hf:filled (nm x)=true)(h:nm y=nm x):y=x:=by
 have hl:oU.getD y []=oU.getD x []:=by
  have:=congrArg (fun s:Str=>s.cps.toList) h
  exact this
 have hx:∃l,oU[x]?=some l/\l≠[]:=by
  cases q:oU[x]? with
  |none=>
   have:nm x=⟨⟨[]⟩⟩:=by unfold nm;rw[List.getD_eq_getElem?_getD,q];rfl
   rw[this] at hf;cases hf
  |some l=>
   refine⟨l,rfl,?_⟩
   rintro rfl
   have:nm x=⟨⟨[]⟩⟩:=by unfold nm;rw[List.getD_eq_getElem?_getD,q];rfl
   rw[this] at hf;cases hf
 obtain⟨l,h1,h2⟩:=hx
 have e1:oU.getD x []=l:=by rw[List.getD_eq_getElem?_getD,h1];rfl
 have e2:oU[y]?=some l:=by
  cases q:oU[y]? with
  |none=>rw[List.getD_eq_getElem?_getD,q,e1] at hl;exact absurd hl.symm h2
  |some l'=>rw[List.getD_eq_getElem?_getD,q,e1] at hl;rw[←hl];rfl
 exact mT yY e2 h1
theorem fK{sc:Scope}{s:Str}(h:(filled s&&match knd sc.names s with
 |some .local=>true
 |some .cell=>true
 |some .free=>true
 |_=>false)=true):sc.names.lookup s=some .local\/sc.names.lookup s=some .cell\/sc.names.lookup s=some .free:=by
 obtain⟨k,e,h⟩:=lu (fun k=>match k with|some .local=>true|some .cell=>true|some .free=>true|_=>false) rfl (Bool.and_eq_true_iff.mp h).2
 rw[e]
 rcases k with _|_|_|_|_|_<;>first|exact ft h|exact .inl rfl|exact .inr (.inl rfl)|exact .inr (.inr rfl)
noncomputable def bU(sc:Scope)(s:Str):Bool:=filled s&&match knd sc.names s with
 |some .globalImplicit=>true
 |_=>false
theorem iq{sc:Scope}{x:Str}(h:bU sc x=true):sc.names.lookup x=some .globalImplicit:=by
 obtain⟨k,e,h⟩:=lu (fun k=>match k with|some .globalImplicit=>true|_=>false) rfl (Bool.and_eq_true_iff.mp h).2
 rw[e]
 rcases k with _|_|_|_|_|_<;>first|exact ft h|rfl
noncomputable def dh(pe:Expr):Bool:= !Nat.beq pe.ctorIdx 16
noncomputable def cu(pe:Expr):Bool:= !Nat.beq pe.ctorIdx 7
noncomputable def lh:Op->Operator
 | .add=> .Add| .sub=> .Sub| .mul=> .Mult| .fdiv=> .FloorDiv| .mod=> .Mod
noncomputable def hC:Cm->CmpOp
 | .eq=> .Eq| .ne=> .NotEq| .lt=> .Lt| .le=> .LtE| .gt=> .Gt| .ge=> .GtE| .is=> .Is| .isNot=> .IsNot| .wx=> .In
noncomputable def kI:Bi->Str
 | .len=>⟨#[108,101,110]⟩| .min=>⟨#[109,105,110]⟩| .max=>⟨#[109,97,120]⟩| .abs=>⟨#[97,98,115]⟩| .range=>⟨#[114,97,110,103,101]⟩
 | .list=>⟨#[108,105,115,116]⟩| .sorted=>⟨#[115,111,114,116,101,100]⟩
noncomputable def k6:Str:=⟨#[105,115,105,110,115,116,97,110,99,101]⟩
noncomputable def gr:Str:=⟨#[98,111,111,108]⟩
noncomputable def dot0:List Nat:=[46,48]
noncomputable def oa(sc scc:Scope)(x:Str):Bool:=
 filled x&&(match scc.kind with| .function=>true|_=>false)&&(match knd scc.names x with|some .local=>true|_=>false)&&dist (scc.names.map fun y=>y.1.cps.toList)&&
 scc.names.all fun y=>match y.2 with
  | .local=>seq y.1 x||qX y.1.cps.toList dot0
  | .free=>oU.any (fun l=>qX l y.1.cps.toList)&&(match knd sc.names y.1 with|some .cell=>true|some .free=>true|_=>false)&&(match knd scc.names y.1 with|some .free=>true|_=>false)
  | .globalImplicit=>true
  |_=>false
noncomputable def fG(k:Const->Bool)(pe:Expr):Bool:=if h:pe.ctorIdx=19 then Expr.Constant.elim (motive_1:=fun _=>Bool) pe h (fun c j p=>k c) else false
theorem cx{f}{M:Expr->Prop}{pe:Expr}(h:fG f pe=true)(g:∀c j p,f c=true->M (.Constant c j p)):M pe:=
 if hc:pe.ctorIdx=19 then Expr.Constant.elim (motive_1:=fun pe=>fG f pe=true->M pe) pe hc g h else ft ((dif_neg hc).symm.trans h)
noncomputable def fy(k:Str->Bool)(pe:Expr):Bool:=if h:pe.ctorIdx=23 then Expr.Name.elim (motive_1:=fun _=>Bool) pe h (fun s p=>k s) else false
theorem cZ{f}{M:Expr->Prop}{pe:Expr}(h:fy f pe=true)(g:∀s p,f s=true->M (.Name s p)):M pe:=
 if hc:pe.ctorIdx=23 then Expr.Name.elim (motive_1:=fun pe=>fy f pe=true->M pe) pe hc g h else ft ((dif_neg hc).symm.trans h)
noncomputable def pK(k:Expr->Str->Bool)(pe:Expr):Bool:=if h:pe.ctorIdx=20 then Expr.Attribute.elim (motive_1:=fun _=>Bool) pe h (fun e s p=>k e s) else false
theorem k5{f}{M:Expr->Prop}{pe:Expr}(h:pK f pe=true)(g:∀e s p,f e s=true->M (.Attribute e s p)):M pe:=
 if hc:pe.ctorIdx=20 then Expr.Attribute.elim (motive_1:=fun pe=>pK f pe=true->M pe) pe hc g h else ft ((dif_neg hc).symm.trans h)
noncomputable def Dr(k:Expr->Operator->Expr->Bool)(pe:Expr):Bool:=if h:pe.ctorIdx=2 then Expr.BinOp.elim (motive_1:=fun _=>Bool) pe h (fun a o b p=>k a o b) else false
theorem vi{f}{M:Expr->Prop}{pe:Expr}(h:Dr f pe=true)(g:∀a o b p,f a o b=true->M (.BinOp a o b p)):M pe:=
 if hc:pe.ctorIdx=2 then Expr.BinOp.elim (motive_1:=fun pe=>Dr f pe=true->M pe) pe hc g h else ft ((dif_neg hc).symm.trans h)
noncomputable def ox(k:UnaryOp->Expr->Bool)(pe:Expr):Bool:=if h:pe.ctorIdx=3 then Expr.UnaryOp.elim (motive_1:=fun _=>Bool) pe h (fun o a p=>k o a) else false
theorem uJ{f}{M:Expr->Prop}{pe:Expr}(h:ox f pe=true)(g:∀o a p,f o a=true->M (.UnaryOp o a p)):M pe:=
 if hc:pe.ctorIdx=3 then Expr.UnaryOp.elim (motive_1:=fun pe=>ox f pe=true->M pe) pe hc g h else ft ((dif_neg hc).symm.trans h)
noncomputable def nV(k:BoolOp->List Expr->Bool)(pe:Expr):Bool:=if h:pe.ctorIdx=0 then Expr.BoolOp.elim (motive_1:=fun _=>Bool) pe h (fun o a p=>k o a) else false
theorem sH{f}{M:Expr->Prop}{pe:Expr}(h:nV f pe=true)(g:∀o a p,f o a=true->M (.BoolOp o a p)):M pe:=
 if hc:pe.ctorIdx=0 then Expr.BoolOp.elim (motive_1:=fun pe=>nV f pe=true->M pe) pe hc g h else ft ((dif_neg hc).symm.trans h)
noncomputable def gz(k:Expr->List CmpOp->List Expr->Bool)(pe:Expr):Bool:=if h:pe.ctorIdx=15 then Expr.Compare.elim (motive_1:=fun _=>Bool) pe h (fun a o b p=>k a o b) else false
theorem jp{f}{M:Expr->Prop}{pe:Expr}(h:gz f pe=true)(g:∀a o b p,f a o b=true->M (.Compare a o b p)):M pe:=
 if hc:pe.ctorIdx=15 then Expr.Compare.elim (motive_1:=fun pe=>gz f pe=true->M pe) pe hc g h else ft ((dif_neg hc).symm.trans h)
noncomputable def JH(k:Expr->Expr->Expr->Bool)(pe:Expr):Bool:=if h:pe.ctorIdx=5 then Expr.IfExp.elim (motive_1:=fun _=>Bool) pe h (fun a b c p=>k a b c) else false
theorem zW{f}{M:Expr->Prop}{pe:Expr}(h:JH f pe=true)(g:∀a b c p,f a b c=true->M (.IfExp a b c p)):M pe:=
 if hc:pe.ctorIdx=5 then Expr.IfExp.elim (motive_1:=fun pe=>JH f pe=true->M pe) pe hc g h else ft ((dif_neg hc).symm.trans h)
noncomputable def ua(k:List Expr->Bool)(pe:Expr):Bool:=if h:pe.ctorIdx=24 then Expr.List.elim (motive_1:=fun _=>Bool) pe h (fun a p=>k a) else false
theorem o4{f}{M:Expr->Prop}{pe:Expr}(h:ua f pe=true)(g:∀a p,f a=true->M (.List a p)):M pe:=
 if hc:pe.ctorIdx=24 then Expr.List.elim (motive_1:=fun pe=>ua f pe=true->M pe) pe hc g h else ft ((dif_neg hc).symm.trans h)
noncomputable def tu(k:List Expr->Bool)(pe:Expr):Bool:=if h:pe.ctorIdx=25 then Expr.Tuple.elim (motive_1:=fun _=>Bool) pe h (fun a j p=>k a) else false
theorem lM{f}{M:Expr->Prop}{pe:Expr}(h:tu f pe=true)(g:∀a j p,f a=true->M (.Tuple a j p)):M pe:=
 if hc:pe.ctorIdx=25 then Expr.Tuple.elim (motive_1:=fun pe=>tu f pe=true->M pe) pe hc g h else ft ((dif_neg hc).symm.trans h)
noncomputable def JJ(k:Expr->List Comprehension->Scope->Bool)(pe:Expr):Bool:=if h:pe.ctorIdx=8 then Expr.ListComp.elim (motive_1:=fun _=>Bool) pe h (fun a g s p=>k a g s) else false
theorem Gu{f}{M:Expr->Prop}{pe:Expr}(h:JJ f pe=true)(g:∀a g s p,f a g s=true->M (.ListComp a g s p)):M pe:=
 if hc:pe.ctorIdx=8 then Expr.ListComp.elim (motive_1:=fun pe=>JJ f pe=true->M pe) pe hc g h else ft ((dif_neg hc).symm.trans h)
noncomputable def lV(k:Expr->Expr->Bool)(pe:Expr):Bool:=if h:pe.ctorIdx=21 then Expr.Subscript.elim (motive_1:=fun _=>Bool) pe h (fun a b p=>k a b) else false
theorem lH{f}{M:Expr->Prop}{pe:Expr}(h:lV f pe=true)(g:∀a b p,f a b=true->M (.Subscript a b p)):M pe:=
 if hc:pe.ctorIdx=21 then Expr.Subscript.elim (motive_1:=fun pe=>lV f pe=true->M pe) pe hc g h else ft ((dif_neg hc).symm.trans h)
noncomputable def IQ(k:Option Expr->Option Expr->Option Expr->Bool)(pe:Expr):Bool:=if h:pe.ctorIdx=26 then Expr.Slice.elim (motive_1:=fun _=>Bool) pe h (fun a b c p=>k a b c) else false
theorem zE{f}{M:Expr->Prop}{pe:Expr}(h:IQ f pe=true)(g:∀a b c p,f a b c=true->M (.Slice a b c p)):M pe:=
 if hc:pe.ctorIdx=26 then Expr.Slice.elim (motive_1:=fun pe=>IQ f pe=true->M pe) pe hc g h else ft ((dif_neg hc).symm.trans h)
noncomputable def I9(k:Expr->List Expr->List Keyword->Pos->Bool)(pe:Expr):Bool:=if h:pe.ctorIdx=16 then Expr.Call.elim (motive_1:=fun _=>Bool) pe h (fun a b c p=>k a b c p) else false
theorem zI{f}{M:Expr->Prop}{pe:Expr}(h:I9 f pe=true)(g:∀a b c p,f a b c p=true->M (.Call a b c p)):M pe:=
 if hc:pe.ctorIdx=16 then Expr.Call.elim (motive_1:=fun pe=>I9 f pe=true->M pe) pe hc g h else ft ((dif_neg hc).symm.trans h)
noncomputable def ng(k:Expr->Str->Pos->Bool)(pe:Expr):Bool:=if h:pe.ctorIdx=20 then Expr.Attribute.elim (motive_1:=fun _=>Bool) pe h (fun e s p=>k e s p) else false
theorem u7{f}{M:Expr->Prop}{pe:Expr}(h:ng f pe=true)(g:∀e s p,f e s p=true->M (.Attribute e s p)):M pe:=
 if hc:pe.ctorIdx=20 then Expr.Attribute.elim (motive_1:=fun pe=>ng f pe=true->M pe) pe hc g h else ft ((dif_neg hc).symm.trans h)
noncomputable def Lu(k:List (Option Expr)->List Expr->Bool)(pe:Expr):Bool:=if h:pe.ctorIdx=6 then Expr.Dict.elim (motive_1:=fun _=>Bool) pe h (fun a b p=>k a b) else false
theorem zo{f}{M:Expr->Prop}{pe:Expr}(h:Lu f pe=true)(g:∀a b p,f a b=true->M (.Dict a b p)):M pe:=
 if hc:pe.ctorIdx=6 then Expr.Dict.elim (motive_1:=fun pe=>Lu f pe=true->M pe) pe hc g h else ft ((dif_neg hc).symm.trans h)
noncomputable def lI(k:List Expr->Expr->Bool)(pe:Stmt):Bool:=if h:pe.ctorIdx=5 then Stmt.Assign.elim (motive_2:=fun _=>Bool) pe h (fun a b p=>k a b) else false
theorem rB{f}{M:Stmt->Prop}{pe:Stmt}(h:lI f pe=true)(g:∀a b p,f a b=true->M (.Assign a b p)):M pe:=
 if hc:pe.ctorIdx=5 then Stmt.Assign.elim (motive_2:=fun pe=>lI f pe=true->M pe) pe hc g h else ft ((dif_neg hc).symm.trans h)
noncomputable def vA(k:Expr->Bool)(pe:Stmt):Bool:=if h:pe.ctorIdx=24 then Stmt.Expr.elim (motive_2:=fun _=>Bool) pe h (fun a p=>k a) else false
theorem xY{f}{M:Stmt->Prop}{pe:Stmt}(h:vA f pe=true)(g:∀a p,f a=true->M (.Expr a p)):M pe:=
 if hc:pe.ctorIdx=24 then Stmt.Expr.elim (motive_2:=fun pe=>vA f pe=true->M pe) pe hc g h else ft ((dif_neg hc).symm.trans h)
noncomputable def xh(k:Option Expr->Bool)(pe:Stmt):Bool:=if h:pe.ctorIdx=3 then Stmt.Return.elim (motive_2:=fun _=>Bool) pe h (fun a p=>k a) else false
theorem tV{f}{M:Stmt->Prop}{pe:Stmt}(h:xh f pe=true)(g:∀a p,f a=true->M (.Return a p)):M pe:=
 if hc:pe.ctorIdx=3 then Stmt.Return.elim (motive_2:=fun pe=>xh f pe=true->M pe) pe hc g h else ft ((dif_neg hc).symm.trans h)
noncomputable def L9(k:Expr->List Stmt->List Stmt->Bool)(pe:Stmt):Bool:=if h:pe.ctorIdx=12 then Stmt.If.elim (motive_2:=fun _=>Bool) pe h (fun a b c p=>k a b c) else false
theorem HP{f}{M:Stmt->Prop}{pe:Stmt}(h:L9 f pe=true)(g:∀a b c p,f a b c=true->M (.If a b c p)):M pe:=
 if hc:pe.ctorIdx=12 then Stmt.If.elim (motive_2:=fun pe=>L9 f pe=true->M pe) pe hc g h else ft ((dif_neg hc).symm.trans h)
noncomputable def MP(k:Expr->List Stmt->List Stmt->Bool)(pe:Stmt):Bool:=if h:pe.ctorIdx=11 then Stmt.While.elim (motive_2:=fun _=>Bool) pe h (fun a b c p=>k a b c) else false
theorem Hn{f}{M:Stmt->Prop}{pe:Stmt}(h:MP f pe=true)(g:∀a b c p,f a b c=true->M (.While a b c p)):M pe:=
 if hc:pe.ctorIdx=11 then Stmt.While.elim (motive_2:=fun pe=>MP f pe=true->M pe) pe hc g h else ft ((dif_neg hc).symm.trans h)
noncomputable def JY(k:Expr->Expr->List Stmt->List Stmt->Bool)(pe:Stmt):Bool:=if h:pe.ctorIdx=9 then Stmt.For.elim (motive_2:=fun _=>Bool) pe h (fun a d b c p=>k a d b c) else false
theorem GQ{f}{M:Stmt->Prop}{pe:Stmt}(h:JY f pe=true)(g:∀a d b c p,f a d b c=true->M (.For a d b c p)):M pe:=
 if hc:pe.ctorIdx=9 then Stmt.For.elim (motive_2:=fun pe=>JY f pe=true->M pe) pe hc g h else ft ((dif_neg hc).symm.trans h)
noncomputable def qv(pe:Expr):Bool:= !Nat.beq pe.ctorIdx 26
noncomputable def sg(pe:Expr):Bool:= !(Nat.beq pe.ctorIdx 8||Nat.beq pe.ctorIdx 9||Nat.beq pe.ctorIdx 10)
noncomputable def xO{α:Type}(k:α->Bool)(z:Bool):Option α->Bool
 |some a=>k a
 |none=>z
noncomputable def l0{α:Type}:List α->Bool
 |[]=>true
 |_::_=>false
theorem aa{a b:Bool}(h:(a&&b)=true):a=true/\b=true:=Bool.and_eq_true_iff.mp h
theorem fq{α:Type}{l:List α}(h:l0 l=true):l=[]:=by
 rcases l with _|⟨a,r⟩
 ·rfl
 ·exact ft h
theorem C6{α:Type}{M:List α->Prop}{l:List α}(h:l0 l=true)(g:M []):M l:=fq h▸g
noncomputable def dW{α:Type}(k:α->List α->Bool):List α->Bool
 |a::r=>k a r
 |[]=>false
theorem gT{α:Type}{f}{M:List α->Prop}{l:List α}(h:dW f l=true)(g:∀a r,f a r=true->M (a::r)):M l:=by
 rcases l with _|⟨a,r⟩
 ·exact ft h
 ·exact g a r h
theorem bC{α:Type}{f}{l:List α}(h:dW f l=true):∃a r,l=a::r/\f a r=true:=gT (M:=fun l=>∃a r,l=a::r/\f a r=true) h fun a r h=>⟨a,r,rfl,h⟩
noncomputable def l1{α:Type}(k:α->Bool):List α->Bool:=dW fun a r=>l0 r&&k a
theorem sX{α:Type}{f}{M:List α->Prop}{l:List α}(h:l1 f l=true)(g:∀a,f a=true->M [a]):M l:=gT h fun a r h=>C6 (M:=fun r=>M (a::r)) (aa h).1 (g a (aa h).2)
theorem vE{α:Type}{f}{l:List α}(h:l1 f l=true):∃a,l=[a]/\f a=true:=sX (M:=fun l=>∃a,l=[a]/\f a=true) h fun a h=>⟨a,rfl,h⟩
noncomputable def l2{α:Type}(k:α->α->Bool):List α->Bool:=dW fun a r=>l1 (fun b=>k a b) r
theorem CQ{α:Type}{f}{M:List α->Prop}{l:List α}(h:l2 f l=true)(g:∀a b,f a b=true->M [a,b]):M l:=gT h fun a r h=>sX (M:=fun r=>M (a::r)) h fun b h=>g a b h
noncomputable def Jb(u:UnaryOp)(k:Expr->Bool):Expr->Bool:=ox fun o a=>decide (o=u)&&k a
noncomputable def pN(u:BoolOp)(k:List Expr->Bool):Expr->Bool:=nV fun o a=>decide (o=u)&&k a
noncomputable def GW(k:Expr->CmpOp->Expr->Bool):Expr->Bool:=gz fun a qs bs=>l1 (fun q=>l1 (fun b=>k a q b) bs) qs
noncomputable def Ao(k:Expr->CmpOp->Expr->CmpOp->Expr->Bool):Expr->Bool:=gz fun a qs bs=>l2 (fun q r=>l2 (fun b c=>k a q b r c) bs) qs
noncomputable def sT(k:Expr->Str->Expr->List Expr->Scope->Bool):Expr->Bool:=
 JJ fun a gs sc=>l1 (fun g=>decide (g.is_async=0)&&fy (fun s=>k a s g.iter g.ifs sc) g.target) gs
noncomputable def Be(k:Expr->Expr->Bool):Expr->Bool:=lV fun a b=>qv b&&k a b
noncomputable def og(k:Expr->Option Expr->Option Expr->Bool):Expr->Bool:=lV fun a b=>IQ (fun l u st=>st.isNone&&k a l u) b
noncomputable def HG(k:Expr->Bool):Expr->Bool:=lV fun a b=>IQ (fun l u st=>l.isNone&&u.isNone&&k a&&xO (fun e=>Jb .USub (fun c=>fG (fun i=>decide (i= .int 1)) c) e) false st) b
noncomputable def mi(k:Str->List Expr->Bool):Expr->Bool:=I9 fun f es kw _=>l0 kw&&fy (fun s=>k s es) f
noncomputable def Aw(k:Expr->Str->List Expr->Bool):Expr->Bool:=I9 fun f es kw p=>l0 kw&&ng (fun e s ap=>(ap.endLine==p.line)&&k e s es) f
noncomputable def H6(k:Str->Str->Expr->Bool):Expr->Bool:=mi fun s es=>l2 (fun e b=>fy (fun s2=>k s s2 e) b) es
theorem nc{α:Type}{M:Option α->Prop}{o:Option α}(h:o.isNone=true)(g:M none):M o:=Option.isNone_iff_eq_none.mp h▸g
theorem qd{α:Type}[DecidableEq α]{M:α->Prop}{a b:α}(h:decide (a=b)=true)(g:M b):M a:=ao h▸g
section
variable{pe:Expr}{M:Expr->Prop}
theorem mY{u f}(h:Jb u f pe=true)(g:∀e p,f e=true->M (.UnaryOp u e p)):M pe:=uJ h fun o a p h=>qd (M:=fun o=>M (.UnaryOp o a p)) (aa h).1 (g a p (aa h).2)
theorem jY{u f}(h:pN u f pe=true)(g:∀e p,f e=true->M (.BoolOp u e p)):M pe:=sH h fun o a p h=>qd (M:=fun o=>M (.BoolOp o a p)) (aa h).1 (g a p (aa h).2)
theorem sP{f}(h:GW f pe=true)(g:∀a q b p,f a q b=true->M (.Compare a [q] [b] p)):M pe:=jp h fun a qs bs p h=>sX (M:=fun qs=>M (.Compare a qs bs p)) h fun q h=>sX (M:=fun bs=>M (.Compare a [q] bs p)) h fun b h=>g a q b p h
theorem pR{f}(h:Ao f pe=true)(g:∀a q b r c p,f a q b r c=true->M (.Compare a [q,r] [b,c] p)):M pe:=jp h fun a qs bs p h=>CQ (M:=fun qs=>M (.Compare a qs bs p)) h fun q r h=>CQ (M:=fun bs=>M (.Compare a [q,r] bs p)) h fun b c h=>g a q b r c p h
theorem lA{f}(h:sT f pe=true)(g:∀e s px it ifs sc p,f e s it ifs sc=true->M (.ListComp e [⟨.Name s px,it,ifs,0⟩] sc p)):M pe:=Gu h fun a gs sc p h=>sX (M:=fun gs=>M (.ListComp a gs sc p)) h fun c h=>by
 obtain⟨tg,it,ifs,as⟩:=c
 exact qd (M:=fun as=>M (.ListComp a [⟨tg,it,ifs,as⟩] sc p)) (aa h).1 (cZ (M:=fun tg=>M (.ListComp a [⟨tg,it,ifs,0⟩] sc p)) (aa h).2 fun s px h=>g a s px it ifs sc p h)
theorem nM{f}(h:Be f pe=true)(g:∀a b p,qv b=true->f a b=true->M (.Subscript a b p)):M pe:=lH h fun a b p h=>g a b p (aa h).1 (aa h).2
theorem i0{f}(h:og f pe=true)(g:∀a b c ps p,f a b c=true->M (.Subscript a (.Slice b c none ps) p)):M pe:=lH h fun a b p h=>zE (M:=fun b=>M (.Subscript a b p)) h fun l u st ps h=>nc (M:=fun st=>M (.Subscript a (.Slice l u st ps) p)) (aa h).1 (g a l u ps p (aa h).2)
theorem va{f}(h:HG f pe=true)(g:∀a k p1 p2 ps p,f a=true->M (.Subscript a (.Slice none none (some (.UnaryOp .USub (.Constant (.int 1) k p1) p2)) ps) p)):M pe:=lH h fun a b p h=>zE (M:=fun b=>M (.Subscript a b p)) h fun l u st ps h0=>by
 have h4:=(aa h0).2
 have h3:=(aa (aa h0).1).2
 have h:=(aa (aa h0).1).1
 rcases st with _|e
 ·exact ft h4
 ·exact nc (M:=fun l=>M (.Subscript a (.Slice l u (some e) ps) p)) (aa h).1 (nc (M:=fun u=>M (.Subscript a (.Slice none u (some e) ps) p)) (aa h).2 (mY (M:=fun e=>M (.Subscript a (.Slice none none (some e) ps) p)) h4 fun c p2 h5=>
   cx (M:=fun c=>M (.Subscript a (.Slice none none (some (.UnaryOp .USub c p2)) ps) p)) h5 fun i k p1 h6=>qd (M:=fun i=>M (.Subscript a (.Slice none none (some (.UnaryOp .USub (.Constant i k p1) p2)) ps) p)) h6 (g a k p1 p2 ps p h3)))
theorem d7{f}(h:mi f pe=true)(g:∀s p1 es p,f s es=true->M (.Call (.Name s p1) es [] p)):M pe:=zI h fun c es kw p h=>C6 (M:=fun kw=>M (.Call c es kw p)) (aa h).1 (cZ (M:=fun c=>M (.Call c es [] p)) (aa h).2 fun s p1 h=>g s p1 es p h)
theorem pQ{f}(h:Aw f pe=true)(g:∀e s ap es p,(ap.endLine==p.line)=true->f e s es=true->M (.Call (.Attribute e s ap) es [] p)):M pe:=zI h fun c es kw p h=>C6 (M:=fun kw=>M (.Call c es kw p)) (aa h).1 (u7 (M:=fun c=>M (.Call c es [] p)) (aa h).2 fun e s ap h=>g e s ap es p (aa h).1 (aa h).2)
theorem tH{f}(h:H6 f pe=true)(g:∀s p1 e s2 p2 p,f s s2 e=true->M (.Call (.Name s p1) [e, .Name s2 p2] [] p)):M pe:=d7 h fun s p1 es p h=>CQ (M:=fun es=>M (.Call (.Name s p1) es [] p)) h fun e b h=>cZ (M:=fun b=>M (.Call (.Name s p1) [e,b] [] p)) h fun s2 p2 h=>g s p1 e s2 p2 p h
theorem ly{f}(h:fy f pe=true):∃s p,pe= .Name s p/\f s=true:=cZ (M:=fun pe=>∃s p,pe= .Name s p/\f s=true) h fun s p h=>⟨s,p,rfl,h⟩
theorem DB{f}(h:tu f pe=true):∃a j p,pe= .Tuple a j p/\f a=true:=lM (M:=fun pe=>∃a j p,pe= .Tuple a j p/\f a=true) h fun a j p h=>⟨a,j,p,rfl,h⟩
theorem wS{f}(h:sT f pe=true):∃e s px it ifs sc p,pe= .ListComp e [⟨.Name s px,it,ifs,0⟩] sc p/\f e s it ifs sc=true:=lA (M:=fun pe=>∃e s px it ifs sc p,pe= .ListComp e [⟨.Name s px,it,ifs,0⟩] sc p/\f e s it ifs sc=true) h fun e s px it ifs sc p h=>⟨e,s,px,it,ifs,sc,p,rfl,h⟩
end
noncomputable def gw:E->Bool
 | .none=>true
 |_=>false
mutual
noncomputable def cE(sc:Scope):E->Expr->Bool
 | .none,pe=>fG (fun c=>decide (c= .none)) pe
 | .bool b,pe=>fG (fun c=>decide (c= .bool b)) pe
 | .int i,pe=>fG (fun c=>decide (c= .int i)) pe
 | .str j,pe=>fG (fun c=>decide (c= .str (nm j))) pe
 | .var x,pe=>fy (fun s=>seq s (nm x)&&isVar sc s) pe
 | .glob x,pe=>fy (fun s=>seq s (nm x)&&bU sc s) pe
 | .attr e a,pe=>pK (fun x s=>seq s (nm a)&&dh x&&cE sc e x) pe
 | .bop o a b,pe=>Dr (fun x q y=>decide (q=lh o)&&cE sc a x&&cE sc b y) pe
 | .neg e,pe=>Jb .USub (fun x=>cE sc e x) pe
 | .not e,pe=>Jb .Not (fun x=>cE sc e x) pe
 | .bool2 k es,pe=>pN (if k then .And else .Or) (fun xs=>hW sc es xs) pe
 | .cmp a o b,pe=>GW (fun x q y=>decide (q=hC o)&&cu y&&cE sc a x&&cE sc b y) pe
 | .cmp2 a o b p c,pe=>Ao (fun x q y r z=>decide (q=hC o)&&decide (r=hC p)&&cu z&&cE sc a x&&cE sc b y&&cE sc c z) pe
 | .ite t a b,pe=>JH (fun x y z=>cE sc t x&&cE sc a y&&cE sc b z) pe
 | .list es,pe=>ua (fun xs=>decide (xs.length<=1000)&&hW sc es xs) pe
 | .tup es,pe=>tu (fun xs=>decide (xs.length<=1000)&&hW sc es xs) pe
 | .comp elt x it ifs,pe=>sT (fun y s pit pifs scc=>seq s (nm x)&&oa sc scc s&&cu pit&&decide (pifs.length<=1)&&cE sc it pit&&cE scc elt y&&hW scc ifs pifs) pe
 | .sub e i,pe=>Be (fun x y=>cE sc e x&&cE sc i y) pe
 | .slice e lo hi,pe=>og (fun x y z=>cE sc e x&&xO (fun y=>cE sc lo y) (gw lo) y&&xO (fun z=>cE sc hi z) (gw hi) z) pe
 | .rev e,pe=>HG (fun x=>cE sc e x) pe
 | .call f args,pe=>mi (fun s xs=>(GY f).isSome&&seq s (nm f)&&bU sc s&&decide (xs.length<=20)&&hW sc args xs) pe
 | .new f args,pe=>mi (fun s xs=>(jZ f).isSome&&seq s (nm f)&&bU sc s&&decide (xs.length<=20)&&hW sc args xs) pe
 | .meth e m args,pe=>Aw (fun x s xs=>seq s (nm m)&&dh x&&decide (xs.length<=20)&&cE sc e x&&hW sc args xs) pe
 | .blt b args,pe=>mi (fun s xs=>seq s (kI b)&&bU sc s&&decide (xs.length<=20)&&hW sc args xs) pe
 | .isB e,pe=>H6 (fun s s2 x=>seq s k6&&seq s2 gr&&bU sc s&&bU sc s2&&cE sc e x) pe
 | .dict0,pe=>Lu (fun a b=>l0 a&&l0 b) pe
 | .bad,pe=> !Nat.beq pe.ctorIdx 22
noncomputable def hW(sc:Scope):List E->List Expr->Bool
 |[],l=>l0 l
 |e::es,l=>dW (fun x xs=>cE sc e x&&hW sc es xs) l
end
noncomputable def uZ(sc:Scope):List Nat->List Expr->Bool
 |[],l=>l0 l
 |x::xs,l=>dW (fun y ys=>fy (fun s=>seq s (nm x)&&isVar sc s) y&&uZ sc xs ys) l
noncomputable def cT(sc:Scope):T->Expr->Bool
 | .var x,pe=>fy (fun s=>seq s (nm x)&&isVar sc s) pe
 | .attr e a,pe=>pK (fun x s=>seq s (nm a)&&cE sc e x) pe
 | .sub e i,pe=>Be (fun x y=>cE sc e x&&cE sc i y) pe
 | .slice e lo hi,pe=>og (fun x y z=>cE sc e x&&xO (fun y=>cE sc lo y) false y&&xO (fun z=>cE sc hi z) false z) pe
 | .tup xs,pe=>tu (fun ps=>uZ sc xs ps) pe
 | .bad,_=>false
noncomputable def Mu(pe:Expr):Bool:=match pe with
 | .Tuple es _ _=> !(es.all (constantsAlone 8))
 |_=>true
mutual
noncomputable def cS(sc:Scope):S->Stmt->Bool
 | .asg t e,s=>lI (fun ts y=>Mu y&&cE sc e y&&l1 (fun x=>cT sc t x) ts) s
 | .expr e,s=>vA (fun x=>sg x&&cE sc e x) s
 | .ret e,s=>xh (fun x=>xO (fun y=>cE sc e y) false x) s
 | .ret0,s=>xh (fun x=>x.isNone) s
 | .ite t a b,s=>L9 (fun x y z=>cE sc t x&&um sc a y&&um sc b z) s
 | .while t b,s=>MP (fun x y z=>l0 z&&cE sc t x&&um sc b y) s
 | .for t it b,s=>JY (fun x y z e=>l0 e&&cu y&&cT sc t x&&cE sc it y&&um sc b z) s
 | .pass,s=>Nat.beq s.ctorIdx 25
 | .bad,_=>true
noncomputable def um(sc:Scope):List S->List Stmt->Bool
 |[],l=>l0 l
 |s::ss,l=>dW (fun x xs=>cS sc s x&&um sc ss xs) l
end
end Mine
end
section
open PySem PySem.W PySem.Calls PyProof.Rows
namespace Mine
set_option tactic.hygienic false
inductive Tag where|inst (c i:Nat)|idict (c i:Nat)|list (i:Nat)|dict (i:Nat)
abbrev Tm:=Addr->Option Tag
noncomputable def cap:Nat:=2 ^ 20
def IsRange(h:Heap)(a:Addr)(n:Int):Prop:=∃t u v,PySem.IsRange h a 0 n 1 t u v/\ -(2 ^ 40)<n/\n<2 ^ 40
def jT(h:Heap)(a:Addr)(vs:List Value):Prop:=∃n,h.get? a=some ⟨.type "tuple",none, .seq ⟨vs⟩ n, #[]⟩
theorem jT.tup{h:Heap}{a:Addr}{vs:List Value}(x:jT h a vs):IsTup h a ⟨vs⟩:=let⟨n,ho⟩:=x;⟨_,ho,rfl,n,rfl⟩
mutual
inductive VR(T:Tm)(h:Heap):V->Value->Prop
 |none:VR T h .none .none
 |bool {b}:VR T h (.bool b) (.bool b)
 |int {i t}:VR T h (.int i) (.int i t)
 |str {k t}:VR T h (.str k) (.str (nm k) t)
 |tup {xs a vs} (ha:T a=Option.none) (ho:jT h a vs) (hs:be T h xs vs) (hn:xs.length<=cap):VR T h (.tup xs) (.ref a)
 |fro {xs a vs} (ha:T a=Option.none) (ho:h.IsList a vs.toArray) (hs:be T h xs vs) (hn:xs.length<=cap):VR T h (.fro xs) (.ref a)
 |null {c}:VR T h (.ref c Option.none) .none
 |inst {c i a} (ha:T a=some (.inst c i)):VR T h (.ref c (some i)) (.ref a)
 |list {i a} (ha:T a=some (.list i)):VR T h (.list i) (.ref a)
 |dict {i a} (ha:T a=some (.dict i)):VR T h (.dict i) (.ref a)
 |range {n a} (ha:T a=Option.none) (ho:IsRange h a n):VR T h (.range n) (.ref a)
inductive be(T:Tm)(h:Heap):List V->List Value->Prop
 |nil:be T h [] []
 |cons {x xs v vs} (hx:VR T h x v) (hs:be T h xs vs):be T h (x::xs) (v::vs)
end
structure Ext(T T':Tm)(h h':Heap):Prop where
 sub:∀a t,T a=some t->T' a=some t
 new:∀a t,T' a=some t->T a=some t\/h.get? a=none
 keep:∀b o,T b=none->h.get? b=some o->h'.get? b=some o
theorem Ext.refl(T:Tm)(h:Heap):Ext T T h h:=⟨fun _ _ e=>e,fun _ _ e=> .inl e,fun _ _ _ e=>e⟩
theorem Ext.free{T T':Tm}{h h':Heap}(x:Ext T T' h h'){b:Addr}{o:Obj}(hb:T b=none)(ho:h.get? b=some o):T' b=none:=by
 cases q:T' b with
 |none=>rfl
 |some t=>
  rcases x.new b t q with e|e
  ·rw[hb] at e;cases e
  ·rw[ho] at e;cases e
theorem Ext.trans{T T' T'':Tm}{h h' h'':Heap}(x:Ext T T' h h')(y:Ext T' T'' h' h''):Ext T T'' h h'':=by
 refine⟨fun a t e=>y.sub a t (x.sub a t e),fun a t e=>?_,fun b o hb ho=>?_⟩
 ·rcases y.new a t e with e1|e1
  ·exact x.new a t e1
  ·cases q:h.get? a with
   |none=>exact .inr rfl
   |some o=>
    cases z:T a with
    |none=>have:=x.keep a o z q;rw[e1] at this;cases this
    |some u=>have h2:=y.sub a u (x.sub a u z);rw[e] at h2;exact .inl h2.symm
 ·exact y.keep b o (x.free hb ho) (x.keep b o hb ho)
section
variable{T T':Tm}{h h':Heap}
theorem be.ind{M:List V->List Value->Prop}(n:M [] [])(c:∀{x xs v vs},VR T h x v->be T h xs vs->M xs vs->M (x::xs) (v::vs)){xs vs}(x:be T h xs vs):M xs vs:=
 be.rec (motive_1:=fun _ _ _=>True) (motive_2:=fun xs vs _=>M xs vs) trivial trivial trivial trivial (fun _ _ _ _ _=>trivial) (fun _ _ _ _ _=>trivial) trivial (fun _=>trivial) (fun _=>trivial) (fun _=>trivial) (fun _ _=>trivial) n (fun hx hs _ ih=>c hx hs ih) x
def VI(T:Tm)(h:Heap):V->Value->Prop
 | .none,r=>r= .none
 | .bool b,r=>r= .bool b
 | .int i,r=>∃t,r= .int i t
 | .str k,r=>∃t,r= .str (nm k) t
 | .tup xs,r=>∃a vs,r= .ref a/\T a=none/\jT h a vs/\be T h xs vs/\xs.length<=cap
 | .fro xs,r=>∃a vs,r= .ref a/\T a=none/\h.IsList a (List.toArray vs)/\be T h xs vs/\xs.length<=cap
 | .ref c q,r=>(q=none/\r= .none)\/∃i a,q=some i/\r= .ref a/\T a=some (.inst c i)
 | .list i,r=>∃a,r= .ref a/\T a=some (.list i)
 | .dict i,r=>∃a,r= .ref a/\T a=some (.dict i)
 | .range n,r=>∃a,r= .ref a/\T a=none/\IsRange h a n
theorem VR.inv{v rv}(x:VR T h v rv):VI T h v rv:=
 VR.casesOn (motive_1:=fun v rv _=>VI T h v rv) x rfl rfl ⟨_,rfl⟩ ⟨_,rfl⟩ (fun ha ho hs hn=>⟨_,_,rfl,ha,ho,hs,hn⟩) (fun ha ho hs hn=>⟨_,_,rfl,ha,ho,hs,hn⟩) (.inl ⟨rfl,rfl⟩) (fun ha=> .inr ⟨_,_,rfl,rfl,ha⟩) (fun ha=>⟨_,rfl,ha⟩) (fun ha=>⟨_,rfl,ha⟩) (fun ha ho=>⟨_,rfl,ha,ho⟩)
section
variable{M:Value->Prop}{rv:Value}
theorem VR.eN(x:VR T h .none rv)(g:M .none):M rv:=x.inv▸g
theorem VR.eB{b}(x:VR T h (.bool b) rv)(g:M (.bool b)):M rv:=x.inv▸g
theorem VR.eI{i}(x:VR T h (.int i) rv)(g:∀t,M (.int i t)):M rv:=x.inv.elim fun t e=>e▸g t
theorem VR.eS{k}(x:VR T h (.str k) rv)(g:∀t,M (.str (nm k) t)):M rv:=x.inv.elim fun t e=>e▸g t
theorem VR.eT{xs}(x:VR T h (.tup xs) rv)(g:∀a vs,T a=Option.none->jT h a vs->be T h xs vs->xs.length<=cap->M (.ref a)):M rv:=x.inv.elim fun a e=>e.elim fun vs e=>e.1▸g a vs e.2.1 e.2.2.1 e.2.2.2.1 e.2.2.2.2
theorem VR.eF{xs}(x:VR T h (.fro xs) rv)(g:∀a vs,T a=Option.none->h.IsList a (List.toArray vs)->be T h xs vs->xs.length<=cap->M (.ref a)):M rv:=x.inv.elim fun a e=>e.elim fun vs e=>e.1▸g a vs e.2.1 e.2.2.1 e.2.2.2.1 e.2.2.2.2
theorem VR.e0{c}(x:VR T h (.ref c Option.none) rv)(g:M .none):M rv:=x.inv.elim (fun e=>e.2▸g) fun e=>e.elim fun i e=>e.elim fun a e=>aS e.1
theorem VR.e1{c i}(x:VR T h (.ref c (some i)) rv)(g:∀a,T a=some (.inst c i)->M (.ref a)):M rv:=x.inv.elim (fun e=>Hy e.1) fun e=>e.elim fun j e=>e.elim fun a e=>e.2.1▸g a (ag e.1▸e.2.2)
theorem VR.eL{i}(x:VR T h (.list i) rv)(g:∀a,T a=some (.list i)->M (.ref a)):M rv:=x.inv.elim fun a e=>e.1▸g a e.2
theorem VR.eD{i}(x:VR T h (.dict i) rv)(g:∀a,T a=some (.dict i)->M (.ref a)):M rv:=x.inv.elim fun a e=>e.1▸g a e.2
end
theorem be.inv{xs rvs}(x:be T h xs rvs):List.casesOn xs (rvs=[]) fun y ys=>∃v vs,rvs=v::vs/\VR T h y v/\be T h ys vs:=
 be.casesOn (motive_2:=fun xs rvs _=>List.casesOn xs (rvs=[]) fun y ys=>∃v vs,rvs=v::vs/\VR T h y v/\be T h ys vs) x rfl fun hx hs=>⟨_,_,rfl,hx,hs⟩
theorem be.e0{M:List Value->Prop}{rvs}(x:be T h [] rvs)(g:M []):M rvs:=(show rvs=[] from x.inv)▸g
theorem be.eC{M:List Value->Prop}{y ys rvs}(x:be T h (y::ys) rvs)(g:∀v vs,VR T h y v->be T h ys vs->M (v::vs)):M rvs:=
 (show ∃v vs,rvs=v::vs/\VR T h y v/\be T h ys vs from x.inv).elim fun v e=>e.elim fun vs e=>e.1▸g v vs e.2.1 e.2.2
def tP(o:Obj):Prop:=(∃v,o.data= .cell v)\/(∃es n,o.data= .dict es n)
def pS(o:Obj):Prop:=(o.cls= .type "tuple"\/o.cls= .type "list"\/o.cls= .type "range")/\¬tP o
theorem gS{o:Obj}{xs n}(hc:o.cls= .type "tuple"\/o.cls= .type "list"\/o.cls= .type "range")(h:o.data= .seq xs n):pS o:=⟨hc,fun q=>q.elim (fun⟨v,e⟩=>Data.noConfusion (h.symm.trans e)) fun⟨_,_,e⟩=>Data.noConfusion (h.symm.trans e)⟩
theorem kJ{o:Obj}{xs}(hc:o.cls= .type "tuple"\/o.cls= .type "list"\/o.cls= .type "range")(h:o.data= .fields xs):pS o:=⟨hc,fun q=>q.elim (fun⟨v,e⟩=>Data.noConfusion (h.symm.trans e)) fun⟨_,_,e⟩=>Data.noConfusion (h.symm.trans e)⟩
section
variable(sub:∀a t,T a=some t->T' a=some t)(k:∀b o,T b=Option.none->h.get? b=some o->pS o->T' b=Option.none/\h'.get? b=some o)
include sub k
theorem VR.g{v rv}(V:VR T h v rv):VR T' h' v rv:=by
 refine VR.rec (motive_1:=fun v rv _=>VR T' h' v rv) (motive_2:=fun xs vs _=>be T' h' xs vs) .none .bool .int .str (fun ha ho _ hn ih=>?_) (fun ha ho _ hn ih=>?_) .null (fun ha=> .inst (sub _ _ ha)) (fun ha=> .list (sub _ _ ha)) (fun ha=> .dict (sub _ _ ha)) (fun ha ho=>?_) .nil (fun _ _ ih ih2=> .cons ih ih2) V
 ·obtain⟨n,e⟩:=ho
  obtain⟨a,b⟩:=k _ _ ha e (gS (.inl rfl) rfl)
  exact .tup a ⟨n,b⟩ ih hn
 ·obtain⟨o,e,hc,n,hd⟩:=ho
  obtain⟨a,b⟩:=k _ _ ha e (gS (.inr (.inl hc)) hd)
  exact .fro a ⟨o,b,hc,n,hd⟩ ih hn
 ·obtain⟨t,u,v,e,r⟩:=ho
  obtain⟨a,b⟩:=k _ _ ha e (kJ (.inr (.inr rfl)) rfl)
  exact .range a ⟨t,u,v,b,r⟩
theorem be.g{vs rvs}(V:be T h vs rvs):be T' h' vs rvs:=V.ind .nil fun hx _ ih=> .cons (hx.g sub k) ih
end
section
variable(x:Ext T T' h h')
include x
theorem jT.mono{a vs}(ha:T a=none)(ho:jT h a vs):T' a=none/\jT h' a vs:=ho.elim fun n e=>⟨x.free ha e,n,x.keep _ _ ha e⟩
theorem VR.mono{v rv}(V:VR T h v rv):VR T' h' v rv:=V.g x.sub fun b o hb ho _=>⟨x.free hb ho,x.keep b o hb ho⟩
theorem be.mono{vs rvs}(V:be T h vs rvs):be T' h' vs rvs:=V.ind .nil fun hx _ ih=> .cons (hx.mono x) ih
end
theorem be.length{xs vs}(V:be T h xs vs):xs.length=vs.length:=V.ind (M:=fun xs vs=>xs.length=vs.length) rfl fun _ _ ih=>congrArg (· +1) ih
theorem be.get{xs vs}(V:be T h xs vs):∀{j:Nat} {x:Mine.V},xs[j]?=some x->∃v,vs[j]?=some v/\VR T h x v:=
 V.ind (M:=fun xs vs=>∀{j:Nat} {x:Mine.V},xs[j]?=some x->∃v,vs[j]?=some v/\VR T h x v) (fun {j x} e=>aS e) fun {y ys v vs} hx _ ih {j x}=>match j with
  |0=>fun e=>⟨v,rfl,ag e▸hx⟩
  |_+1=>fun e=>ih e
theorem be.append{xs vs ys ws}(V:be T h xs vs)(W:be T h ys ws):be T h (xs++ys) (vs++ws):=V.ind (M:=fun xs vs=>be T h (xs++ys) (vs++ws)) W fun hx _ ih=> .cons hx ih
theorem be.drop{xs vs}(V:be T h xs vs):∀n,be T h (xs.drop n) (vs.drop n):=
 V.ind (M:=fun xs vs=>∀n,be T h (xs.drop n) (vs.drop n)) (fun n=>match n with|0=> .nil|_+1=> .nil) fun hx hs ih n=>match n with|0=> .cons hx hs|n+1=>ih n
theorem be.take{xs vs}(V:be T h xs vs):∀n,be T h (xs.take n) (vs.take n):=
 V.ind (M:=fun xs vs=>∀n,be T h (xs.take n) (vs.take n)) (fun n=>match n with|0=> .nil|_+1=> .nil) fun hx _ ih n=>match n with|0=> .nil|n+1=> .cons hx (ih n)
theorem be.reverse{xs vs}(V:be T h xs vs):be T h xs.reverse vs.reverse:=
 V.ind (M:=fun xs vs=>be T h xs.reverse vs.reverse) .nil fun {x xs v vs} hx _ ih=>(List.reverse_cons (as:=xs))▸(List.reverse_cons (as:=vs))▸ih.append (.cons hx .nil)
theorem be.set{y:V}{w:Value}(hy:VR T h y w){xs vs}(V:be T h xs vs):∀j,be T h (xs.set j y) (vs.set j w):=
 V.ind (M:=fun xs vs=>∀j,be T h (xs.set j y) (vs.set j w)) (fun _=> .nil) fun hx hs ih j=>match j with|0=> .cons hy hs|j+1=> .cons hx (ih j)
end
def DR(P:Pg)(T:Tm)(h:Heap)(G:H)(c i:Nat)(es:List DictEntry):Prop:=
 ∃l:List (Nat×DictEntry),es=l.map (·.2)/\(∀p∈l,(∃t,p.2.key= .str (nm p.1) t)/\(P.ty c p.1).isSome=true)/\(l.map (·.1)).Nodup/\
  ∀a t,P.ty c a=some t->fj a c i G.raw=true->∃e,l.lookup a=some e/\VR T h (G.get t a c i) e.val
structure Cx where
 prog:Program
 w:World
 base:Heap
 mg:Str->Option Value
 mb:Str->Option Value
 K:Frag
 clsA:Nat->Option Addr
 fnA:Nat->Option Addr
def DV(T:Tm)(h:Heap)(o:Option V)(r:Option Value):Prop:=match o with
 |some v=>∃rv,r=some rv/\VR T h v rv
 |none=>r=none
theorem DV.map{T T':Tm}{h h':Heap}{o:Option V}{r:Option Value}(x:DV T h o r)(g:∀{v rv},VR T h v rv->VR T' h' v rv):DV T' h' o r:=by
 rcases o with _|v
 ·exact x
 ·exact Exists.imp (fun rv e=>⟨e.1,g e.2⟩) x
def Cell(C:Cx)(P:Pg)(T:Tm)(H:H)(h:Heap)(a:Addr):Tag->Prop
 | .inst c i=>∃d ca,h.get? a=some (instObj ca d)/\T d=some (.idict c i)/\C.clsA c=some ca/\i<H.ni
 | .idict c i=>∃es n,h.get? a=some ⟨.type "dict",none, .dict es n, #[]⟩/\DR P T h H c i es.toList/\i<H.ni
 | .list i=>∃vs n,h.get? a=some ⟨.type "list",none, .seq ⟨vs⟩ n, #[]⟩/\be T h (H.lst i) vs/\i<H.nl/\(H.lst i).length<=cap
 | .dict i=>∃kvs:List (Int×Value),h.DictOf (intKind C.prog C.w) a kvs/\(∀p∈kvs,0<=p.1/\p.1<1000)/\(∀k,DV T h ((H.dct i).1 k) (valueAt kvs k))/\((H.dct i).2=true->∃n,h.get? a=some ⟨.type "dict",none, .dict #[] n, #[]⟩)/\i<H.nd
structure Rep(C:Cx)(P:Pg)(T:Tm)(G:H)(h:Heap):Prop where
 keep:∀b o,C.base.get? b=some o->h.get? b=some o
 above:∀a t,T a=some t->C.base.get? a=none
 cell:∀a t,T a=some t->Cell C P T G h a t
 inj:∀a b t,T a=some t->T b=some t->a=b
theorem Rep.there{C:Cx}{P:Pg}{T:Tm}{H:Mine.H}{h:Heap}(R:Rep C P T H h){a:Addr}{t:Tag}(e:T a=some t):∃o,h.get? a=some o:=by
 have:=R.cell a t e
 cases t with
 |inst c i=>obtain⟨d,ca,ho,_⟩:=this;exact⟨_,ho⟩
 |idict c i=>obtain⟨d,c,ho,_⟩:=this;exact⟨_,ho⟩
 |list i=>obtain⟨d,c,ho,_⟩:=this;exact⟨_,ho⟩
 |dict i=>obtain⟨f,⟨o,_,_,ho,_⟩,_⟩:=this;exact⟨o,ho⟩
theorem Rep.lt{C:Cx}{P:Pg}{T:Tm}{H:Mine.H}{h:Heap}(R:Rep C P T H h){a:Addr}{t:Tag}(e:T a=some t):a<h.objs.size:=by
 obtain⟨o,ho⟩:=R.there e;exact Heap.lt_size ho
theorem Rep.free{C:Cx}{P:Pg}{T:Tm}{H:Mine.H}{h:Heap}(R:Rep C P T H h){a:Addr}(ha:h.objs.size<=a):T a=none:=by
 cases q:T a with
 |none=>rfl
 |some t=>exact absurd (R.lt q) (Nat.not_lt.mpr ha)
theorem Rep.old{C:Cx}{P:Pg}{T:Tm}{H:Mine.H}{h:Heap}(R:Rep C P T H h){a:Addr}{o:Obj}(ha:C.base.get? a=some o):T a=none:=by
 cases q:T a with
 |none=>rfl
 |some t=>have:=R.above a t q;rw[ha] at this;cases this
theorem dp{h:Heap}{a:Addr}(ha:h.objs.size<=a):h.get? a=none:=by
 cases q:h.get? a with
 |none=>rfl
 |some o=>exact absurd (Heap.lt_size q) (Nat.not_lt.mpr ha)
theorem Rep.dj{C:Cx}{P:Pg}{T:Tm}{H:Mine.H}{h:Heap}(R:Rep C P T H h){a:Addr}(ha:h.objs.size<=a):C.base.get? a=none:=by
 cases q:C.base.get? a with
 |none=>rfl
 |some o=>exact absurd (Heap.lt_size (R.keep _ _ q)) (Nat.not_lt.mpr ha)
structure EU(sc es:Scope):Prop where
 kind:es.kind= .function
 loc:∀s,sc.names.lookup s=some .local->es.names.lookup s=some .local
 oO:∀s,(sc.names.lookup s=some .cell\/sc.names.lookup s=some .free)->(es.names.lookup s=some .cell\/es.names.lookup s=some .free)
 glob:∀s,sc.names.lookup s=some .globalImplicit->es.names.lookup s=some .globalImplicit
theorem EU.refl{sc:Scope}(h:sc.kind= .function):EU sc sc:=⟨h,fun _ e=>e,fun _ e=>e,fun _ e=>e⟩
def Own(env:Env)(a:Addr):Prop:=a=env.locals\/∃n,env.cells.lookup n=some a
def iR(T:Tm)(h:Heap)(o:Option V)(r:Option Value):Prop:=match o with
 |some v=>∃rv,r=some rv/\VR T h v rv
 |none=>True
theorem iR.mono{T T':Tm}{h h':Heap}{o:Option V}{r:Option Value}(x:iR T h o r)(g:∀{v rv},VR T h v rv->VR T' h' v rv):iR T' h' o r:=by
 rcases o with _|v
 ·exact trivial
 ·exact Exists.imp (fun rv e=>⟨e.1,g e.2⟩) x
structure bI(C:Cx)(sc:Scope)(T:Tm)(env:Env)(ρ:au)(h:Heap):Prop where
 scope:EU sc env.scope
 glob:env.globals=mainGlobals
 blt:env.builtins=builtinsNs
 locs:∃m,h.Ns env.locals m/\∀x,sc.names.lookup (nm x)=some .local->iR T h (ρ x) (m (nm x))
 cels:∀x,(sc.names.lookup (nm x)=some .cell\/sc.names.lookup (nm x)=some .free)->∃c ov,env.cells.lookup (nm x)=some c/\h.IsCell c ov/\iR T h (ρ x) ov
 own:∀a,Own env a->T a=none
 apart:∀n c,(n,c)∈env.cells->c≠env.locals
 pair:env.cells.Pairwise fun x y=>x.2≠y.2
 above:∀a,Own env a->C.base.get? a=none
 there:∀a,Own env a->∃o,h.get? a=some o
 mild:∀a o,Own env a->h.get? a=some o->tP o
section
variable{C:Cx}{P:Pg}{sc:Scope}{T T':Tm}{G:Mine.H}{env:Env}{ρ:au}{h h':Heap}
theorem bI.go(F:bI C sc T env ρ h)(k:∀a o,Own env a->h.get? a=some o->h'.get? a=some o)(n:∀a,Own env a->T' a=none)(g:∀{v rv},VR T h v rv->VR T' h' v rv):bI C sc T' env ρ h':=by
 have th:∀a,Own env a->∃o,h.get? a=some o/\h'.get? a=some o:=fun a ha=>(F.there a ha).imp fun o ho=>⟨ho,k _ _ ha ho⟩
 refine⟨F.scope,F.glob,F.blt,F.locs.imp fun m q=>⟨?_,fun y hy=>(q.2 y hy).mono g⟩,fun y hy=>?_,n,F.apart,F.pair,F.above,fun a ha=>(th a ha).imp fun o ho=>ho.2,fun a o ha ho=>(th a ha).elim fun o' ho'=>F.mild a o ha (ho'.1.trans (ho'.2.symm.trans ho))⟩
 ·obtain⟨o,es,ep,ho,r⟩:=q.1;exact⟨o,es,ep,k _ _ (.inl rfl) ho,r⟩
 ·obtain⟨c,ov,hc,⟨o,ho,hd⟩,hv⟩:=F.cels y hy
  exact⟨c,ov,hc,⟨o,k _ _ (.inr ⟨_,hc⟩) ho,hd⟩,hv.mono g⟩
theorem bI.mono(F:bI C sc T env ρ h)(x:Ext T T' h h'):bI C sc T' env ρ h':=F.go (fun _ _ ha=>x.keep _ _ (F.own _ ha)) (fun a ha=>(F.there a ha).elim fun _ ho=>x.free (F.own _ ha) ho) (VR.mono x)
theorem bI.less{ρ':au}(F:bI C sc T env ρ h)(l:∀y,ρ' y=none\/ρ' y=ρ y):bI C sc T env ρ' h:=by
 have hl:∀{y r},iR T h (ρ y) r->iR T h (ρ' y) r:=fun {y r} q=>(l y).elim (fun e=>e▸trivial) fun e=>e▸q
 exact⟨F.scope,F.glob,F.blt,F.locs.imp fun m q=>⟨q.1,fun y hy=>hl (q.2 y hy)⟩,fun y hy=>(F.cels y hy).imp fun c=>Exists.imp fun ov q=>⟨q.1,q.2.1,hl q.2.2⟩,F.own,F.apart,F.pair,F.above,F.there,F.mild⟩
theorem vY{L:Addr}(hs:Heap.SameBut L h h')(hT:T L=none):∀a t,T a=some t->h'.get? a=h.get? a:=fun a t e=>hs.2 a (fun q=>by rw[q,hT] at e;exact nomatch e)
theorem VR.heap(k:∀b o,T b=Option.none->h.get? b=some o->(∃v,o.data= .cell v)\/(∃c,o.cls= .type c/\c≠"tuple"/\c≠"list"/\c≠"range")\/(∃es n,o.data= .dict es n)\/h'.get? b=some o){v rv}(x:VR T h v rv):VR T h' v rv:=
 x.g (fun _ _ e=>e) fun b o hb ho hs=>⟨hb,(k b o hb ho).elim (fun e=>absurd (.inl e) hs.2) fun e=>e.elim (fun⟨c,hc,n1,n2,n3⟩=>(hs.1.elim (fun e=>n1 (Value.type.inj (hc.symm.trans e))) fun e=>e.elim (fun e=>n2 (Value.type.inj (hc.symm.trans e))) fun e=>n3 (Value.type.inj (hc.symm.trans e))).elim) fun e=>e.elim (fun e=>absurd (.inr e) hs.2) id⟩
theorem be.heap(k:∀{v rv},VR T h v rv->VR T h' v rv){vs rvs}(x:be T h vs rvs):be T h' vs rvs:=x.ind .nil fun hx _ ih=> .cons (k hx) ih
theorem Cell.map{a:Addr}{t:Tag}(hg:h'.get? a=h.get? a)(k:∀{v rv},VR T h v rv->VR T' h' v rv)(s:∀{a t},T a=some t->T' a=some t)(c:Cell C P T G h a t):Cell C P T' G h' a t:=by
 induction t with
 |inst c i=>obtain⟨d,ca,ho,hd,r⟩:=c;exact⟨d,ca,hg.trans ho,s hd,r⟩
 |idict c i=>
  obtain⟨es,n,ho,⟨l,e1,e2,e3,e4⟩,r⟩:=c
  exact⟨es,n,hg.trans ho,⟨l,e1,e2,e3,fun a t h1 h2=>(e4 a t h1 h2).imp fun e q=>⟨q.1,k q.2⟩⟩,r⟩
 |list i=>obtain⟨vs,n,ho,hv,r⟩:=c;exact⟨vs,n,hg.trans ho,hv.ind .nil fun hx _ ih=> .cons (k hx) ih,r⟩
 |dict i=>
  obtain⟨f,⟨o,es,ep,ho,r⟩,hk,hf,he,hi⟩:=c
  exact⟨f,⟨o,es,ep,hg.trans ho,r⟩,hk,fun q=>(hf q).map k,fun q=>(he q).imp fun n hn=>hg.trans hn,hi⟩
theorem Cell.heap{a:Addr}{t:Tag}(hg:h'.get? a=h.get? a)(k:∀{v rv},VR T h v rv->VR T h' v rv)(c:Cell C P T G h a t):Cell C P T G h' a t:=c.map hg k id
structure gd(h:Heap)(L:Addr):Prop where
 soft:∀o,h.get? L=some o->(∃v,o.data= .cell v)\/(∃es n,o.data= .dict es n)\/(∃c,o.cls= .type c/\c≠"tuple"/\c≠"list"/\c≠"range")
theorem VR.but{L:Addr}(X:Heap.ExtBut L h h')(hf:gd h L){v rv}(x:VR T h v rv):VR T h' v rv:=
 x.heap fun b o _ ho=>if q:b=L then(hf.soft o (q▸ho)).elim .inl fun e=>e.elim (fun e=> .inr (.inr (.inl e))) fun e=> .inr (.inl e) else .inr (.inr (.inr (X b o q ho)))
theorem VR.own{L:Addr}(hs:Heap.SameBut L h h')(hf:gd h L){v rv}(x:VR T h v rv):VR T h' v rv:=x.but hs.extBut hf
theorem Rep.own{L:Addr}(R:Rep C P T G h)(hs:Heap.SameBut L h h')(hf:gd h L)(hT:T L=none)(hb:C.base.get? L=none):Rep C P T G h':=by
 refine⟨fun b o e=>(hs.2 b (fun q=>by rw[q,hb] at e;exact nomatch e)).trans (R.keep b o e),R.above,fun a t e=>?_,R.inj⟩
 exact(R.cell a t e).heap (vY hs hT a t e) fun x=>x.own hs hf
theorem mO(F:bI C sc T env ρ h):gd h env.locals:=⟨fun o ho=>by
 obtain⟨m,⟨o',es,ep,ho',hd,_⟩,_⟩:=F.locs
 rw[ho] at ho';obtain rfl:=ag ho';exact .inr (.inl ⟨_,_,hd⟩)⟩
theorem qu{c:Addr}{ov:Option Value}(x:h.IsCell c ov):gd h c:=⟨fun o ho=>by
 obtain⟨o',ho',hd⟩:=x
 rw[ho] at ho';obtain rfl:=ag ho';exact .inl ⟨_,hd⟩⟩
structure cy(env:Env)(T T':Tm)(h h':Heap):Prop where
 sub:∀a t,T a=some t->T' a=some t
 new:∀a t,T' a=some t->T a=some t\/(h.get? a=none/\¬Own env a)
 keep:∀b o,T b=none->¬Own env b->h.get? b=some o->h'.get? b=some o
theorem Ext.toF(F:bI C sc T env ρ h)(x:Ext T T' h h'):cy env T T' h h':=⟨x.sub,fun a t e=>(x.new a t e).imp id fun q=>⟨q,fun w=>by
 obtain⟨o,ho⟩:=F.there a w
 rw[q] at ho;cases ho⟩,fun b o hb _ ho=>x.keep b o hb ho⟩
theorem cy.trans{T'':Tm}{h'':Heap}(x:cy env T T' h h')(y:cy env T' T'' h' h''):cy env T T'' h h'':=by
 refine⟨fun a t e=>y.sub a t (x.sub a t e),fun a t e=>?_,fun b o hb hw ho=>?_⟩
 ·rcases y.new a t e with e1|⟨e1,e2⟩
  ·exact x.new a t e1
  ·cases q:h.get? a with
   |none=>exact .inr ⟨rfl,e2⟩
   |some o=>
    cases z:T a with
    |none=>have:=x.keep a o z e2 q;rw[e1] at this;exact nomatch this
    |some u=>have h2:=y.sub a u (x.sub a u z);rw[e] at h2;exact .inl h2.symm
 ·refine y.keep b o ?_ hw (x.keep b o hb hw ho)
  cases q:T' b with
  |none=>rfl
  |some t=>
   rcases x.new b t q with e|e
   ·rw[hb] at e;cases e
   ·rw[ho] at e;exact nomatch e.1
theorem cy.refl(env:Env)(T:Tm)(h:Heap):cy env T T h h:=⟨fun _ _ e=>e,fun _ _ e=> .inl e,fun _ _ _ _ e=>e⟩
theorem cR{ρ:au}{x y:Nat}{v:V}(h:y≠x):upd ρ x v y=ρ y:=by
 show(bif Nat.beq y x then some v else ρ y)=ρ y
 rw[Bool.eq_false_iff.mpr fun q=>h (bA q)];rfl
theorem eM{ρ:au}{x:Nat}{v:V}:upd ρ x v x=some v:=by
 show(bif Nat.beq x x then some v else ρ x)=_
 rw[Nat.beq_refl];rfl
theorem pC{x y:Nat}(h:nm x≠nm y):x≠y:=fun e=>h (by rw[e])
theorem bI.stored(F:bI C sc T env ρ h){L:Addr}{o':Obj}(hL:Own env L)(hs:Heap.SameBut L h h')(ho':h'.get? L=some o')(hm:tP o'){ρ':au}
  (locs:∃m,h'.Ns env.locals m/\∀x,sc.names.lookup (nm x)=some .local->iR T h' (ρ' x) (m (nm x)))
  (cels:∀x,(sc.names.lookup (nm x)=some .cell\/sc.names.lookup (nm x)=some .free)->∃c ov,env.cells.lookup (nm x)=some c/\h'.IsCell c ov/\iR T h' (ρ' x) ov):bI C sc T env ρ' h':=
 ⟨F.scope,F.glob,F.blt,locs,cels,F.own,F.apart,F.pair,F.above,fun a ha=>if q:a=L then⟨o',q▸ho'⟩ else(F.there a ha).imp fun o ho=>(hs.2 a q).trans ho,fun a o ha ho=>if q:a=L then ag (ho'.symm.trans (q▸ho))▸hm else F.mild a o ha ((hs.2 a q).symm.trans ho)⟩
theorem cy.own{L:Addr}(hL:Own env L)(hs:Heap.SameBut L h h'):cy env T T h h':=⟨fun _ _ e=>e,fun _ _ e=> .inl e,fun b _ _ hw ho=>(hs.2 b fun q=>hw (q▸hL)).trans ho⟩
theorem store{M:Model}{A:Around}{E:Value->Shared->Prop}{Q:Unit->Shared->Prop}{s:Shared}{x:Nat}{v:V}{rv:Value}
  (F:bI C sc T env ρ s.heap)(R:Rep C P T G s.heap)(hv:VR T s.heap v rv)(hx:isVar sc (nm x)=true)
  (k:∀h' tk,cy env T T s.heap h'->bI C sc T env (upd ρ x v) h'->Rep C P T G h'->VR T h' v rv->(∃L,Own env L/\Heap.SameBut L s.heap h'/\gd s.heap L/\(sc.names.lookup (nm x)=some .local->L=env.locals))->Q () {s with heap:=h',toks:=tk}):
  wpAny M A (storeName env (nm x) rv) Q E s:=by
 have hk:env.scope.kind= .function:=F.scope.kind
 have inj:∀y,nm y=nm x->y=x:=fun y e=>fQ (aa hx).1 e
 have key:=fK hx
 have fin:∀{L:Addr} {h':Heap} {o':Obj} {tk:Nat},Own env L->Heap.SameBut L s.heap h'->gd s.heap L->h'.get? L=some o'->tP o'->(sc.names.lookup (nm x)=some .local->L=env.locals)->
   ((∀{v rv},VR T s.heap v rv->VR T h' v rv)->∃m,h'.Ns env.locals m/\∀y,sc.names.lookup (nm y)=some .local->iR T h' (upd ρ x v y) (m (nm y)))->
   ((∀{v rv},VR T s.heap v rv->VR T h' v rv)->∀y,(sc.names.lookup (nm y)=some .cell\/sc.names.lookup (nm y)=some .free)->∃c ov,env.cells.lookup (nm y)=some c/\h'.IsCell c ov/\iR T h' (upd ρ x v y) ov)->Q () {s with heap:=h',toks:=tk}:=fun {L h' o' tk} hL hs hf ho hm hl lo ce=>
  k h' tk (cy.own hL hs) (F.stored hL hs ho hm (lo fun w=>w.own hs hf) (ce fun w=>w.own hs hf)) (R.own hs hf (F.own _ hL) (F.above _ hL)) (hv.own hs hf) ⟨L,hL,hs,hf,hl⟩
 obtain⟨m,hn,hl⟩:=F.locs
 rcases key with hloc|hcel
 ·refine wpAny_storeName_local (F.scope.loc _ hloc) hn (fun h' hn' hs'=>?_) (by rw[hk];rfl)
  obtain⟨o',es,ep,ho',hd,r⟩:=id hn'
  refine fin (.inl rfl) hs' (mO F) ho' (.inr ⟨_,_,hd⟩) (fun _=>rfl) (fun w=>⟨_,hn',fun y hy=>?_⟩) fun w y hy=>?_
  ·by_cases e:nm y=nm x
   ·rw[inj y e,eM,if_pos rfl];exact⟨rv,rfl,w hv⟩
   ·rw[cR (pC e),if_neg e];exact(hl y hy).mono w
  ·obtain⟨c,ov,hc,hi,hw⟩:=F.cels y hy
   have hne:nm y≠nm x:=fun e=>by rw[e,hloc] at hy;exact hy.elim (fun q=>nomatch ag q) fun q=>nomatch ag q
   exact⟨c,ov,hc,hi.sameBut hs' (F.apart _ _ (mem_of_lookup hc)),by rw[cR (pC hne)];exact hw.mono w⟩
 ·obtain⟨c,ov,hc,hi,hw⟩:=F.cels x hcel
  have hm:=mem_of_lookup hc
  have hsto:(∀h',h'.IsCell c (some rv)->Heap.SameBut c s.heap h'->Q () {s with heap:=h'})->wpAny M A (storeName env (nm x) rv) Q E s:=fun q=>by
   unfold storeName
   rcases F.scope.oO _ hcel with hcel'|hcel'
   ·delta Env.kindOf;simp only[hcel',hk]
    exact wpAny_bind (wpAny_cellOf hc (wpAny_cellSet hi q))
   ·delta Env.kindOf;simp only[hcel',hk]
    exact wpAny_bind (wpAny_cellOf hc (wpAny_cellSet hi q))
  have nl:∀{y},sc.names.lookup (nm y)=some .local->nm y≠nm x:=fun hy e=>by rw[e] at hy;exact hcel.elim (fun q=>nomatch ag (q.symm.trans hy)) fun q=>nomatch ag (q.symm.trans hy)
  refine hsto fun h' hi' hs'=>?_
  obtain⟨o',ho',hd⟩:=id hi'
  refine fin (.inr ⟨_,hc⟩) hs' (qu hi) ho' (.inl ⟨_,hd⟩) (fun e=>absurd rfl (nl e)) (fun w=>⟨m,hn.sameBut hs' (Ne.symm (F.apart _ _ hm)),fun y hy=>?_⟩) fun w y hy=>?_
  ·rw[cR (pC (nl hy))];exact(hl y hy).mono w
  ·by_cases e:nm y=nm x
   ·rw[inj y e,eM];exact⟨c,some rv,hc,hi',rv,rfl,w hv⟩
   ·obtain⟨c',ov',hc',hi2,hw'⟩:=F.cels y hy
    exact⟨c',ov',hc',hi2.sameBut hs' fun q=>e (name_of_addr F.pair (q▸mem_of_lookup hc') hm),by rw[cR (pC e)];exact hw'.mono w⟩
end
def AR(k:Nat)(A:Around)(n:Nat):Prop:=2*A.depth+n+k<=1900/\A.units+2*n+2*k<=8900/\A.handled=none
theorem AR.lower{k k' n n':Nat}{A:Around}(a:AR k A n)(h:n'+k'<=n+k):AR k' A n':=by
 obtain⟨a1,a2,a3⟩:=a;exact⟨by lia,by lia,a3⟩
theorem AR.dn{k n:Nat}{A:Around}(a:AR k A (n+1)):AR k A n:=a.lower (Nat.add_le_add_right (Nat.le_succ n) k)
theorem AR.u{k n:Nat}{A:Around}(a:AR k A n):A.units<=8900:=by have:=a.2.1;lia
theorem AR.h{k n:Nat}{A:Around}(a:AR k A n):A.handled=none:=a.2.2
theorem AR.d{k n:Nat}{A:Around}(a:AR k A n):A.depth<=950:=by have:=a.1;lia
section
variable(C:Cx)(P:Pg)
def Back(T:Tm)(s:Shared)(v:V)(G':Mine.H)(Q:Value->Shared->Prop):Prop:=
 ∀rv T' h' tk,Ext T T' s.heap h'->Rep C P T' G' h'->VR T' h' v rv->Q rv {s with heap:=h',toks:=tk}
def jN(T:Tm)(s:Shared)(k:V->Mine.H->Prop)(Q:Value->Shared->Prop):Prop:=∀v G',k v G'->Back C P T s v G' Q
def PT(m:Nat)(T:Tm)(s:Shared)(k:List V->Mine.H->Prop)(Q:List Value->Shared->Prop):Prop:=
 ∀vs G',k vs G'->∀rvs T' h' tk,Ext T T' s.heap h'->Rep C P T' G' h'->be T' h' vs rvs->rvs.length=m->Q rvs {s with heap:=h',toks:=tk}
def zu(T:Tm)(s:Shared)(k:Bool->Mine.H->Prop)(Q:Bool->Shared->Prop):Prop:=
 ∀b G',k b G'->∀T' h' tk,Ext T T' s.heap h'->Rep C P T' G' h'->Q b {s with heap:=h',toks:=tk}
def CF(env:Env)(sc:Scope)(T:Tm)(s:Shared)(k:Fl->au->Mine.H->Prop)(Q:Flow->Shared->Prop):Prop:=
 ∀f ρ' G',k f ρ' G'->∀fl T' h' tk,cy env T T' s.heap h'->Rep C P T' G' h'->bI C sc T' env ρ' h'->
  (match f with| .next=>fl= .next| .ret v=>∃rv,fl= .ret rv/\VR T' h' v rv)->Q fl {s with heap:=h',toks:=tk}
def Em(env:Env)(sc:Scope)(T:Tm)(s:Shared)(k:au->Mine.H->Prop)(Q:Unit->Shared->Prop):Prop:=
 ∀ρ' G',k ρ' G'->∀T' h' tk,cy env T T' s.heap h'->Rep C P T' G' h'->bI C sc T' env ρ' h'->Q () {s with heap:=h',toks:=tk}
def bX(n:Nat):Prop:=∀{sc ρ G e k},aN P n ρ G e k->∀{pe T env A s},cE sc e pe=true->AR 2 A n->bI C sc T env ρ s.heap->Rep C P T G s.heap->
 ∀{Q E},jN C P T s k Q->wpAny (model C.prog C.w) A (eval pe env) Q E s
def dF(n:Nat):Prop:=∀{sc ρ G es k},cp P n ρ G es k->∀{pes T env A s p},hW sc es pes=true->AR 2 A n->bI C sc T env ρ s.heap->Rep C P T G s.heap->
 ∀{Q E},PT C P pes.length T s k Q->wpAny (model C.prog C.w) A (spliced (backTo p (starEach pes env))) Q E s
def pA(n:Nat):Prop:=∀{sc ρ G c es k},gv P n ρ G c es k->∀{pes T env A s p},hW sc es pes=true->AR 2 A n->bI C sc T env ρ s.heap->Rep C P T G s.heap->
 ∀{Q E},jN C P T s k Q->wpAny (model C.prog C.w) A (eval (.BoolOp (if c then .And else .Or) pes p) env) Q E s
def dG(n:Nat):Prop:=∀{sc ρ G e k},cC P n ρ G e k->∀{pe T env A s},cE sc e pe=true->AR 2 A n->bI C sc T env ρ s.heap->Rep C P T G s.heap->
 ∀{Q E},zu C P T s k Q->wpAny (model C.prog C.w) A (isTrue pe env (eval pe env)) Q E s
def k8(n:Nat):Prop:=∀{sc ρ G c es k},cD P n ρ G c es k->∀{pes T env A s p w},hW sc es pes=true->AR 2 A n->bI C sc T env ρ s.heap->Rep C P T G s.heap->
 ∀{Q E},zu C P T s k Q->wpAny (model C.prog C.w) A (isTrue (.BoolOp (if c then .And else .Or) pes p) env w) Q E s
variable{C P}{T T':Tm}{s:Shared}{h':Heap}{tk:Nat}
abbrev GE(C:Cx)(A:Around)(env:Env)(Q:Value->Shared->Prop)(E:Value->Shared->Prop)(s:Shared)(pe:Expr):Prop:=wpAny (model C.prog C.w) A (eval pe env) Q E s
abbrev GT(C:Cx)(A:Around)(env:Env)(Q:Bool->Shared->Prop)(E:Value->Shared->Prop)(s:Shared)(pe:Expr):Prop:=wpAny (model C.prog C.w) A (isTrue pe env (eval pe env)) Q E s
abbrev GA(C:Cx)(A:Around)(env:Env)(rv:Value)(Q:Unit->Shared->Prop)(E:Value->Shared->Prop)(s:Shared)(pe:Expr):Prop:=wpAny (model C.prog C.w) A (assign pe env rv) Q E s
abbrev GX(C:Cx)(A:Around)(env:Env)(Q:Flow->Shared->Prop)(E:Value->Shared->Prop)(s:Shared)(ps:Stmt):Prop:=wpAny (model C.prog C.w) A (exec ps env) Q E s
theorem Back.of{v:V}{G':Mine.H}{Q:Value->Shared->Prop}(b:Back C P T s v G' Q)(x:Ext T T' s.heap h'):Back C P T' {s with heap:=h',toks:=tk} v G' Q:=fun rv T'' h'' tk' y R V=>b rv T'' h'' tk' (x.trans y) R V
theorem Back.now{v:V}{G:Mine.H}{Q:Value->Shared->Prop}(b:Back C P T s v G Q){rv:Value}{tk:Nat}(R:Rep C P T G s.heap)(x:VR T s.heap v rv):Q rv {s with toks:=tk}:=
 b rv T s.heap tk (Ext.refl _ _) R x
theorem jN.of{k}{Q:Value->Shared->Prop}(b:jN C P T s k Q)(x:Ext T T' s.heap h'):jN C P T' {s with heap:=h',toks:=tk} k Q:=fun v G' hk=>(b v G' hk).of x
theorem zu.of{k}{Q:Bool->Shared->Prop}(b:zu C P T s k Q)(x:Ext T T' s.heap h'):zu C P T' {s with heap:=h',toks:=tk} k Q:=
 fun v G' hk T'' h'' tk' y R=>b v G' hk T'' h'' tk' (x.trans y) R
theorem gY{q:CmpOp}{pb:Expr}(h:cu pb=true):behindInMarks q pb=false:=by
 rcases pb with _|_|_|_|_|_|_|_|_|_|_|_|_|_|_|_|_|_|_|_|_|_|_|_|_|_|_<;>first|rfl|exact ft h
theorem dU{sc:Scope}{e:E}{pe:Expr}{env:Env}(h:cE sc e pe=true)(pes:List Expr):starEach (pe::pes) env=(false,eval pe env)::starEach pes env:=by
 rcases pe with _|_|_|_|_|_|_|_|_|_|_|_|_|_|_|_|_|_|_|_|_|_|_|_|_|_|_
 case Starred=>rcases e with _|_|_|_|_|_|_|_|_|_|_|_|_|_|_|_|_|_|_|_|_|_|_|_|_|_|_<;>exact ft h
 all_goals rfl
theorem Gv{P:Pg}{n:Nat}{ρ:au}{G:Mine.H}{k}:¬aN P n ρ G .bad k:=by cases n<;>exact id
theorem ug{n:Nat}(ih:bX C P n)(ihs:dF C P n):dF C P (n+1):=by
 intro sc ρ G es k he pes T env A s p hr a F R Q E b
 rcases es with _|⟨e,es⟩
 ·obtain rfl:=fq hr;exact spliced_nil (b _ _ he _ T s.heap s.toks (Ext.refl _ _) R .nil rfl)
 ·obtain⟨pe,pes,e0,hr⟩:=bC hr
  obtain⟨h,hs⟩:=aa hr
  subst e0
  dsimp only[ul] at he
  rw[dU h]
  show wpAny _ _ (spliced ((false,eval pe env)::backTo p (starEach pes env))) _ _ _
  refine spliced_cons (ih he h a.dn F R fun v G1 he1 rv T' h' tk x R' V=>ihs he1 hs a.dn (F.mono x) R' fun vs G2 he2 rvs T'' h'' tk' y R'' Vs hl=>?_)
  exact b _ _ he2 _ T'' h'' tk' (x.trans y) R'' (.cons (V.mono y) Vs) (by simp[hl])
theorem gg{A:Around}{E:Value->Shared->Prop}{Q:Bool->Shared->Prop}{b:Bool}{h:Heap}{rv:Value}(x:VR T h (.bool b) rv)(q:Q b s):wpAny (model C.prog C.w) A (truthy rv) Q E s:=by
 exact x.eB (M:=fun rv=>wpAny _ A (truthy rv) Q E s) fun _ _ _=>q
theorem su{n:Nat}(ih:bX C P n)(ihs:pA C P n):pA C P (n+1):=by
 intro sc ρ G c es k he pes T env A s p hr a F R Q E b
 rcases es with _|⟨e,es⟩
 ·exact he.elim
 ·obtain⟨pe,pes,e0,hr⟩:=bC hr
  obtain⟨h,hs⟩:=aa hr
  rw[e0]
  rcases es with _|⟨e2,es⟩
  ·rw[fq hs];exact BoolOp_one (ih he h a.dn F R b)
  ·obtain⟨pe2,pes,rfl,hs'⟩:=bC hs
   dsimp only[Cb] at he
   rcases c with _|_
   ·refine BoolOp_or (ih he h a.dn F R fun v G1 he1 rv T' h' tk x R' V=>?_)
    obtain⟨b1,rfl,he1⟩:=pw he1
    refine gg V ?_
    rcases b1 with _|_
    ·exact ihs he1 hs a.dn (F.mono x) R' (b.of x)
    ·exact b _ _ he1 _ T' h' tk x R' V
   ·refine BoolOp_and (ih he h a.dn F R fun v G1 he1 rv T' h' tk x R' V=>?_)
    obtain⟨b1,rfl,he1⟩:=pw he1
    refine gg V ?_
    rcases b1 with _|_
    ·exact b _ _ he1 _ T' h' tk x R' V
    ·exact ihs he1 hs a.dn (F.mono x) R' (b.of x)
theorem rG{n:Nat}(ih:dG C P n)(ihs:k8 C P n):k8 C P (n+1):=by
 intro sc ρ G c es k he pes T env A s p w hr a F R Q E b
 rcases es with _|⟨e,es⟩
 ·rw[fq hr]
  rcases c with _|_
  ·exact isTrue_or_nil (b _ _ he T s.heap s.toks (Ext.refl _ _) R)
  ·exact isTrue_and_nil (b _ _ he T s.heap s.toks (Ext.refl _ _) R)
 ·obtain⟨pe,pes,e0,hr⟩:=bC hr
  obtain⟨h,hs⟩:=aa hr
  rw[e0]
  dsimp only[sk] at he
  rcases c with _|_
  ·refine isTrue_or (ih he h a.dn F R fun b1 G1 he1 T' h' tk x R'=>?_)
   rcases b1 with _|_
   ·exact ihs he1 hs a.dn (F.mono x) R' (b.of x)
   ·exact b _ _ he1 T' h' tk x R'
  ·refine isTrue_and (ih he h a.dn F R fun b1 G1 he1 T' h' tk x R'=>?_)
   rcases b1 with _|_
   ·exact b _ _ he1 T' h' tk x R'
   ·exact ihs he1 hs a.dn (F.mono x) R' (b.of x)
def ix(C:Cx)(P:Pg):Prop:=∀{o x y r rx ry T G A s},kg G o x y=some r->VR T s.heap x rx->VR T s.heap y ry->Rep C P T G s.heap->A.units<=8900->A.depth<=950->A.handled=none->
 ∀{Q E},(∀h' tk,Ext T T s.heap h'->Rep C P T G h'->Q (.bool r) {s with heap:=h',toks:=tk})->wpAny (model C.prog C.w) A (compareOp (hC o) rx ry) Q E s
end
set_option tactic.hygienic true
section
variable{C:Cx}{P:Pg}{T T':Tm}{s:Shared}{A:Around}{sc:Scope}{env:Env}{ρ:au}{G:Mine.H}{n:Nat}{E:Value->Shared->Prop}
theorem eV{Q:Bool->Shared->Prop}{b:Bool}(q:Q b s):wpAny (model C.prog C.w) A (truthy (.bool b)) Q E s:=fun _ _ _=>q
theorem jf{q1 q2:CmpOp}{x1 x2:Expr}(h:cu x2=true):lastMarks [q1,q2] [x1,x2]=false:=by
 show behindInMarks q2 x2=false
 exact gY h
theorem CN{Q:Value->Shared->Prop}{pos:Pos}{l:Value}{q1 q2:CmpOp}{t1 t2:Sem Value}
  (h:wpAny (model C.prog C.w) A t1 (fun r s1=>wpAny (model C.prog C.w) A (compareOp q1 l r) (fun c s2=>wpAny (model C.prog C.w) A (truthy c) (fun b s3=>
   if b then wpAny (model C.prog C.w) A t2 (fun r2 s4=>wpAny (model C.prog C.w) A (compareOp q2 r r2) Q E s4) E s3 else Q c s3) E s2) E s1) E s):
  wpAny (model C.prog C.w) A (compareChain pos l [q1,q2] [t1,t2]) Q E s:=by
 show wpAny _ _ (do
  let rv ←holding [l] t1
  standAt pos
  let c ←holding [l,rv] (compareOp q1 l rv)
  release [l,rv] [c]
  if ←holding [c,rv] (truthy c) then compareChain pos rv [q2] [t2] else pure c) _ _ _
 refine wpAny_bind (wpAny_holding (wpAny_mono h (fun r s1 h1=>wpAny_bind (wpAny_standAt (wpAny_bind (wpAny_holding (wpAny_mono h1 (fun c s2 h2=>wpAny_bind (wpAny_release (wpAny_bind (wpAny_holding (wpAny_mono h2 (fun b s3 h3=>?_) fun _ _ x=>x))))) fun _ _ x=>x))))) fun _ _ x=>x))
 rcases b with _|_
 ·exact wpAny_pure h3
 ·skip
  show wpAny _ _ (do
   let rv ←holding [r] t2
   standAt pos
   operate [r,rv] (compareOp q2 r rv)) _ _ _
  exact wpAny_bind (wpAny_holding (wpAny_mono h3 (fun r2 s4 h4=>wpAny_bind (wpAny_standAt (wpAny_operate' h4))) fun _ _ x=>x))
theorem wF{Q:Bool->Shared->Prop}{pos:Pos}{l:Value}{q1 q2:CmpOp}{t1 t2:Sem Value}
  (h:wpAny (model C.prog C.w) A t1 (fun r s1=>wpAny (model C.prog C.w) A (compareOp q1 l r) (fun c s2=>wpAny (model C.prog C.w) A (truthy c) (fun b s3=>
   if b then wpAny (model C.prog C.w) A t2 (fun r2 s4=>wpAny (model C.prog C.w) A (compareOp q2 r r2) (fun c' s5=>wpAny (model C.prog C.w) A (truthy c') Q E s5) E s4) E s3 else Q false s3) E s2) E s1) E s):
  wpAny (model C.prog C.w) A (testChain pos l [q1,q2] [t1,t2]) Q E s:=by
 show wpAny _ _ (do
  let rv ←holding [l] t1
  standAt pos
  let c ←holding [l,rv] (compareOp q1 l rv)
  release [l,rv] [c]
  if ←holding [c,rv] (truthy c) then testChain pos rv [q2] [t2] else pure false) _ _ _
 refine wpAny_bind (wpAny_holding (wpAny_mono h (fun r s1 h1=>wpAny_bind (wpAny_standAt (wpAny_bind (wpAny_holding (wpAny_mono h1 (fun c s2 h2=>wpAny_bind (wpAny_release (wpAny_bind (wpAny_holding (wpAny_mono h2 (fun b s3 h3=>?_) fun _ _ x=>x))))) fun _ _ x=>x))))) fun _ _ x=>x))
 rcases b with _|_
 ·exact wpAny_pure h3
 ·skip
  show wpAny _ _ (do
   let rv ←holding [r] t2
   standAt pos
   let c ←operate [r,rv] (compareOp q2 r rv)
   holding [c] (truthy c)) _ _ _
  exact wpAny_bind (wpAny_holding (wpAny_mono h3 (fun r2 s4 h4=>wpAny_bind (wpAny_standAt (wpAny_bind (wpAny_operate' (wpAny_mono h4 (fun c s5 h5=>wpAny_holding h5) fun _ _ x=>x))))) fun _ _ x=>x))
theorem lS(hc:ix C P)(ih:bX C P n){ea o eb k}(he:aN P (n+1) ρ G (.cmp ea o eb) k){pa pb}(ra:cE sc ea pa=true)(rb:cE sc eb pb=true)
  (a:AR 2 A (n+1))(F:bI C sc T env ρ s.heap)(R:Rep C P T G s.heap){Q:Value->Shared->Prop}
  (b:∀r G',k (.bool r) G'->∀T' h' tk,Ext T T' s.heap h'->Rep C P T' G' h'->Q (.bool r) {s with heap:=h',toks:=tk}):
  wpAny (model C.prog C.w) A (eval pa env) (fun x s1=>wpAny (model C.prog C.w) A (eval pb env) (fun y s2=>wpAny (model C.prog C.w) A (compareOp (hC o) x y) Q E s2) E s1) E s:=by
 dsimp only[tQ] at he
 refine ih he ra a.dn F R fun x G1 he1 rx T1 h1' tk1 x1 R1 V1=>ih he1 rb a.dn (F.mono x1) R1 fun y G2 he2 ry T2 h2' tk2 x2 R2 V2=>?_
 obtain⟨r,h3,h4⟩:=db he2
 exact hc h3 (V1.mono x2) V2 R2 a.u a.d a.h fun h3' tk3 x3 R3=>b r _ h4 T2 h3' tk3 ((x1.trans x2).trans x3) R3
theorem A4(hc:ix C P)(ih:bX C P n){ea o eb k}(he:aN P (n+1) ρ G (.cmp ea o eb) k){pa pb p}(ra:cE sc ea pa=true)(rb:cE sc eb pb=true)(hs:cu pb=true)
  (a:AR 2 A (n+1))(F:bI C sc T env ρ s.heap)(R:Rep C P T G s.heap){Q:Value->Shared->Prop}(b:jN C P T s k Q):
  wpAny (model C.prog C.w) A (eval (.Compare pa [hC o] [pb] p) env) Q E s:=
 wpAny_Compare1 (lS hc ih he ra rb a F R fun r G' hk T' h' tk x R=>b _ _ hk _ T' h' tk x R .bool) (gY hs)
theorem yl(hc:ix C P)(ih:bX C P n){ea o eb}{k:Bool->Mine.H->Prop}(he:aN P (n+1) ρ G (.cmp ea o eb) fun v h=>pk v fun b=>k b h){pa pb p w}(ra:cE sc ea pa=true)(rb:cE sc eb pb=true)(hs:cu pb=true)
  (a:AR 2 A (n+1))(F:bI C sc T env ρ s.heap)(R:Rep C P T G s.heap){Q:Bool->Shared->Prop}(b:zu C P T s k Q):
  wpAny (model C.prog C.w) A (isTrue (.Compare pa [hC o] [pb] p) env w) Q E s:=
 wpAny_isTrue_Compare1 (lS hc ih he ra rb a F R (Q:=fun c s3=>wpAny (model C.prog C.w) A (truthy c) Q E s3) fun r G' hk T' h' tk x R=>eV (b _ _ hk T' h' tk x R)) (gY hs)
theorem j7(hc:ix C P)(ih:bX C P n){ea o eb o' ec k}(he:aN P (n+1) ρ G (.cmp2 ea o eb o' ec) k){pa pb pc}(ra:cE sc ea pa=true)(rb:cE sc eb pb=true)(rc:cE sc ec pc=true)
  (a:AR 2 A (n+1))(F:bI C sc T env ρ s.heap)(R:Rep C P T G s.heap){Q Qf:Value->Shared->Prop}
  (b:∀r G',k (.bool r) G'->∀T' h' tk,Ext T T' s.heap h'->Rep C P T' G' h'->Q (.bool r) {s with heap:=h',toks:=tk})
  (bf:∀G',k (.bool false) G'->∀T' h' tk,Ext T T' s.heap h'->Rep C P T' G' h'->Qf (.bool false) {s with heap:=h',toks:=tk}):
  wpAny (model C.prog C.w) A (eval pa env) (fun l s1=>wpAny (model C.prog C.w) A (eval pb env) (fun r s1=>wpAny (model C.prog C.w) A (compareOp (hC o) l r) (fun c s2=>wpAny (model C.prog C.w) A (truthy c) (fun b s3=>
   if b then wpAny (model C.prog C.w) A (eval pc env) (fun r2 s4=>wpAny (model C.prog C.w) A (compareOp (hC o') r r2) Q E s4) E s3 else Qf c s3) E s2) E s1) E s1) E s:=by
 dsimp only[tc] at he
 refine ih he ra a.dn F R fun x G1 he1 rx T1 h1' tk1 x1 R1 V1=>ih he1 rb a.dn (F.mono x1) R1 fun y G2 he2 ry T2 h2' tk2 x2 R2 V2=>?_
 obtain⟨r,h3,h4⟩:=db he2
 refine hc h3 (V1.mono x2) V2 R2 a.u a.d a.h fun h3' tk3 x3 R3=>eV ?_
 rcases r with _|_
 ·exact bf _ h4 T2 h3' tk3 ((x1.trans x2).trans x3) R3
 ·skip
  refine ih h4 rc a.dn ((F.mono x1).mono (x2.trans x3)) R3 fun z G3 he3 rz T4 h4' tk4 x4 R4 V4=>?_
  obtain⟨q,h6,h7⟩:=db he3
  exact hc h6 (V2.mono (x3.trans x4)) V4 R4 a.u a.d a.h fun h5' tk5 x5 R5=>b _ _ h7 T4 h5' tk5 (((x1.trans x2).trans x3).trans (x4.trans x5)) R5
theorem wq(hc:ix C P)(ih:bX C P n){ea o eb o' ec k}(he:aN P (n+1) ρ G (.cmp2 ea o eb o' ec) k){pa pb pc p}(ra:cE sc ea pa=true)(rb:cE sc eb pb=true)(rc:cE sc ec pc=true)(hs:cu pc=true)
  (a:AR 2 A (n+1))(F:bI C sc T env ρ s.heap)(R:Rep C P T G s.heap){Q:Value->Shared->Prop}(b:jN C P T s k Q):
  wpAny (model C.prog C.w) A (eval (.Compare pa [hC o,hC o'] [pb,pc] p) env) Q E s:=
 Compare_chain (wpAny_mono (j7 hc ih he ra rb rc a F R (fun r G' hk T' h' tk x R=>b _ _ hk _ T' h' tk x R .bool) fun G' hk T' h' tk x R=>b _ _ hk _ T' h' tk x R .bool) (fun l s1 h=>CN h) fun _ _ x=>x) (jf hs)
theorem uE(hc:ix C P)(ih:bX C P n){ea o eb o' ec}{k:Bool->Mine.H->Prop}(he:aN P (n+1) ρ G (.cmp2 ea o eb o' ec) fun v h=>pk v fun b=>k b h){pa pb pc p w}(ra:cE sc ea pa=true)(rb:cE sc eb pb=true)(rc:cE sc ec pc=true)(hs:cu pc=true)
  (a:AR 2 A (n+1))(F:bI C sc T env ρ s.heap)(R:Rep C P T G s.heap){Q:Bool->Shared->Prop}(b:zu C P T s k Q):
  wpAny (model C.prog C.w) A (isTrue (.Compare pa [hC o,hC o'] [pb,pc] p) env w) Q E s:=
 isTrue_chain (wpAny_mono (j7 hc ih he ra rb rc a F R (Q:=fun c s3=>wpAny (model C.prog C.w) A (truthy c) Q E s3) (Qf:=fun _ s3=>Q false s3) (fun r G' hk T' h' tk x R=>eV (b _ _ hk T' h' tk x R)) fun G' hk T' h' tk x R=>b _ _ hk T' h' tk x R) (fun l s1 h=>wF h) fun _ _ x=>x) (jf hs)
abbrev PL(env:Env)(pe:Expr):Prop:=isTrue pe env (eval pe env)=(do let v ←eval pe env;standAt pe.pos;holding [v] (truthy v))
theorem vp(hc:ix C P)(ihe:∀m,m<=n->bX C P m)(ih:dG C P n)(ihs:k8 C P n):dG C P (n+1):=by
 intro sc ρ G e k he pe T env A s hr a F R Q E b
 have plain:(aN P n ρ G e fun v h=>pk v fun b=>k b h)->isTrue pe env (eval pe env)=(do let v ←eval pe env;standAt pe.pos;holding [v] (truthy v))->wpAny (model C.prog C.w) A (isTrue pe env (eval pe env)) Q E s:=fun he hp=>
  isTrue_plain (ihe n (ab _) he hr a.dn F R fun v G1 he1 rv T' h' tk x R' V=>by
   obtain⟨b1,rfl,he1⟩:=pw he1
   exact gg V (b _ _ he1 T' h' tk x R')) hp
 rcases e with _|_|_|_|_|_|_|_|_|_|_|_|_|_|_|_|_|_|_|_|_|_|_|_|_|_|_
 case not e=>
  refine mY (M:=GT C A env Q E s) hr fun pe1 p1 h1=>?_
  exact isTrue_not (ih he h1 a.dn F R fun b1 G1 he1 T' h' tk x R'=>b _ _ he1 T' h' tk x R')
 case bool2 c es=>
  refine jY (M:=GT C A env Q E s) hr fun pes p1 h1=>?_
  exact ihs he h1 a.dn F R b
 case ite t x y=>
  refine zW (M:=GT C A env Q E s) hr fun pt px py p1 h1=>?_
  refine isTrue_IfExp (ih he (aa (aa h1).1).1 a.dn F R fun c G1 he1 T' h' tk x R'=>?_)
  rcases c with _|_
  ·exact ih he1 (aa h1).2 a.dn (F.mono x) R' (b.of x)
  ·exact ih he1 (aa (aa h1).1).2 a.dn (F.mono x) R' (b.of x)
 case cmp x o y=>
  refine sP (M:=GT C A env Q E s) hr fun px q py p1 h1=>?_
  have dh1:=ao (aa (aa (aa h1).1).1).1
  rcases n with _|n
  ·exact he.elim
  ·rw[dh1];exact yl hc (ihe n (Nat.le_succ _)) he (aa (aa h1).1).2 (aa h1).2 (aa (aa (aa h1).1).1).2 a.dn F R b
 case cmp2 x o y o' z=>
  refine pR (M:=GT C A env Q E s) hr fun px q py q' pz p1 h1=>?_
  have dh1:=ao (aa (aa (aa (aa (aa h1).1).1).1).1).1
  have dh2:=ao (aa (aa (aa (aa (aa h1).1).1).1).1).2
  rcases n with _|n
  ·exact he.elim
  ·rw[dh1,dh2];exact uE hc (ihe n (Nat.le_succ _)) he (aa (aa (aa h1).1).1).2 (aa (aa h1).1).2 (aa h1).2 (aa (aa (aa (aa h1).1).1).1).2 a.dn F R b
 case bad=>exact(Gv he).elim
 case none=>exact plain he (cx (M:=PL env) hr fun _ _ _ _=>rfl)
 case bool b=>exact plain he (cx (M:=PL env) hr fun _ _ _ _=>rfl)
 case int i=>exact plain he (cx (M:=PL env) hr fun _ _ _ _=>rfl)
 case str i=>exact plain he (cx (M:=PL env) hr fun _ _ _ _=>rfl)
 case var x=>exact plain he (cZ (M:=PL env) hr fun _ _ _=>rfl)
 case glob x=>exact plain he (cZ (M:=PL env) hr fun _ _ _=>rfl)
 case attr e a=>exact plain he (k5 (M:=PL env) hr fun _ _ _ _=>rfl)
 case bop o a b=>exact plain he (vi (M:=PL env) hr fun _ _ _ _ _=>rfl)
 case neg e=>exact plain he (mY (M:=PL env) hr fun _ _ _=>rfl)
 case list es=>exact plain he (o4 (M:=PL env) hr fun _ _ _=>rfl)
 case tup es=>exact plain he (lM (M:=PL env) hr fun _ _ _ _=>rfl)
 case comp elt x it ifs=>exact plain he (lA (M:=PL env) hr fun _ _ _ _ _ _ _ _=>rfl)
 case sub e i=>exact plain he (nM (M:=PL env) hr fun _ _ _ _ _=>rfl)
 case slice e lo hi=>exact plain he (i0 (M:=PL env) hr fun _ _ _ _ _ _=>rfl)
 case rev e=>exact plain he (va (M:=PL env) hr fun _ _ _ _ _ _ _=>rfl)
 case call f args=>exact plain he (d7 (M:=PL env) hr fun _ _ _ _ _=>rfl)
 case new f args=>exact plain he (d7 (M:=PL env) hr fun _ _ _ _ _=>rfl)
 case blt b args=>exact plain he (d7 (M:=PL env) hr fun _ _ _ _ _=>rfl)
 case meth e m args=>exact plain he (pQ (M:=PL env) hr fun _ _ _ _ _ _ _=>rfl)
 case isB e=>exact plain he (tH (M:=PL env) hr fun _ _ _ _ _ _ _=>rfl)
 case dict0=>exact plain he (zo (M:=PL env) hr fun _ _ _ _=>rfl)
end
set_option tactic.hygienic false
structure d9(C:Cx)(P:Pg)(c:Nat)(ca:Addr):Prop where
 data:∃cd,clsIn C.K ca=some cd/\cd.hasDict=true
 ga:findIn C.K (.ref ca) "__getattribute__"=some (some (.builtin "object.__getattribute__"))
 gt:findIn C.K (.ref ca) "__getattr__"=some none
 sa:findIn C.K (.ref ca) "__setattr__"=some (some (.builtin "object.__setattr__"))
 over:plainOver C.K ca=true
 makes:makesIn C.K ca=true
 attr:∀a,(P.ty c a).isSome=true->findIn C.K (.ref ca) (nm a)=some none/\filled (nm a)=true/\a<400
 meth:∀m f,P.meth c m=some f->∃fa,C.fnA f=some fa/\findIn C.K (.ref ca) (nm m)=some (some (.ref fa))/\typeIn C.K (.ref fa)=some (.type "function")/\P.ty c m=none/\filled (nm m)=true
 init:∀f,P.init c=some f->∃fa,C.fnA f=some fa/\findIn C.K (.ref ca) "__init__"=some (some (.ref fa))/\typeIn C.K (.ref fa)=some (.type "function")
structure qj(C:Cx)(P:Pg)(F:Fn)(fa:Addr):Prop where
 all:∃o fd body,C.base.get? fa=some o/\o.data= .func fd/\C.base.CodeRec fd.code fd.qualname/\fd.body= .stmts body/\um fd.scope F.body body=true/\fd.closure=[]/\fd.globals=mainGlobals/\fd.builtins=builtinsNs/\
  fd.scope.kind= .function/\fd.scope.isGenerator=false/\fd.scope.isCoroutine=false/\F.ps.Nodup/\
  (∀x∈F.ps,isVar fd.scope (nm x)=true)/\(∀y∈fd.scope.names,y.2≠ .free)/\
  ∀(s:Shared) (rvs:List Value),(∀b o,C.base.get? b=some o->s.heap.get? b=some o)->rvs.length<=F.ps.length->F.ps.length - rvs.length<=F.ds.length->
   ∃dvs,(∀(T:Tm) (h:Heap),be T h F.ds dvs)/\BindsTo s fd ⟨rvs,[]⟩ ((F.ps.map nm).zip (rvs++dvs.drop (F.ds.length - (F.ps.length - rvs.length))))
structure Cx.Ok(C:Cx)(P:Pg):Prop where
 g:C.base.Ns mainGlobals C.mg
 b:C.base.Ns builtinsNs C.mb
 lim:C.base.NoLimit
 xE:C.K.In C.base
 cls:∀c ca,C.clsA c=some ca->d9 C P c ca
 clsG:∀c,(jZ c).isSome=true->∃ca,C.clsA c=some ca/\C.mg (nm c)=some (.ref ca)
 fn:∀f F,P.fn f=some F->∃fa,C.fnA f=some fa/\qj C P F fa
 fnG:∀f,(GY f).isSome=true->f<1000->∃fa,C.fnA f=some fa/\C.mg (nm f)=some (.ref fa)/\∃o fd,C.base.get? fa=some o/\o.data= .func fd
 IW:∀f fa,C.fnA f=some fa->∃o fd,C.base.get? fa=some o/\o.data= .func fd
 cst:∀x v,P.cst x=some v->∃rv,C.mg (nm x)=some rv/\∀(T:Tm) (h:Heap),(∀a o,C.base.get? a=some o->T a=none)->(∀b o,C.base.get? b=some o->h.get? b=some o)->VR T h v rv
 bltG:∀b:Bi,C.mg (kI b)=none
 isi:C.mg k6=none/\C.mg gr=none
 mb:∀x:Str,x≠"__name__"->C.mb x=bootBuiltins x
 mods:∃o,C.base.get? sysModules=some o
 all:∀c a,(P.ty c a).isSome=true->a∈P.all c
section
variable{C:Cx}{P:Pg}{T:Tm}{G:Mine.H}{h:Heap}{A:Around}{s:Shared}
theorem Cx.Ok.tY(O:C.Ok P)(R:Rep C P T G h){a:Addr}{t:Tag}(ha:T a=some t):(a==sysModules)=false:=by
 obtain⟨o,ho⟩:=O.mods
 rw[beq_eq_false_iff_ne]
 rintro rfl
 have:=R.old ho
 rw[ha] at this;cases this
theorem Rep.xE(O:C.Ok P)(R:Rep C P T G h):C.K.In h:=fun a o e=>R.keep a o (O.xE a o e)
theorem Rep.ns{a:Addr}{m}(x:C.base.Ns a m)(R:Rep C P T G h):h.Ns a m:=by
 obtain⟨o,es,ep,ho,r⟩:=x;exact⟨o,es,ep,R.keep _ _ ho,r⟩
theorem fP{ok:Nat->Bool}(hf:∀a,ok a=true->filled (nm a)=true){a:Nat}(ha:filled (nm a)=true):∀{l:List (Nat×DictEntry)},(∀p∈l,(∃t,p.2.key= .str (nm p.1) t)/\ok p.1=true)->
  (l.map (·.2)).find? (·.key.isStr (nm a))=l.lookup a
 |[],_=>rfl
 |p::r,hp=>by
  obtain⟨⟨t,ht⟩,ho⟩:=hp p bN
  obtain⟨k,e⟩:=p
  simp only[List.map_cons,List.find?_cons,List.lookup_cons]
  have e1:e.key.isStr (nm a)=(a==k):=by
   have ht:e.key= .str (nm k) t:=ht
   rw[ht]
   show(nm k==nm a)=(a==k)
   by_cases q:a=k
   ·rw[q,beq_self_eq_true,beq_self_eq_true]
   ·rw[beq_eq_false_iff_ne.mpr fun z:nm k=nm a=>q (fQ ha z).symm,beq_eq_false_iff_ne.mpr q]
  rw[e1]
  rcases(a==k) with _|_
  ·exact fP hf ha fun q hq=>hp q (cH _ hq)
  ·rfl
theorem noRef{ok:Nat->Bool}{l:List (Nat×DictEntry)}(hp:∀p∈l,(∃t,p.2.key= .str (nm p.1) t)/\ok p.1=true):(l.map (·.2)).any (·.refKey)=false:=by
 rw[List.any_eq_false]
 intro e he
 obtain⟨p,h1,rfl⟩:=List.mem_map.mp he
 obtain⟨⟨t,ht⟩,_⟩:=hp p h1
 simp[DictEntry.refKey,ht]
abbrev iQ(P:Pg)(c:Nat):Nat->Bool:=fun a=>(P.ty c a).isSome
theorem qz{c i:Nat}{es:Array DictEntry}{n:Nat}(hf:∀a,iQ P c a=true->filled (nm a)=true){a:Nat}(ha:filled (nm a)=true)(d:DR P T h G c i es.toList):
  ∃r,lookIn (nm a) ⟨.type "dict",none, .dict es n, #[]⟩=some r/\∀t,P.ty c a=some t->fj a c i G.raw=true->∃rv,r=some rv/\VR T h (G.get t a c i) rv:=by
 obtain⟨l,e1,e2,e3,e4⟩:=d
 have hl:=fP (ok:=iQ P c) hf ha e2
 rw[←e1] at hl
 unfold lookIn
 dsimp only
 rw[hl]
 rcases q:l.lookup a with _|e
 ·refine⟨none,?_,fun t h1 h2=>(e4 a t h1 h2).elim fun e' z=>aS (q.symm.trans z.1)⟩
  dsimp only
  rw[e1,noRef (ok:=iQ P c) e2];rfl
 ·exact⟨_,rfl,fun t h1 h2=>(e4 a t h1 h2).elim fun e' z=>⟨_,rfl,ag (q.symm.trans z.1)▸z.2⟩⟩
theorem nC(O:C.Ok P)(R:Rep C P T G h){c i:Nat}{a:Addr}(ha:T a=some (.inst c i)):∃d ca es n,T d=some (.idict c i)/\C.clsA c=some ca/\h.get? a=some (instObj ca d)/\
  h.get? d=some ⟨.type "dict",none, .dict es n, #[]⟩/\DR P T h G c i es.toList/\InstAt h a (instObj ca d) ca (some ⟨.type "dict",none, .dict es n, #[]⟩)/\i<G.ni:=by
 obtain⟨d,ca,ho,hd,hc,hi⟩:=R.cell a _ ha
 obtain⟨es,n,hdo,hD,_⟩:=R.cell d _ hd
 exact⟨d,ca,es,n,hd,hc,ho,hdo,hD,⟨ho,rfl,rfl,hdo⟩,hi⟩
theorem rK{v:V}{rv:Value}(x:VR T h v rv):handedIn rv=true:=VR.casesOn (motive_1:=fun _ rv _=>handedIn rv=true) x rfl rfl rfl rfl (fun _ _ _ _=>rfl) (fun _ _ _ _=>rfl) rfl (fun _=>rfl) (fun _=>rfl) (fun _=>rfl) (fun _ _=>rfl)
theorem nO{a c i:Nat}{l:List (Nat×Nat×List Nat)}(h:l8 c i l=false):fj a c i l=true:=by
 refine List.all_eq_true.mpr fun p hp=>?_
 rw[Bool.eq_false_iff.mpr (List.any_eq_false.mp h p hp)];rfl
theorem rq(O:C.Ok P)(R:Rep C P T G s.heap){o v:V}{ro:Value}{a:Nat}(V:VR T s.heap o ro)(hv:rT P G o a=some v){Q:Value->Shared->Prop}{E}{ex:Bool}
  (b:Back C P T s v G Q):wpAny (model C.prog C.w) A (getAttr ro (nm a) ex) Q E s:=by
 rcases o with _|_|_|_|_|_|⟨c,_|i⟩|_|_|_
 case ref.some=>
  obtain⟨h0,_⟩|⟨j,ad,ej,e,ha⟩:=V.inv
  ·exact Hy h0
  rw[e]
  have ha:T ad=some (.inst c i):=ag ej▸ha
  have hv:(match P.ty c a with|some t=>bif l8 c i G.raw then none else some (G.get t a c i)|none=>none)=some v:=hv
  rcases ht:P.ty c a with _|t
  ·rw[ht] at hv;exact aS hv
  rw[ht] at hv
  have hv:(bif l8 c i G.raw then none else some (G.get t a c i))=some v:=hv
  rcases hraw:l8 c i G.raw with _|_
  ·rw[hraw] at hv
   obtain⟨d,ca,es,n,hd,hc,ho,hdo,hD,I,hi⟩:=nC O R ha
   have CO:=O.cls _ _ hc
   obtain⟨h1,h2,_⟩:=CO.attr a (by rw[ht];rfl)
   obtain⟨r,hr,hx⟩:=qz (n:=n) (fun b hb=>(CO.attr b hb).2.1) h2 hD
   obtain⟨rv,er,V⟩:=hx t ht (nO hraw)
   obtain⟨cd,hcd,hdict⟩:=CO.data
   refine get_value (R.xE O) I CO.ga ?_ (rK V) ((ag hv▸b:Back C P T s (G.get t a c i) G Q).now R V)
   show(clsIn C.K ca).bind _=_
   rw[hcd]
   show(findIn C.K (.ref ca) (nm a)).bind _=_
   rw[h1]
   show(W.ownOf cd _ (nm a)).bind _=_
   rw[show W.ownOf cd (some ⟨.type "dict",none, .dict es n, #[]⟩) (nm a)=some (some rv) from(if_pos hdict).trans (hr.trans (congrArg some er))];rfl
  ·rw[hraw] at hv;exact aS hv
 all_goals exact aS hv
end
theorem kE(N:Nat)(l:List Nat)(hd:l.Nodup)(h:∀x∈l,x<N):l.length<=N:=
 af (hd.length_le_of_subset fun x hx=>List.mem_range.mpr (h x hx)) (Nat.le_of_eq aM)
section
variable{C:Cx}{P:Pg}{T T':Tm}{G G':Mine.H}{h h':Heap}{A:Around}{s:Shared}
theorem jP{l:List (Nat×DictEntry)}{a i:Nat}(g:DictEntry->DictEntry)(hi:l.findIdx? (fun p=>p.1==a)=some i)(k:Nat):
  (l.modify i fun p=>(p.1,g p.2)).lookup k=if k=a then(l.lookup a).map g else l.lookup k:=by
 induction l generalizing i with
 |nil=>simp at hi
 |cons p r ih=>
  obtain⟨c,e⟩:=p
  rw[List.findIdx?_cons] at hi
  by_cases q:c=a
  ·subst q
   simp only[beq_self_eq_true,if_true,Option.some.injEq] at hi
   subst hi
   simp only[List.modify_zero_cons,List.lookup_cons,beq_self_eq_true]
   by_cases z:k=c
   ·subst z;simp
   ·have:(k==c)=false:=by rw[beq_eq_false_iff_ne];exact z
    simp[this,z]
  ·have hq:(c==a)=false:=by rw[beq_eq_false_iff_ne];exact q
   simp only[hq,Bool.false_eq_true,if_false,Option.map_eq_some_iff] at hi
   obtain⟨j,hj,rfl⟩:=hi
   simp only[List.modify_succ_cons,List.lookup_cons,ih hj]
   have hq':(a==c)=false:=by rw[beq_eq_false_iff_ne];exact fun e=>q e.symm
   rw[hq']
   by_cases z:k=a
   ·subst z;simp[hq']
   ·simp[z]
theorem jm(g:DictEntry->DictEntry):∀(l:List (Nat×DictEntry)) (i:Nat),(l.map (·.2)).modify i g=(l.modify i fun p=>(p.1,g p.2)).map (·.2)
 |[],i=>by rcases i with _|_<;>rfl
 |p::r,0=>by simp[List.modify_zero_cons]
 |p::r,i+1=>by simp only[List.map_cons,List.modify_succ_cons,jm g r i]
theorem jx(g:DictEntry->DictEntry):∀(l:List (Nat×DictEntry)) (i:Nat),(l.modify i fun p=>(p.1,g p.2)).map (·.1)=l.map (·.1)
 |[],i=>by rcases i with _|_<;>rfl
 |p::r,0=>by simp[List.modify_zero_cons]
 |p::r,i+1=>by simp only[List.map_cons,List.modify_succ_cons,jx g r i]
theorem jJ(g:DictEntry->DictEntry):∀(l:List (Nat×DictEntry)) (i:Nat),∀p∈(l.modify i fun p=>(p.1,g p.2)),∃q∈l,p=q\/p=(q.1,g q.2)
 |[],i=>by rcases i with _|_<;>simp
 |p::r,0=>by
  intro q hq
  simp only[List.modify_zero_cons,List.mem_cons] at hq
  rcases hq with rfl|hq
  ·exact⟨p,bN, .inr rfl⟩
  ·exact⟨q,cH _ hq, .inl rfl⟩
 |p::r,i+1=>by
  intro q hq
  simp only[List.modify_succ_cons,List.mem_cons] at hq
  rcases hq with rfl|hq
  ·exact⟨q,bN, .inl rfl⟩
  ·obtain⟨z,hz,e⟩:=jJ g r i q hq
   exact⟨z,cH _ hz,e⟩
theorem jq{l:List (Nat×DictEntry)}{a i:Nat}(hi:l.findIdx? (fun p=>p.1==a)=some i):∃e,l.lookup a=some e:=by
 rcases q:l.lookup a with _|e
 ·exfalso
  rw[List.lookup_eq_none_iff] at q
  have hi2:=List.findIdx?_isSome (xs:=l) (p:=fun p=>p.1==a)
  rw[hi] at hi2
  simp only[Option.isSome_some,Bool.true_eq,List.any_eq_true,beq_iff_eq] at hi2
  obtain⟨p,hp,e⟩:=hi2
  have:=q p hp
  rw[e] at this
  simp at this
 ·exact⟨e,rfl⟩
theorem mz{l:List (Nat×DictEntry)}{a:Nat}{e:DictEntry}(k:Nat):(l++[(a,e)]).lookup k=match l.lookup k with
  |some x=>some x
  |none=>if k=a then some e else none:=by
 induction l with
 |nil=>
  simp only[List.nil_append,List.lookup_cons,List.lookup_nil]
  by_cases z:k=a
  ·subst z;simp
  ·have:(k==a)=false:=by rw[beq_eq_false_iff_ne];exact z
   simp[this,z]
 |cons p r ih=>
  obtain⟨c,x⟩:=p
  simp only[List.cons_append,List.lookup_cons]
  rcases(k==c) with _|_
  ·exact ih
  ·rfl
theorem jC{l:List (Nat×DictEntry)}{a:Nat}(hi:l.findIdx? (fun p=>p.1==a)=none):l.lookup a=none/\a∉l.map (·.1):=by
 rw[List.findIdx?_eq_none_iff] at hi
 have hn:∀p∈l,p.1≠a:=fun p hp=>by simpa using hi p hp
 refine⟨?_,fun hm=>?_⟩
 ·rw[List.lookup_eq_none_iff]
  intro p hp
  have:=hn p hp
  simpa using fun e=>this e.symm
 ·obtain⟨p,hp,e⟩:=List.mem_map.mp hm
  exact hn p hp e
theorem eA{α:Type}{f:Nat->Nat->Nat->α}{a c i:Nat}{v:α}:iH f a c i v a c i=v:=by
 show(bif Nat.beq a a then bif Nat.beq c c then bif Nat.beq i i then v else _ else _ else _)=v
 rw[Nat.beq_refl,Nat.beq_refl,Nat.beq_refl];rfl
theorem jo{α:Type}{f:Nat->Nat->Nat->α}{a c i a' c' i':Nat}{v:α}(h:¬(a'=a/\c'=c/\i'=i)):iH f a c i v a' c' i'=f a' c' i':=by
 unfold iH
 cases q1:Nat.beq a' a with
 |false=>rfl
 |true=>
  rcases q2:Nat.beq c' c with _|_
  ·rfl
  ·cases q3:Nat.beq i' i with
   |false=>rfl
   |true=>exact absurd ⟨bA q1,bA q2,bA q3⟩ h
theorem kz{c i:Nat}{p:Nat×Nat×List Nat}(h:jI c i p=true):p.1=c/\p.2.1=i:=by
 unfold jI at h
 obtain⟨h1,h2⟩:=aa h
 exact⟨bA h1,bA h2⟩
theorem mM{a c i a' c' i':Nat}{l:List (Nat×Nat×List Nat)}(h:fj a' c' i' (bL a c i l)=true)(hne:¬(a'=a/\c'=c/\i'=i)):fj a' c' i' l=true:=by
 unfold fj bL at h
 unfold fj
 rw[List.all_map,List.all_eq_true] at h
 rw[List.all_eq_true]
 intro p hp
 have h1:(!jI c' i' (bif jI c i p then(p.1,p.2.1,a::p.2.2) else p)||(bif jI c i p then(p.1,p.2.1,a::p.2.2) else p).2.2.any (Nat.beq a'))=true:=h p hp
 rcases q:jI c i p with _|_
 ·rw[q] at h1;exact h1
 ·rw[q] at h1
  cases q2:jI c' i' p with
  |false=>rfl
  |true=>
   obtain⟨z1,z2⟩:=kz q
   obtain⟨z3,z4⟩:=kz q2
   have q3:jI c' i' (p.1,p.2.1,a::p.2.2)=true:=q2
   simp only[cond_true,q3,Bool.not_true,Bool.false_or,List.any_cons,Bool.or_eq_true] at h1
   rcases h1 with h1|h1
   ·exact absurd ⟨bA h1,by rw[←z3,z1],by rw[←z4,z2]⟩ hne
   ·rw[h1,Bool.or_true]
structure fD(G G':Mine.H)(a c i:Nat):Prop where
 ne:∀t a' c' i',¬(a'=a/\c'=c/\i'=i)->G'.get t a' c' i'=G.get t a' c' i'
 raw:G'.raw=bL a c i G.raw
 rest:G'.ni=G.ni/\G'.lst=G.lst/\G'.nl=G.nl/\G'.dct=G.dct/\G'.nd=G.nd
section
variable{t:Ty}{a c i:Nat}{x:Int}
theorem jh(hI:G'.I a c i=G.I a c i)(hB:G'.B a c i=G.B a c i)(hQ:G'.Q a c i=G.Q a c i)(hN:G'.N a c i=G.N a c i)(hF:G'.F a c i=G.F a c i):G'.get t a c i=G.get t a c i:=by
 induction t with
 |int=>exact congrArg V.int hI
 |bool=>exact congrArg V.bool hB
 |ptr d=>exact congrArg (V.ref d) hQ
 |obj d=>exact congrArg (fun n=>V.ref d (some n)) hN
 |lst=>exact congrArg V.list hN
 |dct=>exact congrArg V.dict hN
 |gen=>exact hF
theorem Cn:fD G (G.sI a c i x) a c i:=⟨fun _ _ _ _ n=>jh (jo n) rfl rfl rfl rfl,rfl,rfl,rfl,rfl,rfl,rfl⟩
theorem Bo{x:Bool}:fD G (G.sB a c i x) a c i:=⟨fun _ _ _ _ n=>jh rfl (jo n) rfl rfl rfl,rfl,rfl,rfl,rfl,rfl,rfl⟩
theorem vt{x:Option Nat}:fD G (G.sQ a c i x) a c i:=⟨fun _ _ _ _ n=>jh rfl rfl (jo n) rfl rfl,rfl,rfl,rfl,rfl,rfl,rfl⟩
theorem nX{x:Nat}:fD G (G.sN a c i x) a c i:=⟨fun _ _ _ _ n=>jh rfl rfl rfl (jo n) rfl,rfl,rfl,rfl,rfl,rfl,rfl⟩
theorem DM{x:V}:fD G (G.sF a c i x) a c i:=⟨fun _ _ _ _ n=>jh rfl rfl rfl rfl (jo n),rfl,rfl,rfl,rfl,rfl,rfl⟩
theorem CB{v:V}(h:G.set t a c i v=some G'):fD G G' a c i/\∀(T:Tm) (h:Heap) (rv:Value),VR T h v rv->VR T h (G'.get t a c i) rv:=by
 have fin:∀{G1:Mine.H},some G1=some G'->fD G G1 a c i->G1.get t a c i=v->fD G G' a c i/\∀(T:Tm) (h:Heap) (rv:Value),VR T h v rv->VR T h (G'.get t a c i) rv:=fun e S g=>by
  rw[←ag e];exact⟨S,fun T h rv x=>g▸x⟩
 have bt:∀{b:Bool} {G1:Mine.H},(bif b then some G1 else none)=some G'->b=true/\some G1=some G':=fun {b G1} e=>by
  rcases b with _|_
  ·exact aS e
  ·exact⟨rfl,e⟩
 rcases t with _|_|d|d|_|_|_
 ·rcases v with _|_|x|_|_|_|_|_|_|_<;>first|exact aS h|exact fin h Cn (congrArg V.int eA)
 ·rcases v with _|x|_|_|_|_|_|_|_|_<;>first|exact aS h|exact fin h Bo (congrArg V.bool eA)
 ·rcases v with _|_|_|_|_|_|⟨e,q⟩|_|_|_
  ·rw[←ag h]
   exact⟨vt,fun T h rv x=>x.eN (M:=fun rv=>VR T h ((G.sQ a c i none).get (.ptr d) a c i) rv) ((show(G.sQ a c i none).get (.ptr d) a c i= .ref d none from congrArg (V.ref d) eA).symm▸ .null)⟩
  case ref=>exact fin (bt h).2 vt ((congrArg (V.ref d) eA).trans (congrArg (fun d=>V.ref d q) (bA (bt h).1).symm))
  all_goals exact aS h
 ·rcases v with _|_|_|_|_|_|⟨e,_|j⟩|_|_|_<;>first|exact aS h|exact fin (bt h).2 nX ((congrArg (fun n=>V.ref d (some n)) eA).trans (congrArg (fun d=>V.ref d (some j)) (bA (bt h).1).symm))
 ·rcases v with _|_|_|_|_|_|_|x|_|_<;>first|exact aS h|exact fin h nX (congrArg V.list eA)
 ·rcases v with _|_|_|_|_|_|_|_|x|_<;>first|exact aS h|exact fin h nX (congrArg V.dict eA)
 ·exact fin h DM eA
end
theorem CC{c i:Nat}(hf:∀a,iQ P c a=true->filled (nm a)=true){es:Array DictEntry}(d:DR P T h G c i es.toList){a:Nat}{t:Ty}(ha:P.ty c a=some t){G':Mine.H}{rv:Value}(S:fD G G' a c i)(x:VR T h (G'.get t a c i) rv)(n:Nat)(hs:Int)(tk:Tok):
  ∃es' n',Obj.putName (nm a) hs (.str (nm a) tk) rv ⟨.type "dict",none, .dict es n, #[]⟩=⟨.type "dict",none, .dict es' n', #[]⟩/\DR P T h G' c i es'.toList:=by
 obtain⟨l,e1,e2,e3,e4⟩:=d
 obtain⟨es⟩:=es
 have e1:es=l.map (·.2):=e1
 subst e1
 rw[Obj.putName_eq]
 unfold Obj.putNameByArray
 have hok:iQ P c a=true:=by unfold iQ;rw[ha];rfl
 have old:∀k u,k≠a->P.ty c k=some u->fj k c i G'.raw=true->∃e,l.lookup k=some e/\VR T h (G'.get u k c i) e.val:=fun k u z h1 h2=>by
  rw[S.ne u k c i (fun q=>z q.1)]
  exact e4 k u h1 (mM (S.raw▸h2) fun q=>z q.1)
 have hidx:((l.map (·.2)).toArray.findIdx? fun e=>e.key.isStr (nm a))=l.findIdx? fun p=>p.1==a:=by
  rw[List.findIdx?_toArray,List.findIdx?_map]
  clear e3 e4 old
  induction l with
  |nil=>rfl
  |cons p r ih=>
   obtain⟨k,e⟩:=p
   obtain⟨⟨t,ht⟩,ho⟩:=e2 _ bN
   have ht:e.key= .str (nm k) t:=ht
   have q1:e.key.isStr (nm a)=(k==a):=by
    rw[ht]
    show(nm k==nm a)=(k==a)
    by_cases q:k=a
    ·subst q;simp
    ·have z1:(nm k==nm a)=false:=by rw[beq_eq_false_iff_ne];exact fun z=>q (fQ (hf a hok) z)
     have z2:(k==a)=false:=by rw[beq_eq_false_iff_ne];exact q
     rw[z1,z2]
   simp only[List.findIdx?_cons,Function.comp_apply,q1,ih fun p hp=>e2 p (cH _ hp)]
 dsimp only
 rw[hidx]
 cases q:l.findIdx? fun p=>p.1==a with
 |some i=>
  refine⟨_,_,rfl,l.modify i fun p=>(p.1,{p.2 with val:=rv}),?_,?_,?_,fun k u h1 h2=>?_⟩
  ·simp only[List.modify_toArray]
   exact jm (fun e=>{e with val:=rv}) l i
  ·intro p hp
   obtain⟨z,hz,e|e⟩:=jJ (fun e=>{e with val:=rv}) l i p hp
   ·subst e;exact e2 _ hz
   ·subst e;have:=e2 z hz;exact this
  ·rw[jx (fun e=>{e with val:=rv})];exact e3
  ·rw[jP (fun e=>{e with val:=rv}) q]
   by_cases z:k=a
   ·subst z
    simp only[if_true]
    obtain⟨e,he⟩:=jq q
    rw[ha] at h1;obtain rfl:=ag h1
    rw[he]
    exact⟨_,rfl,x⟩
   ·simp only[if_neg z];exact old k u z h1 h2
 |none=>
  obtain⟨n1,n2⟩:=jC q
  refine⟨_,_,rfl,l++[(a,⟨hs, .str (nm a) tk,rv⟩)],?_,?_,?_,fun k u h1 h2=>?_⟩
  ·simp
  ·intro p hp
   rcases List.mem_append.mp hp with hp|hp
   ·exact e2 p hp
   ·simp only[List.mem_singleton] at hp;subst hp;exact⟨⟨tk,rfl⟩,hok⟩
  ·rw[List.map_append,List.nodup_append]
   refine⟨e3,by simp,fun x hx y hy e=>?_⟩
   simp only[List.map_cons,List.map_nil,List.mem_singleton] at hy
   subst hy e;exact n2 hx
  ·rw[mz]
   by_cases z:k=a
   ·subst z;rw[n1];simp only[if_true]
    rw[ha] at h1;obtain rfl:=ag h1
    exact⟨_,rfl,x⟩
   ·obtain⟨e,h3,h4⟩:=old k u z h1 h2
    exact h3▸⟨e,rfl,h4⟩
theorem DR.len{c i:Nat}(hf:∀a,iQ P c a=true->a<400){es:List DictEntry}(d:DR P T h G c i es):es.length<=400:=by
 obtain⟨l,e1,e2,e3,e4⟩:=d
 subst e1
 have:=kE 400 (l.map (·.1)) e3 fun x hx=>by
  obtain⟨p,hp,rfl⟩:=List.mem_map.mp hx
  exact hf _ (e2 p hp).2
 simpa using this
theorem cX{a:Addr}{t:Tag}(ha:T a=some t)(hs:Heap.SameBut a h h'):Ext T T h h':=
 ⟨fun _ _ e=>e,fun _ _ e=> .inl e,fun b o hb ho=>(hs.2 b fun q=>by rw[q,ha] at hb;exact nomatch hb).trans ho⟩
theorem DR.mono{c i:Nat}{es:List DictEntry}(x:Ext T T' h h')(d:DR P T h G c i es):DR P T' h' G c i es:=by
 obtain⟨l,e1,e2,e3,e4⟩:=d
 exact⟨l,e1,e2,e3,fun a t h1 h2=>(e4 a t h1 h2).imp fun e q=>⟨q.1,q.2.mono x⟩⟩
theorem Cell.ext{a:Addr}{t:Tag}(x:Ext T T' h h')(hg:h'.get? a=h.get? a)(c:Cell C P T G h a t):Cell C P T' G h' a t:=c.map hg (VR.mono x) (x.sub _ _)
theorem DR.other{c i a k j:Nat}{es:List DictEntry}{G':Mine.H}(S:fD G G' a k j)(hne:¬(c=k/\i=j))(d:DR P T h G c i es):DR P T h G' c i es:=by
 obtain⟨l,e1,e2,e3,e4⟩:=d
 refine⟨l,e1,e2,e3,fun b t h1 h2=>?_⟩
 have n:¬(b=a/\c=k/\i=j):=fun q=>hne q.2
 rw[S.ne t b c i n]
 exact e4 b t h1 (mM (S.raw▸h2) n)
theorem rh(O:C.Ok P)(R:Rep C P T G s.heap){o v:V}{ro rv:Value}{a:Nat}{G':Mine.H}(Vo:VR T s.heap o ro)(hw:pH P G o a v=some G')(V:VR T s.heap v rv){Q:Unit->Shared->Prop}{E}
  (b:∀h' tk,Ext T T s.heap h'->Rep C P T G' h'->Q () {s with heap:=h',toks:=tk}):wpAny (model C.prog C.w) A (setAttr ro (nm a) rv) Q E s:=by
 rcases o with _|_|_|_|_|_|⟨k,_|i⟩|_|_|_
 case ref.some=>
  obtain⟨h0,_⟩|⟨j,ad,ej,e,ha⟩:=Vo.inv
  ·exact Hy h0
  rw[e]
  have ha:T ad=some (.inst k i):=ag ej▸ha
  have hw:(match P.ty k a with|some t=>G.set t a k i v|none=>none)=some G':=hw
  rcases ht:P.ty k a with _|t
  ·rw[ht] at hw;exact aS hw
  rw[ht] at hw
  obtain⟨S,hget⟩:=CB hw
  obtain⟨d,ca,es,n,hd,hc,ho,hdo,hD,I,hi⟩:=nC O R ha
  have CO:=O.cls _ _ hc
  obtain⟨h1,h2,_⟩:=CO.attr a (by rw[ht];rfl)
  obtain⟨cd,hcd,hdict⟩:=CO.data
  refine set_plain (R.xE O) I CO.sa ?_
  have I2:W.InstAt ({s with toks:=s.toks+1}:Shared).heap ad (instObj ca d) ca (some ⟨.type "dict",none, .dict es n, #[]⟩):=I
  have X2:C.K.In ({s with toks:=s.toks+1}:Shared).heap:=R.xE O
  have ht':takerIn C.K ca (nm a)=some none:=by unfold takerIn;rw[h1];rfl
  refine osa_open X2 I2 CO.over ht' fun bb=>?_
  refine wpAny_bind (wpAny_pure (wpAny_bind (wpAny_bind (wpAny_loadPart ho (wpAny_bind ((looks_clsIn X2 hcd).here ?_))))))
  rw[hdict]
  refine wpAny_pure (wpAny_bind (wpAny_pure (wpAny_bind ?_)))
  unfold nsSet
  refine wpAny_bind (wpAny_bind (wpAny_askSetting (wpAny_pure (wpAny_bind (wpAny_mkText (wpAny_bind (wpAny_loadPart hdo ?_)))))))
  have c:(!es.any (·.key.isStr (nm a))&&es.any (·.refKey))=false:=by
   obtain⟨l,e1,e2,_,_⟩:=hD
   have:=noRef (ok:=iQ P k) e2
   rw[←e1,Array.any_toList] at this
   rw[this,Bool.and_false]
  dsimp only
  rw[aRefKeyMayBeTheName_at,c]
  refine wpAny_updatePart hdo ?_
  obtain⟨es',n',hput,hD'⟩:=CC (fun b hb=>(CO.attr b hb).2.1) hD ht S (hget _ _ _ V) n (PyData.keyHash C.w.params (nm a)) (s.toks+1)
  have hs':Heap.SameBut d s.heap (s.heap.update d (Obj.putName (nm a) (PyData.keyHash C.w.params (nm a)) (.str (nm a) (s.toks+1)) rv)):=Heap.SameBut.update ..
  have hd':(s.heap.update d (Obj.putName (nm a) (PyData.keyHash C.w.params (nm a)) (.str (nm a) (s.toks+1)) rv)).get? d=some ⟨.type "dict",none, .dict es' n', #[]⟩:=by
   rw[←hput]
   exact Heap.get?_update_self _ hdo (by rw[hput];rfl)
  have x:=cX hd hs'
  have hlen:es'.toList.length<=400:=(hD'.len fun b hb=>(CO.attr b hb).2.2)
  refine wpAny_bind (wpAny_lookBehind hd' (pastItsLine_dict (by rw[sizeLine_eq];have:es'.size<=400:=(by simpa using hlen);lia)) ?_)
  refine wpAny_pure ?_
  refine b _ _ x ⟨fun b' o e=>x.keep b' o (R.old e) (R.keep b' o e),R.above,fun b' t e=>?_,R.inj⟩
  obtain⟨r1,r2,r3,r4,r5⟩:=S.rest
  by_cases q:b'=d
  ·subst q
   rw[hd] at e;obtain rfl:=ag e
   exact⟨es',n',hd',hD'.mono x,by rw[r1];exact hi⟩
  ·have hg:=hs'.2 b' q
   have c1:=(R.cell b' t e).ext x hg
   induction t with
   |inst c j=>obtain⟨d1,c1',g1,g2,g3,g4⟩:=c1;exact⟨d1,c1',g1,g2,g3,r1▸g4⟩
   |idict c j=>
    have z:¬(c=k/\j=i):=fun z=>q (R.inj _ _ _ e (by rw[z.1,z.2];exact hd))
    obtain⟨es2,n2,g1,g2,g3⟩:=c1
    exact⟨es2,n2,g1,g2.other S z,by rw[r1];exact g3⟩
   |list j=>unfold Cell;rw[r2,r3];exact c1
   |dict j=>unfold Cell;rw[r4,r5];exact c1
 all_goals exact aS hw
end
noncomputable def dq(T:Tm)(a:Addr)(t:Tag):Tm:=fun b=>if b=a then some t else T b
section
variable{C:Cx}{P:Pg}{T:Tm}{G G':Mine.H}{h h':Heap}{A:Around}{s:Shared}
theorem bp(o:Obj):Ext T T h (h.push o):=⟨fun _ _ e=>e,fun _ _ e=> .inl e,fun _ _ _ e=>Heap.get?_push_of_some _ e⟩
theorem Rep.xC(R:Rep C P T G h)(x:Ext T T h h')(hg:∀a t,T a=some t->h'.get? a=h.get? a):Rep C P T G h':=
 ⟨fun b o e=>x.keep b o (R.old e) (R.keep b o e),R.above,fun a t e=>(R.cell a t e).ext x (hg a t e),R.inj⟩
theorem Rep.push(R:Rep C P T G h)(o:Obj):Rep C P T G (h.push o):=
 R.xC (bp o) fun a t e=>(R.there e).elim fun o' ho=>(Heap.get?_push_of_some _ ho).trans ho.symm
theorem jF{a:Addr}{t:Tag}:dq T a t a=some t:=if_pos rfl
theorem iZ{a b:Addr}{t:Tag}(q:b≠a):dq T a t b=T b:=if_neg q
theorem cr{a:Addr}{t:Tag}(R:Rep C P T G h)(ha:h.objs.size<=a)(x:Ext T T h h'):Ext T (dq T a t) h h':=
 ⟨fun b u e=>(iZ (fun q:b=a=>Nat.not_lt.mpr ha (q▸R.lt e))).trans e,fun b u e=>if q:b=a then .inr (q▸dp ha) else .inl ((iZ q).symm.trans e),x.keep⟩
theorem Rep.lD{a:Addr}{t:Tag}(R:Rep C P T G h)(ha:h.objs.size<=a)(x:Ext T T h h')(hg:∀b u,T b=some u->h'.get? b=h.get? b)(cn:Cell C P (dq T a t) G' h' a t)
  (co:∀b u,T b=some u->Cell C P (dq T a t) G h' b u->Cell C P (dq T a t) G' h' b u)(no:∀b,T b≠some t):Rep C P (dq T a t) G' h':=by
 have y:=cr (t:=t) R ha x
 have two:∀b u,dq T a t b=some u->(b=a/\u=t)\/T b=some u:=fun b u e=>
  if q:b=a then .inl ⟨q,(ag (jF.symm.trans (q▸e:dq T a t a=some u))).symm⟩ else .inr ((iZ q).symm.trans e)
 exact⟨fun b o e=>x.keep b o (R.old e) (R.keep b o e),fun b u e=>(two b u e).elim (fun q=>q.1▸R.dj ha) fun q=>R.above b u q,fun b u e=>(two b u e).elim (fun q=>by rw[q.1,q.2];exact cn) fun q=>co b u q ((R.cell b u q).ext y (hg b u q)),
  fun b b' u e e'=>(two b u e).elim (fun q=>(two b' u e').elim (fun q'=>q.1.trans q'.1.symm) fun q'=>absurd (q.2▸q') (no b')) fun q=>(two b' u e').elim (fun q'=>absurd (q'.2▸q) (no b)) fun q'=>R.inj b b' u q q'⟩
theorem Rep.iM{a:Addr}{xs:List V}{vs:List Value}{n:Nat}(R:Rep C P T G h)(ha:h.objs.size<=a)(x:Ext T T h h')(hg:∀b u,T b=some u->h'.get? b=h.get? b)(hb:C.base.get? a=none)
  (ho:h'.get? a=some ⟨.type "list",none, .seq ⟨vs⟩ n, #[]⟩)(hv:be T h xs vs)(hn:xs.length<=cap):Rep C P (dq T a (.list G.nl)) (G.newL xs) h':=by
 have e:(G.newL xs).lst G.nl=xs:=if_pos rfl
 refine R.lD ha x hg ⟨vs,n,ho,e.symm▸hv.mono (cr R ha x),aE _,e.symm▸hn⟩ (fun b u _ c=>?_) fun b e=>?_
 ·rcases u with _|_|j|_
  ·exact c
  ·exact c
  ·obtain⟨vs',m,g1,g2,g3,g4⟩:=c
   have:(G.newL xs).lst j=G.lst j:=if_neg (aj g3)
   exact⟨vs',m,g1,this.symm▸g2,aY g3,this.symm▸g4⟩
  ·exact c
 ·obtain⟨_,_,_,_,z,_⟩:=R.cell b _ e
  exact Nat.lt_irrefl _ z
theorem uT(R:Rep C P T G s.heap){xs:List V}{vs:List Value}(hv:be T s.heap xs vs)(hn:xs.length<=cap){Q:Value->Shared->Prop}{E}(b:Back C P T s (.list G.nl) (G.newL xs) Q):
  wpAny (model C.prog C.w) A (newList vs) Q E s:=by
 refine wpAny_newObj_type (show Q (.ref s.heap.objs.size) {s with heap:=s.heap.push {cls:= .type "list",data:= .seq vs.toArray}} from ?_) (by show vs.toArray.size<=sizeLine;rw[List.size_toArray,←hv.length];exact af hn (by decide))
 have x0:Ext T T s.heap (s.heap.push {cls:= .type "list",data:= .seq vs.toArray}):=bp _
 refine b _ _ _ s.toks (cr R (ab _) x0) (R.iM (ab _) x0 (fun b u e=>?_) (R.dj (ab _)) (Heap.get?_push_size _ rfl) hv hn) (.list jF)
 exact(R.there e).elim fun o' ho=>(Heap.get?_push_of_some _ ho).trans ho.symm
theorem qW(R:Rep C P T G s.heap){xs:List V}{vs:List Value}(hv:be T s.heap xs vs)(hn:xs.length<=cap){Q:Value->Shared->Prop}{E}(b:Back C P T s (.tup xs) G Q):
  wpAny (model C.prog C.w) A (newTuple vs) Q E s:=by
 refine wpAny_newObj_type (show Q (.ref s.heap.objs.size) {s with heap:=s.heap.push {cls:= .type "tuple",data:= .seq vs.toArray}} from ?_) (by show vs.toArray.size<=sizeLine;rw[List.size_toArray,←hv.length];exact af hn (by decide))
 have x0:Ext T T s.heap (s.heap.push {cls:= .type "tuple",data:= .seq vs.toArray}):=bp _
 exact b _ _ _ s.toks x0 (R.push _) (.tup (R.free (ab _)) ⟨_,Heap.get?_push_size _ rfl⟩ (hv.mono x0) hn)
end
section
variable{C:Cx}{P:Pg}{T T':Tm}{G G':Mine.H}{h h':Heap}
theorem Rep.iN{a:Addr}{i:Nat}{xs:List V}{vs:List Value}{n:Nat}(R:Rep C P T G h)(ha:T a=some (.list i))(hs:Heap.SameBut a h h')(ho:h'.get? a=some ⟨.type "list",none, .seq ⟨vs⟩ n, #[]⟩)(hv:be T h xs vs)(hn:xs.length<=cap):
  Rep C P T (G.ax i xs) h':=by
 have x:=cX ha hs
 have e1:(G.ax i xs).lst i=xs:=if_pos rfl
 refine⟨fun b' o e=>x.keep b' o (R.old e) (R.keep b' o e),R.above,fun b t e=>?_,R.inj⟩
 by_cases q:b=a
 ·rw[q] at e ⊢
  rw[←ag (ha.symm.trans e)]
  obtain⟨_,_,_,_,hi,_⟩:=R.cell a _ ha
  exact⟨vs,n,ho,e1.symm▸hv.mono x,hi,e1.symm▸hn⟩
 ·have c:=(R.cell b t e).ext x (hs.2 b q)
  rcases t with _|_|j|_
  ·exact c
  ·exact c
  ·have:(G.ax i xs).lst j=G.lst j:=if_neg fun z:j=i=>q (R.inj _ _ _ e (z▸ha))
   obtain⟨vs',m,g1,g2,g3⟩:=c
   exact⟨vs',m,g1,this.symm▸g2,g3.1,this.symm▸g3.2⟩
  ·exact c
theorem listAt(R:Rep C P T G h){a:Addr}{i:Nat}(ha:T a=some (.list i)):∃vs n,h.get? a=some ⟨.type "list",none, .seq ⟨vs⟩ n, #[]⟩/\be T h (G.lst i) vs/\i<G.nl/\h.IsList a vs.toArray/\(G.lst i).length<=cap:=by
 obtain⟨vs,n,g1,g2,g3⟩:=R.cell a _ ha
 exact⟨vs,n,g1,g2,g3.1,⟨_,g1,rfl,n,rfl⟩,g3.2⟩
theorem Rep.ya{c:Nat}{ca:Addr}(R:Rep C P T G h)(hc:C.clsA c=some ca):
  let h':=(h.push emptyDict).push (instObj ca h.objs.size)
  let T':=dq (dq T h.objs.size (.idict c G.ni)) (h.objs.size+1) (.inst c G.ni)
  Ext T T' h h'/\Rep C P T' (G.aQ c) h':=by
 intro h' T'
 have gp:∀{T:Tm} {G:Mine.H} {h:Heap} {o:Obj},Rep C P T G h->∀b u,T b=some u->(h.push o).get? b=h.get? b:=fun R b u e=>(R.there e).elim fun o' ho=>(Heap.get?_push_of_some _ ho).trans ho.symm
 have noC:∀b,T b≠some (.idict c G.ni):=fun b e=>by
  obtain⟨_,_,_,_,z⟩:=R.cell b _ e
  exact Nat.lt_irrefl _ z
 have noI:∀b,T b≠some (.inst c G.ni):=fun b e=>by
  obtain⟨_,_,_,_,_,z⟩:=R.cell b _ e
  exact Nat.lt_irrefl _ z
 have x1:=cr (t:= .idict c G.ni) R (ab _) (bp emptyDict)
 have R1:Rep C P (dq T h.objs.size (.idict c G.ni)) (G.aQ c) (h.push emptyDict):=by
  refine R.lD (ab _) (bp _) (gp R) ⟨#[],0,Heap.get?_push_size _ rfl,⟨[],rfl,(by intro p hp;cases hp),List.Pairwise.nil,fun a t h1 h2=>?_⟩,aE _⟩ (fun b u _ c1=>?_) noC
  ·have h2:((!jI c G.ni (c,G.ni,[])||[].any (Nat.beq a))&&fj a c G.ni G.raw)=true:=h2
   exact ft (((congrArg (fun z=> !z||false) (show jI c G.ni (c,G.ni,[])=true from(Bool.and_eq_true _ _).mpr ⟨Nat.beq_refl _,Nat.beq_refl _⟩)).symm.trans (aa h2).1))
  ·rcases u with _|⟨k,j⟩|_|_
   ·obtain⟨d,c',g1,g2,g3,g4⟩:=c1
    exact⟨d,c',g1,g2,g3,aY g4⟩
   ·obtain⟨es,n,g1,⟨l,e1,e2,e3,e4⟩,g3⟩:=c1
    exact⟨es,n,g1,⟨l,e1,e2,e3,fun a t h1 h2=>e4 a t h1 (aa (show((!jI k j (c,G.ni,[])||[].any (Nat.beq a))&&fj a k j G.raw)=true from h2)).2⟩,aY g3⟩
   ·exact c1
   ·exact c1
 have hz:(h.push emptyDict).objs.size<=h.objs.size+1:=Nat.le_of_eq (Heap.size_push ..)
 refine⟨x1.trans (cr (t:= .inst c G.ni) R1 hz (bp _)),R1.lD hz (bp _) (gp R1) ⟨h.objs.size,ca,?_,(iZ (aj (aE _))).trans jF,hc,aE _⟩ (fun b u _ c1=>c1) fun b e=>?_⟩
 ·have:=Heap.get?_push_size (h.push emptyDict) (o:=instObj ca h.objs.size) rfl
  rw[Heap.size_push] at this
  exact this
 ·by_cases q:b=h.objs.size
  ·exact nomatch jF.symm.trans (q▸e:dq T h.objs.size (.idict c G.ni) h.objs.size=some (.inst c G.ni))
  ·exact noI b ((iZ q).symm.trans e)
theorem vf{a c i c' i':Nat}{l:List (Nat×Nat×List Nat)}(h:fj a c' i' (dY c i l)=true)(hne:¬(c'=c/\i'=i)):fj a c' i' l=true:=
 List.all_eq_true.mpr fun p hp=>by
  rcases q:jI c i p with _|_
  ·exact List.all_eq_true.mp h p (List.mem_filter.mpr ⟨hp,congrArg not q⟩)
  ·rcases q2:jI c' i' p with _|_
   ·rfl
   ·exact absurd ⟨(kz q2).1.symm.trans (kz q).1,(kz q2).2.symm.trans (kz q).2⟩ hne
theorem Rep.whole(O:C.Ok P)(R:Rep C P T G h){c i:Nat}{r v:V}(hw:Mine.whole P c i r G=some (v,G')):r= .none/\v= .ref c (some i)/\Rep C P T G' h:=by
 rcases r with _|_|_|_|_|_|_|_|_|_
 case none=>
  have hw:(bif (P.all c).all (fun a=>fj a c i G.raw) then some (.ref c (some i),{G with raw:=dY c i G.raw}) else none)=some (v,G'):=hw
  rcases q:(P.all c).all fun a=>fj a c i G.raw with _|_
  ·rw[q] at hw;exact aS hw
  ·rw[q] at hw
   have hw:=ag hw
   refine⟨rfl,(congrArg Prod.fst hw).symm,(show G'={G with raw:=dY c i G.raw} from(congrArg Prod.snd hw).symm)▸⟨R.keep,R.above,fun b u e=>?_,R.inj⟩⟩
   have c1:=R.cell b u e
   rcases u with _|⟨k,j⟩|_|_
   ·exact c1
   ·obtain⟨es,n,g1,⟨l,e1,e2,e3,e4⟩,g3⟩:=c1
    refine⟨es,n,g1,⟨l,e1,e2,e3,fun a t h1 h2=>e4 a t h1 ?_⟩,g3⟩
    by_cases z:k=c/\j=i
    ·rw[z.1,z.2]
     exact List.all_eq_true.mp q a (O.all c a (by rw[←z.1,h1];rfl))
    ·exact vf h2 z
   ·exact c1
   ·exact c1
 all_goals exact aS hw
end
section
variable{C:Cx}{P:Pg}{sc:Scope}{T:Tm}{G:Mine.H}{env:Env}{ρ:au}{h:Heap}{A:Around}{s:Shared}
variable(C P)
def ik(n:Nat):Prop:=∀{sc ρ G ss k},aC P n ρ G ss k->∀{pss T env A s},um sc ss pss=true->AR 0 A n->bI C sc T env ρ s.heap->Rep C P T G s.heap->
 ∀{Q E},CF C P env sc T s k Q->wpAny (model C.prog C.w) A (execs pss env) Q E s
def ib(n:Nat):Prop:=∀{G f vs k},aD P n G f vs k->∀{fa},C.fnA f=some fa->∀{T A s rvs},AR 1 A n->Rep C P T G s.heap->be T s.heap vs rvs->
 ∀{R:Result->Shared->Prop},jN C P T s k (fun rv s'=>R (.ok (.ret rv)) s')->codeAny (model C.prog C.w) A (.call (.ref fa) ⟨rvs,[]⟩) R s
variable{C P}
theorem cL:∀(names:List (Str×NameKind)) (k:Nat) (acc:List (Str×Addr)) (n:Str),(n,NameKind.cell)∈names\/(acc.lookup n).isSome=true->((cellsFrom k names acc).lookup n).isSome=true
 |[],k,acc,n,h=>by
  rcases h with h|h
  ·cases h
  ·exact h
 |(m,kd)::r,k,acc,n,h=>by
  unfold cellsFrom
  split
  ·rename_i hk
   refine cL r _ _ n ?_
   by_cases q:n=m
   ·right;subst q;simp
   ·rcases h with h|h
    ·left
     rcases List.mem_cons.mp h with e|e
     ·cases e;exact absurd rfl q
     ·exact e
    ·right
     have:(n==m)=false:=by rw[beq_eq_false_iff_ne];exact q
     simpa [List.lookup_cons,this] using h
  ·rename_i hk
   refine cL r _ _ n ?_
   rcases h with h|h
   ·left
    rcases List.mem_cons.mp h with e|e
    ·cases e;exact absurd rfl hk
    ·exact e
   ·exact .inr h
theorem jV(kindOf:Str->Option NameKind):∀(b:List (Str×Value)) (m:Str->Option Value) (n:Str),(b.map (·.1)).Nodup->kindOf n=some .local->
  bindL kindOf b m n=match b.lookup n with|some v=>some v|none=>m n
 |[],m,n,_,_=>rfl
 |(k,v)::r,m,n,hd,hk=>by
  obtain⟨h1,h2⟩:=List.nodup_cons.mp hd
  unfold bindL
  rw[jV kindOf r _ n h2 hk,List.lookup_cons]
  by_cases q:n=k
  ·subst q
   have:r.lookup n=none:=by
    rw[List.lookup_eq_none_iff]
    intro p hp
    have:n≠p.1:=fun e=>h1 (List.mem_map.mpr ⟨p,hp,e.symm⟩)
    simpa using this
   rw[this]
   simp[hk]
  ·have:(n==k)=false:=by rw[beq_eq_false_iff_ne];exact q
   rw[this]
   rcases r.lookup n with _|w
   ·show(if kindOf k=some .local then(fun y=>if y=k then some v else m y) else m) n=m n
    by_cases z:kindOf k=some .local
    ·rw[if_pos z];exact if_neg q
    ·rw[if_neg z]
   ·rfl
theorem kj(kindOf:Str->Option NameKind):∀(b:List (Str×Value)) (m:Str->Option Value) (n:Str),(b.map (·.1)).Nodup->kindOf n≠some .local->
  bindC kindOf b m n=match b.lookup n with|some v=>some v|none=>m n
 |[],m,n,_,_=>rfl
 |(k,v)::r,m,n,hd,hk=>by
  obtain⟨h1,h2⟩:=List.nodup_cons.mp hd
  unfold bindC
  rw[kj kindOf r _ n h2 hk,List.lookup_cons]
  by_cases q:n=k
  ·subst q
   have:r.lookup n=none:=by
    rw[List.lookup_eq_none_iff]
    intro p hp
    have:n≠p.1:=fun e=>h1 (List.mem_map.mpr ⟨p,hp,e.symm⟩)
    simpa using this
   rw[this]
   simp[hk]
  ·have:(n==k)=false:=by rw[beq_eq_false_iff_ne];exact q
   rw[this]
   rcases r.lookup n with _|w
   ·show(if kindOf k=some .local then m else(fun y=>if y=k then some v else m y)) n=m n
    by_cases z:kindOf k=some .local
    ·rw[if_pos z]
    ·rw[if_neg z];exact if_neg q
   ·rfl
theorem fJ{x:Nat}:∀{ps:List Nat} {vs:List V} {rvs:List Value},(∀p∈ps,filled (nm p)=true)->be T h vs rvs->
  match(ps.zip vs).lookup x with
  |some v=>∃rv,((ps.map nm).zip rvs).lookup (nm x)=some rv/\VR T h v rv
  |none=>True
 |[],vs,rvs,_,_=>by simp
 |p::ps,_,_,hp, .nil=>by simp
 |p::ps,_,_,hp, .cons (v:=rv) hx hs=>by
  have ih:=fJ (x:=x) (fun q hq=>hp q (cH _ hq)) hs
  simp only[List.zip_cons_cons,List.map_cons,List.lookup_cons]
  by_cases q:x=p
  ·subst q
   simp only[beq_self_eq_true]
   exact⟨rv,rfl,hx⟩
  ·have z:(x==p)=false:=by rw[beq_eq_false_iff_ne];exact q
   have z2:(nm x==nm p)=false:=by rw[beq_eq_false_iff_ne];exact fun e=>q (fQ (hp p bN) e)
   rw[z,z2];exact ih
theorem lC{s:Str}(h:isVar sc s=true):filled s=true:=by unfold isVar at h;exact(Bool.and_eq_true_iff.mp h).1
theorem gB:∀{ps:List Nat},(∀p∈ps,filled (nm p)=true)->ps.Nodup->(ps.map nm).Nodup
 |[],_,_=>List.Pairwise.nil
 |p::ps,hp,hd=>by
  obtain⟨h1,h2⟩:=List.nodup_cons.mp hd
  rw[List.map_cons,List.nodup_cons]
  refine⟨fun hm=>?_,gB (fun q hq=>hp q (cH _ hq)) h2⟩
  obtain⟨q,hq,e⟩:=List.mem_map.mp hm
  exact h1 (fQ (hp p bN) e▸hq)
theorem fz{α β:Type}:∀{l:List α} {r:List β},l.Nodup->((l.zip r).map (·.1)).Nodup
 |[],r,_=>by simp
 |a::l,[],_=>by simp
 |a::l,b::r,h=>by
  obtain⟨h1,h2⟩:=List.nodup_cons.mp h
  simp only[List.zip_cons_cons,List.map_cons,List.nodup_cons]
  refine⟨fun hm=>?_,fz h2⟩
  obtain⟨p,hp,e⟩:=List.mem_map.mp hm
  exact h1 (e▸(List.of_mem_zip hp).1)
theorem qJ{fd:FuncData}{F:Fn}{fa:Addr}{vals:List V}{rvals:List Value}{s':Shared}(R:Rep C P T G s.heap)
  (hk:fd.scope.kind= .function)(hg:fd.globals=mainGlobals)(hb:fd.builtins=builtinsNs)(hnd:F.ps.Nodup)(hvar:∀x∈F.ps,isVar fd.scope (nm x)=true)(hfree:∀y∈fd.scope.names,y.2≠ .free)
  (hv:be T s.heap vals rvals){env:Env}(he:env=newEnv fd.scope s.heap.objs.size fd.globals (cellsFrom (s.heap.objs.size+1) fd.scope.names []) (fd.qualname++".<locals>.") (some fa) fd.code none fd.builtins)
  (I:InCallC s env.locals (bindL env.kindOf ((F.ps.map nm).zip rvals) fun _=>none) env.cells (bindC env.kindOf ((F.ps.map nm).zip rvals) fun _=>none) s'):
  Ext T T s.heap s'.heap/\Rep C P T G s'.heap/\bI C fd.scope T env (fun x=>(F.ps.zip vals).lookup x) s'.heap/\(∀a,Own env a->s.heap.objs.size<=a)/\∃tk,s'={s with heap:=s'.heap,toks:=tk}:=by
 have hfl:∀p∈F.ps,filled (nm p)=true:=fun p hp=>lC (hvar p hp)
 have hscope:env.scope=fd.scope:=by rw[he];rfl
 have hL:env.locals=s.heap.objs.size:=by rw[he];rfl
 have keep:=I.toInCall.keep
 obtain⟨oL,esL,epL,hoL,_⟩:=I.toInCall.ns
 have x:Ext T T s.heap s'.heap:=⟨fun _ _ e=>e,fun _ _ e=> .inl e,fun b o _ ho=>keep b o ho⟩
 have R':Rep C P T G s'.heap:=R.xC x fun a t e=>by
  obtain⟨o,ho⟩:=R.there e
  rw[keep _ _ ho,ho]
 have own:∀a,Own env a->s.heap.objs.size<=a:=fun a ha=>by
  rcases ha with rfl|⟨n,hn⟩
  ·rw[hL];exact ab _
  ·have:=I.above n a (mem_of_lookup hn);rw[hL] at this;exact Nat.le_of_lt this
 have hnd':(((F.ps.map nm).zip rvals).map (·.1)).Nodup:=fz (gB hfl hnd)
 obtain⟨h0,tk,hs'⟩:=I.toInCall.same
 refine⟨x,R',⟨by rw[hscope];exact EU.refl hk,by rw[he];exact hg,by rw[he];exact hb,⟨_,I.toInCall.ns,fun y hy=>?_⟩,fun y hy=>?_,fun a ha=>R.free (own a ha),fun n c hc=>?_,I.apart,fun a ha=>R.dj (own a ha),fun a ha=>?_,fun a o ha ho=>?_⟩,own,tk,by rw[hs']⟩
 ·have z:=fJ (x:=y) hfl (hv.mono x)
  have hky:env.kindOf (nm y)=some .local:=by delta Env.kindOf;rw[hscope];exact hy
  rcases q:(F.ps.zip vals).lookup y with _|v
  ·trivial
  ·rw[q] at z
   obtain⟨rv,z1,z2⟩:=z
   refine⟨rv,?_,z2⟩
   rw[jV _ _ _ _ hnd' hky,z1]
 ·have hcell:fd.scope.names.lookup (nm y)=some .cell:=by
   rcases hy with hy|hy
   ·exact hy
   ·exact absurd rfl (hfree _ (mem_of_lookup hy))
  have hce:env.cells=cellsFrom (s.heap.objs.size+1) fd.scope.names []:=by rw[he];rfl
  have hsome:=cL fd.scope.names (s.heap.objs.size+1) [] (nm y) (.inl (mem_of_lookup hcell))
  obtain⟨c,hc⟩:=Option.isSome_iff_exists.mp hsome
  rw[←hce] at hc
  have hky:env.kindOf (nm y)≠some .local:=by delta Env.kindOf;rw[hscope,hcell];decide
  refine⟨c,_,hc,I.cell _ _ hc,?_⟩
  have z:=fJ (x:=y) hfl (hv.mono x)
  rcases q:(F.ps.zip vals).lookup y with _|v
  ·trivial
  ·rw[q] at z
   obtain⟨rv,z1,z2⟩:=z
   refine⟨rv,?_,z2⟩
   rw[kj _ _ _ _ hnd' hky,z1]
 ·have:=I.above n c hc;exact Nat.ne_of_gt this
 ·rcases ha with rfl|⟨n,hn⟩
  ·exact⟨oL,hoL⟩
  ·obtain⟨o,ho,_⟩:=I.cell _ _ hn;exact⟨o,ho⟩
 ·rcases ha with rfl|⟨n,hn⟩
  ·obtain⟨o',es,ep,ho',hd,_⟩:=I.toInCall.ns
   rw[ho] at ho';obtain rfl:=ag ho';exact .inr ⟨_,_,hd⟩
  ·obtain⟨o',ho',hd⟩:=I.cell _ _ hn
   rw[ho] at ho';obtain rfl:=ag ho';exact .inl ⟨_,hd⟩
end
section
variable{C:Cx}{P:Pg}{T:Tm}{G:Mine.H}{env:Env}{ρ:au}{h:Heap}{A:Around}{s:Shared}
theorem yo{ps:List Nat}{ds vs:List V}{ρ:au}(h:binds ps ds vs=some ρ):(vs.length<=ps.length/\ps.length - vs.length<=ds.length)/\ρ=fun x=>(ps.zip (vs++ds.drop (ds.length - (ps.length - vs.length)))).lookup x:=iD h (fun q e=>⟨q,(ag e).symm⟩) fun _ e=>aS e
theorem vz(O:C.Ok P){n:Nat}(ih:ik C P n):ib C P (n+1):=by
 intro G f vs k he fa hfa T A s rvs a R Vs Rz b
 obtain⟨F,hF,he⟩:=db he
 obtain⟨ρ,hb,hx⟩:=db he
 obtain⟨fa',hfa',FO⟩:=O.fn f F hF
 obtain rfl:=ag (hfa.symm.trans hfa')
 obtain⟨o,fd,body,ho,hd,hcd,hbody,hrs,hclo,hg,hblt,hk,hgen,hco,hnd,hvar,hfree,hbind⟩:=FO.all
 obtain⟨hlen,hb⟩:=yo hb
 obtain⟨dvs,hds,hB⟩:=hbind s rvs R.keep (Vs.length▸hlen.1) (Vs.length▸hlen.2)
 rw[hb] at hx
 have keepR:∀b o,C.base.get? b=some o->s.heap.get? b=some o:=R.keep
 have hnl:s.heap.NoLimit:=O.lim.keeps keepR
 have hvals:be T s.heap (vs++F.ds.drop (F.ds.length - (F.ps.length - vs.length))) (rvs++dvs.drop (F.ds.length - (F.ps.length - rvs.length))):=by
  rw[←Vs.length];exact Vs.append ((hds _ _).drop _)
 refine codeAny_call_function (by have:=a.1;unfold recursionLimit;lia) (keepR _ _ ho) hd hco hgen hbody ?_ (hB _ _ _ _ ?_)
 ·obtain⟨c,oc,vs',tq,h1,h2,h3,h4⟩:=hcd;exact⟨c,oc,vs',tq,h1,keepR _ _ h2,h3,h4⟩
 rw[hclo]
 refine wpAny_newFunctionEnv_cells hk (fun x hx=>?_) fun env he s1 I=>?_
 ·obtain⟨p,hp,e⟩:=List.mem_map.mp (List.of_mem_zip hx).1
  rw[←e]
  rcases fK (hvar p hp) with q|q|q
  ·exact .inl q
  ·exact .inr ⟨q,cL _ _ _ _ (.inl (mem_of_lookup q))⟩
  ·exact absurd rfl (hfree _ (mem_of_lookup q))
 ·obtain⟨x1,R1,F1,own,tk1,hs1⟩:=qJ R hk hg hblt hnd hvar hfree hvals he I
  refine⟨hnl.keeps I.toInCall.keep,codeAny_func ?_⟩
  refine ih hx hrs (show AR 0 (A.deeper env) n from⟨by have:=a.1;show 2*(A.depth+1)+n+0<=1900;lia,by have:=a.2.1;show A.units+3+2*n+2*0<=8900;lia,a.2.2⟩) F1 R1 fun r ρ' G1 h3 fl T2 h2 tk2 x2 R2 F2 hfl=>?_
  have y:Ext T T2 s.heap h2:=by
   refine⟨fun a t e=>x2.sub a t (x1.sub a t e),fun a t e=>(x2.new a t e).elim .inl fun q=>?_,fun c o hc ho=>?_⟩
   ·rcases w:s.heap.get? a with _|o
    ·exact .inr rfl
    ·rcases z:T a with _|u
     ·exact aS (q.1.symm.trans (x1.keep a o z w))
     ·exact .inl ((x2.sub a u (x1.sub a u z)).symm.trans e)
   ·exact x2.keep c o hc (fun q=>absurd (Heap.lt_size ho) (Nat.not_lt.mpr (own c q))) (x1.keep c o hc ho)
  have hfin:∀v rv,k v G1->VR T2 h2 v rv->Rz (.ok (.ret rv)) {s1 with heap:=h2,toks:=tk2}:=fun v rv hk V=>by
   have:=b v G1 hk rv T2 h2 tk2 y R2 V
   rw[hs1];exact this
  rcases r with _|w
  ·rw[show fl= .next from hfl]
   exact hfin _ _ h3 .none
  ·obtain⟨rv,e,V⟩:=hfl
   rw[e]
   exact hfin _ _ h3 V
end
noncomputable def HQ:List Nat:=[95,95,100,101,98,117,103,95,95]
noncomputable def GP:List Nat:=[95,95,99,108,97,115,115,100,105,99,116,95,95]
theorem AZ:oU.all (fun l=> !qX l HQ&&(!qX l GP&& !qX l dot0))=true:=by decide+kernel
theorem nK{k:Nat}:qX (nm k).cps.toList HQ=false/\qX (nm k).cps.toList GP=false/\qX (nm k).cps.toList dot0=false:=by
 unfold nm
 rw[List.getD_eq_getElem?_getD]
 rcases q:oU[k]? with _|l
 ·exact⟨rfl,rfl,rfl⟩
 ·have:=aa (List.all_eq_true.mp AZ l (List.mem_of_getElem? q))
  exact⟨(Bool.not_eq_true' _).mp this.1,(Bool.not_eq_true' _).mp (aa this.2).1,(Bool.not_eq_true' _).mp (aa this.2).2⟩
theorem gu{k:Nat}:(nm k==("__debug__":Str))=false:=by
 rw[beq_eq_false_iff_ne]
 intro e
 have:=(nK (k:=k)).1
 rw[e] at this
 revert this
 decide+kernel
theorem lz{k:Nat}:(nm k==("__classdict__":Str))=false:=by
 rw[beq_eq_false_iff_ne]
 intro e
 have:=(nK (k:=k)).2.1
 rw[e] at this
 revert this
 decide+kernel
section
variable{C:Cx}{P:Pg}{sc:Scope}{T:Tm}{G G':Mine.H}{env:Env}{ρ:au}{h:Heap}{A:Around}{s:Shared}
theorem bI.fn(F:bI C sc T env ρ s.heap):env.scope.kind= .function:=F.scope.kind
theorem ta(F:bI C sc T env ρ s.heap){x:Nat}{v:V}(hx:isVar sc (nm x)=true)(hv:ρ x=some v){M:Model}{Q:Value->Shared->Prop}{E}
  (b:∀rv,VR T s.heap v rv->Q rv s):wpAny M A (loadName env (nm x)) Q E s:=by
 have oO:(sc.names.lookup (nm x)=some .cell\/sc.names.lookup (nm x)=some .free)->wpAny M A (loadName env (nm x)) Q E s:=fun q=>by
  obtain⟨c,ov,hc,hi,hw⟩:=F.cels x q
  rw[hv] at hw
  obtain⟨rv,e,h2⟩:=hw
  rw[e] at hi
  rcases F.scope.oO (nm x) q with z|z
  ·exact wpAny_loadName_cell F.fn (z) hc hi (b rv h2)
  ·exact wpAny_loadName_free F.fn (z) hc hi (b rv h2) lz
 refine(fK hx).elim (fun q=>?_) oO
 obtain⟨m,hn,hl⟩:=F.locs
 have:=hl x q
 rw[hv] at this
 obtain⟨rv,h1,h2⟩:=this
 exact wpAny_loadName_local F.fn (F.scope.loc _ q) hn h1 (b rv h2)
theorem gR(O:C.Ok P)(F:bI C sc T env ρ s.heap)(R:Rep C P T G s.heap){x:Str}(hx:bU sc x=true){rv:Value}(hv:C.mg x=some rv){M:Model}{Q:Value->Shared->Prop}{E}
  (b:Q rv s):wpAny M A (loadName env x) Q E s:=by
 rw[loadName_read F.fn (F.scope.glob _ (iq hx))]
 exact loadGlobal_global (mg:=C.mg) (by rw[F.glob];exact R.ns O.g) hv b
theorem iV(O:C.Ok P)(F:bI C sc T env ρ s.heap)(R:Rep C P T G s.heap){x:Str}(hx:bU sc x=true)(hm:C.mg x=none){rv:Value}(hv:C.mb x=some rv){M:Model}{Q:Value->Shared->Prop}{E}
  (b:Q rv s):wpAny M A (loadName env x) Q E s:=by
 rw[loadName_read F.fn (F.scope.glob _ (iq hx))]
 exact loadGlobal_builtin (mg:=C.mg) (mb:=C.mb) (by rw[F.glob];exact R.ns O.g) hm (by rw[F.blt];exact R.ns O.b) hv b
theorem qB{pe:Expr}{a:Str}{p:Pos}(h:dh pe=true):eval (.Attribute pe a p) env=(do
   let o ←eval pe env
   standAt p.atName
   let r ←holding [o] (getAttr o a true)
   letTemporaryGo pe o r
   pure r):=by
 rcases pe with _|_|_|_|_|_|_|_|_|_|_|_|_|_|_|_|_|_|_|_|_|_|_|_|_|_|_<;>first|rfl|exact ft h
theorem jg{i:Int}(h:small i=true): -(2 ^ 40)<i/\i<2 ^ 40:=by
 exact⟨ao (aa h).1,ao (aa h).2⟩
theorem wpAny_of_eq{M:Model}{α:Type}{t t':Sem α}{Q:α->Shared->Prop}{E}(e:t=t')(h:wpAny M A t' Q E s):wpAny M A t Q E s:=e▸h
theorem xw(O:C.Ok P){n:Nat}(ih:bX C P n){e a k}(he:aN P (n+1) ρ G (.attr e a) k){pe p}(hr:cE sc e pe=true)(hs:dh pe=true)(ar:AR 2 A (n+1))(F:bI C sc T env ρ s.heap)
  (R:Rep C P T G s.heap){Q E}(b:jN C P T s k Q):wpAny (model C.prog C.w) A (eval (.Attribute pe (nm a) p) env) Q E s:=by
 dsimp only[nR] at he
 refine Attribute_any_ (ih he hr ar.dn F R fun o G1 h2 rv T1 h1' tk1 x1 R1 V1=>?_) (qB hs)
 obtain⟨v,h3,h4⟩:=db h2
 exact rq O R1 V1 h3 ((b v G1 h4).of x1)
theorem Es(R:Rep C P T G s.heap){o:Op}{x y z:Int}{tx ty:Tok}(ho:oo o x y=some z){Q E}(b:Back C P T s (.int z) G Q):wpAny (model C.prog C.w) A (binaryOp (lh o) (.int x tx) (.int y ty)) Q E s:=by
 have q:∀{w:Int} {tk:Nat} {t:Tok},some w=some z->Q (.int w t) {s with toks:=tk}:=fun e=>ag e▸b.now R .int
 induction o with
 |add=>exact PyProof.Rows.add_int (q ho)
 |sub=>exact PyProof.Rows.sub_int (q ho)
 |mul=>
  refine iD (show(if(small x&&small y)=true then some (x*y) else none)=some z from ho) (fun hs e=>PyProof.Rows.mul_int (q e) ?_) fun _ e=>aS e
  have hs:=jg (aa hs).1
  exact .of_left (intBits_le_64 (by lia) (by lia))
 |fdiv=>
  refine iD (show(if(small x&&small y&&y != 0)=true then some (Int.fdiv x y) else none)=some z from ho) (fun hs e=>?_) fun _ e=>aS e
  have hs2:=jg (aa (aa hs).1).2
  have h0:y≠0:=bne_iff_ne.mp (aa hs).2
  refine PyProof.Rows.floordiv_int h0 (q e) (.inl (PyProof.noPylong_of_log2 ?_))
  have:y.natAbs.log2<40:=(Nat.log2_lt (by lia)).mpr (by lia)
  lia
 |mod=>exact iD (show(if(y != 0)=true then some (Int.fmod x y) else none)=some z from ho) (fun hs e=>PyProof.Rows.mod_int' (bne_iff_ne.mp hs) (q e)) fun _ e=>aS e
theorem Iv(R:Rep C P T G s.heap){o:Op}{x y v:V}{rx ry:Value}(ho:lN G o x y=some (v,G'))(Vx:VR T s.heap x rx)(Vy:VR T s.heap y ry)
  (hlist:∀i a,x= .list i->rx= .ref a->T a=some (.list i)->KI G o i y=some (v,G')->∀{Q E},Back C P T s v G' Q->wpAny (model C.prog C.w) A (binaryOp (lh o) rx ry) Q E s)
  {Q E}(b:Back C P T s v G' Q):wpAny (model C.prog C.w) A (binaryOp (lh o) rx ry) Q E s:=by
 rcases x with _|_|x|_|_|_|_|i|_|_
 case int=>
  rcases y with _|_|y|_|_|_|_|_|_|_
  case int=>
   obtain⟨z,hz,e⟩:=Option.map_eq_some_iff.mp (show(oo o x y).map (fun z=>(V.int z,G))=some (v,G') from ho)
   exact Vx.eI (M:=fun rx=>wpAny _ A (binaryOp (lh o) rx ry) Q E s) fun t=>Vy.eI (M:=fun ry=>wpAny _ A (binaryOp (lh o) (.int x t) ry) Q E s) fun u=>Es R hz (qi (p:=fun v G=>Back C P T s v G Q) (congrArg some e) b)
  all_goals exact aS ho
 case list=>obtain⟨a,e,ha⟩:=Vx.inv;exact hlist _ _ rfl e ha ho b
 all_goals exact aS ho
end
section
variable{C:Cx}{P:Pg}{sc:Scope}{T T':Tm}{G G':Mine.H}{env:Env}{ρ:au}{h h':Heap}{A:Around}{s:Shared}
theorem fc(R:Rep C P T G s.heap){xs:List V}{vs:List Value}{vs':Array Value}(e:vs'=⟨vs⟩)(hv:be T s.heap xs vs)(hn:xs.length<=cap){Q:Value->Shared->Prop}(b:Back C P T s (.list G.nl) (G.newL xs) Q)(tk:Nat):
  Q (.ref s.heap.objs.size) {s with heap:=s.heap.push {cls:= .type "list",data:= .seq vs'},toks:=tk}:=by
 subst e
 have x0:Ext T T s.heap (s.heap.push {cls:= .type "list",data:= .seq ⟨vs⟩}):=bp _
 refine b _ _ _ tk (cr R (ab _) x0) (R.iM (ab _) x0 (fun b u e=>?_) (R.dj (ab _)) (Heap.get?_push_size _ rfl) hv hn) (.list (by simp[dq]))
 obtain⟨o',ho⟩:=R.there e
 rw[Heap.get?_push_of_some _ ho,ho]
theorem nF(R:Rep C P T G s.heap){xs:List V}{vs:List Value}{vs':Array Value}(e:vs'=⟨vs⟩)(hv:be T s.heap xs vs)(hn:xs.length<=cap){Q:Value->Shared->Prop}(b:Back C P T s (.tup xs) G Q)(tk:Nat):
  Q (.ref s.heap.objs.size) {s with heap:=s.heap.push {cls:= .type "tuple",data:= .seq vs'},toks:=tk}:=by
 subst e
 have x0:Ext T T s.heap (s.heap.push {cls:= .type "tuple",data:= .seq ⟨vs⟩}):=bp _
 exact b _ _ _ tk x0 (R.push _) (.tup (R.free (ab _)) ⟨_,Heap.get?_push_size _ rfl⟩ (hv.mono x0) hn)
theorem wX{n:Nat}(ihs:dF C P n){es k}(he:aN P (n+1) ρ G (.list es) k){pes p}(hl:pes.length<=1000)(hr:hW sc es pes=true)(ar:AR 2 A (n+1))(F:bI C sc T env ρ s.heap)
  (R:Rep C P T G s.heap){Q E}(b:jN C P T s k Q):wpAny (model C.prog C.w) A (eval (.List pes p) env) Q E s:=by
 dsimp only[jD] at he
 exact List_ (ihs he hr ar.dn F R fun vs G1 hk rvs T' h' tk x R' Vs hm=>uT R' Vs (by rw[Vs.length,hm];unfold cap;lia) ((b _ _ hk).of x))
theorem DA{n:Nat}(ihs:dF C P n){es k}(he:aN P (n+1) ρ G (.tup es) k){pes j p}(hl:pes.length<=1000)(hr:hW sc es pes=true)(ar:AR 2 A (n+1))(F:bI C sc T env ρ s.heap)
  (R:Rep C P T G s.heap){Q E}(b:jN C P T s k Q):wpAny (model C.prog C.w) A (eval (.Tuple pes j p) env) Q E s:=by
 dsimp only[sZ] at he
 exact Tuple_ (ihs he hr ar.dn F R fun vs G1 hk rvs T' h' tk x R' Vs hm=>qW R' Vs (by rw[Vs.length,hm];unfold cap;lia) ((b _ _ hk).of x))
theorem kp:∀(n:Nat) (items acc:Array Value),(List.foldl (fun x1 x2=>x1++x2) acc (List.replicate n items))=⟨acc.toList++(List.replicate n items.toList).flatten⟩
 |0,items,acc=>by simp
 |n+1,items,acc=>by
  rw[List.replicate_succ,List.foldl_cons,kp n,List.replicate_succ]
  simp[List.append_assoc]
theorem be.flat{xs:List V}{vs:List Value}(h1:be T h xs vs):∀n,be T h (List.replicate n xs).flatten (List.replicate n vs).flatten
 |0=> .nil
 |n+1=>by
  rw[List.replicate_succ,List.replicate_succ,List.flatten_cons,List.flatten_cons]
  exact h1.append (be.flat h1 n)
theorem vD(xs:List V)(n:Nat):((List.replicate n xs).flatten).length=n*xs.length:=by
 induction n with
 |zero=>simp
 |succ n ih=>rw[List.replicate_succ,List.flatten_cons,List.length_append,ih,Nat.succ_mul];lia
theorem xL(R:Rep C P T G s.heap){o:Op}{y v:V}{ry:Value}{i:Nat}{a:Addr}(hx:T a=some (.list i))(ho:KI G o i y=some (v,G'))(Vy:VR T s.heap y ry){Q E}(b:Back C P T s v G' Q):
  wpAny (model C.prog C.w) A (binaryOp (lh o) (.ref a) ry) Q E s:=by
 obtain⟨vs,n1,g1,g2,_,_,g3⟩:=listAt R hx
 have l1:=g2.length
 have prB:∀{v1 G1},some (v1,G1)=some (v,G')->Back C P T s v1 G1 Q:=fun e=>qi (p:=fun v G=>Back C P T s v G Q) e b
 rcases o with _|_|_|_|_
 case add=>
  rcases y with _|_|_|_|_|_|_|j|_|_
  case list=>
   refine Vy.eL (M:=fun ry=>wpAny _ A (binaryOp (lh .add) (.ref a) ry) Q E s) fun a2 hy=>iD (show(if(G.lst i).length+(G.lst j).length<eg then some (.list G.nl,G.newL (G.lst i++G.lst j)) else none)=some (v,G') from ho) (fun hc e=>?_) fun _ e=>aS e
   obtain⟨ws,n2,k1,k2,_,_,k3⟩:=listAt R hy
   have hc:(G.lst i).length+(G.lst j).length<100000:=hc
   refine PySem.P.add_list g1 k1 (fc R (by simp) (g2.append k2) (by rw[List.length_append];exact af (Nat.le_of_lt hc) (by decide)) (prB e) s.toks) ?_
   rw[l1,k2.length] at hc
   exact af (Nat.le_of_lt hc) (by decide)
  all_goals exact aS ho
 case mul=>
  rcases y with _|_|k|_|_|_|_|_|_|_
  case int=>
   refine Vy.eI (M:=fun ry=>wpAny _ A (binaryOp (lh .mul) (.ref a) ry) Q E s) fun t=>iD (show(if(G.lst i).length=1/\0<=k/\k<eg then some (.list G.nl,G.newL (List.replicate k.toNat (G.lst i)).flatten) else none)=some (v,G') from ho) (fun hc e=>?_) fun _ e=>aS e
   have hk:k<100000:=hc.2.2
   have hk0:=hc.2.1
   have hone:vs.length=1:=l1.symm.trans hc.1
   obtain⟨u,hu⟩:∃u,vs=[u]:=List.length_eq_one_iff.mp hone
   have hsz:(⟨vs⟩:Array Value).size=1:=hone
   refine wpAny_binaryOp_repeat_ref (U:="int") (by decide) ⟨_,g1,rfl⟩ (fun s'=>typeIs_int s' k _) noFill_list_mul F.fills_int_mul F.slot_int_rmul repeat_list F.slot_int_index.lookup
    (call_meets F.slot_int_rmul (typeIs_int s k _) F.entry_int_rmul (F.args_int_rmul_2 _ _) (int___rmul___int_list k _ _ ⟨vs⟩ n1)
     ⟨g1,rfl,⟨_,g1,rfl⟩,call_meets F.slot_list_mul ⟨_,g1,rfl⟩ F.entry_list_mul (F.args_list_mul_2 _ _)
      (AutoListH.list___mul___list_int_3 _ ⟨vs⟩ n1 k _ (by simp[Builtin.List.listFitsIndex];lia) (by rw[hsz];lia) (by rw[hsz];simp[Builtin.List.listTooLong,sizeLine];lia))
      ⟨g1,?_⟩⟩)
   refine fc R ?_ (g2.flat _) (by rw[vD,hc.1,Nat.mul_one];exact af ((Int.toNat_le).mpr (ba hk)) (by decide)) (prB e) s.toks
   rw[hu]
   exact(kp _ _ _).trans (congrArg Array.mk (List.nil_append _))
  all_goals exact aS ho
 all_goals exact aS ho
end
section
variable{C:Cx}{P:Pg}{sc:Scope}{T:Tm}{G G':Mine.H}{env:Env}{ρ:au}{h:Heap}{A:Around}{s:Shared}
theorem ki{value slice:Expr}{o i:Value}{T id:String}{ops:List Value}{Q:Value->Shared->Prop}{E}(hT:s.TypeIs o T)
  (hl:typeLookup (.type T) "__getitem__"=pure (some (.builtin id)))(h:wpAny (model C.prog C.w) A (getItem o i) Q E s)
  (hs:subscripted slice false o i=operate ops (getItem o i)):
  wpAny (model C.prog C.w) A (subscriptTail value slice o i) Q E s:=by
 unfold subscriptTail
 refine wpAny_bind ?_
 rw[getitemInPython_of_ne hT.not_modules]
 refine wpAny_bind (wpAny_specialOf hT hl ?_)
 have fin:wpAny (model C.prog C.w) A (subscripted slice false o i) (fun r s₃=>wpAny (model C.prog C.w) A (letTemporaryGo value o r>>=fun _=>pure r) Q E s₃) E s:=by
  rw[hs]
  exact wpAny_operating (wpAny_mono h (fun r s₃ h₃=>wpAny_bind (wpAny_letTemporaryGo (wpAny_pure h₃))) fun _ _ x=>x)
 first
  |exact wpAny_pure (wpAny_bind fin)
  |exact wpAny_bind (wpAny_pure (wpAny_bind fin))
  |exact wpAny_bind fin
theorem gV{pi:Expr}{o i:Value}(h:qv pi=true):subscripted pi false o i=operate [o,i] (getItem o i):=by
 rcases pi with _|_|_|_|_|_|_|_|_|_|_|_|_|_|_|_|_|_|_|_|_|_|_|_|_|_|_<;>first|rfl|exact ft h
theorem lL{n:Nat}{k:Int}{j:Nat}(h:pP n k=some j)(h0:0<=k):j=k.toNat/\k<n:=
 iD ((if_pos h0).symm.trans h) (fun q e=>⟨(ag e).symm,q⟩) fun _ e=>aS e
theorem oQ{n:Nat}{k:Int}{j:Nat}(h:pP n k=some j)(h0:¬0<=k):j=(k+n).toNat/\ -(n:Int)<=k:=
 iD ((if_neg h0).symm.trans h) (fun q e=>⟨(ag e).symm,q⟩) fun _ e=>aS e
theorem xu{n:Nat}{k:Int}{j:Nat}(h:pP n k=some j):seqIndex? k n=some j/\ -(n:Int)<=k/\k<n/\j<n:=by
 have fin:∀{z:Int},(if k<0 then k+n else k)=z->0<=z->z<n->j=z.toNat->seqIndex? k n=some j:=fun {z} e h1 h2 h3=>by
  show(if(decide (0<=if k<0 then k+n else k)&&decide ((if k<0 then k+n else k)<n))=true then some (if k<0 then k+n else k).toNat else none)=_
  rw[e,aK h1,aK h2,h3];rfl
 by_cases h0:0<=k
 ·obtain⟨e,h1⟩:=lL h h0
  exact⟨fin (if_neg (Int.not_lt.mpr h0)) h0 h1 e,by lia,h1,by lia⟩
 ·obtain⟨e,h1⟩:=oQ h h0
  exact⟨fin (if_pos (Int.not_le.mp h0)) (by lia) (by lia) e,h1,by lia,by lia⟩
theorem DI(R:Rep C P T G s.heap){o i v:V}{ro ri:Value}(ho:eO G o i=some v)(Vo:VR T s.heap o ro)(Vi:VR T s.heap i ri){pe pi:Expr}(hp:qv pi=true){Q E}(b:Back C P T s v G Q):
  wpAny (model C.prog C.w) A (subscriptTail pe pi ro ri) Q E s:=by
 have int:∀{f:Int->Option V} {M:Value->Prop},fs i f=some v->(∀k t,f k=some v->M (.int k t))->M ri:=fun {f M} ho g=>dT ho fun k e ho=>VR.eI (e▸Vi) fun t=>g k t ho
 rcases o with _|_|_|_|xs|_|_|l|d|_
 case list=>
  refine Vo.eL (M:=fun ro=>wpAny _ _ (subscriptTail pe pi ro ri) Q E s) fun a ha=>int (M:=fun ri=>wpAny _ _ (subscriptTail pe pi (.ref a) ri) Q E s) ho fun k t ho=>?_
  obtain⟨vs,n1,g1,g2,_,hL,g3⟩:=listAt R ha
  obtain⟨j,hj,hv⟩:=Option.bind_eq_some_iff.mp ho
  obtain⟨rv,hrv,V⟩:=g2.get hv
  have hlen:=g2.length
  have g3:(G.lst l).length<=2 ^ 20:=g3
  have hrv:(⟨vs⟩:Array Value)[j]?=some rv:=(List.getElem?_toArray (xs:=vs)).trans hrv
  refine ki hL.typeIs slot_list_getitem.lookup ?_ (gV hp)
  by_cases h0:0<=k
  ·obtain⟨e,h1⟩:=lL hj h0
   exact wpAny_getItem_list hL h0 (by lia) (e▸hrv) (b.now R V)
  ·obtain⟨e,h1⟩:=oQ hj h0
   have sz:(⟨vs⟩:Array Value).size=vs.length:=rfl
   refine wpAny_getItem_list_neg hL (by lia) (by rw[sz];lia) (by lia) ?_ (b.now R V)
   rw[sz,←hlen]
   exact e▸hrv
 case tup=>
  refine Vo.eT (M:=fun ro=>wpAny _ _ (subscriptTail pe pi ro ri) Q E s) fun a vs ha ho' hs hn=>int (M:=fun ri=>wpAny _ _ (subscriptTail pe pi (.ref a) ri) Q E s) ho fun k t ho=>?_
  obtain⟨j,hj,hv⟩:=Option.bind_eq_some_iff.mp ho
  obtain⟨rv,hrv,V⟩:=hs.get hv
  have hlen:=hs.length
  have hn:xs.length<=2 ^ 20:=hn
  obtain⟨h1,h2,h3,_⟩:=xu hj
  refine ki ho'.tup.typeIs slot_tuple_getitem.lookup ?_ (gV hp)
  exact PyProof.Rows.getItem_tuple ho'.tup (by lia) (by lia) (show seqIndex? k vs.length=some j from hlen▸h1) ((List.getElem?_toArray (xs:=vs)).trans hrv) (b.now R V)
 case dict=>
  refine Vo.eD (M:=fun ro=>wpAny _ _ (subscriptTail pe pi ro ri) Q E s) fun a ha=>int (M:=fun ri=>wpAny _ _ (subscriptTail pe pi (.ref a) ri) Q E s) ho fun k t ho=>?_
  obtain⟨kvs,hm,_,hf,_⟩:=R.cell _ _ ha
  have:=hf k
  rw[show(G.dct d).1 k=some v from ho] at this
  obtain⟨rv,h1,V⟩:=this
  exact ki hm.typeIs slot_dict_getitem.lookup (wpAny_getItem_of (knd:=intKind C.prog C.w) (by simp[intKind,Value.isInt]) hm.mapOf h1 (b.now R V)) (gV hp)
 all_goals exact aS ho
theorem AI{n:Nat}(ih:bX C P n){e i k}(he:aN P (n+1) ρ G (.sub e i) k){pe pi p}(hp:qv pi=true)(hr:cE sc e pe=true)(hi:cE sc i pi=true)(ar:AR 2 A (n+1))(F:bI C sc T env ρ s.heap)
  (R:Rep C P T G s.heap){Q E}(b:jN C P T s k Q):wpAny (model C.prog C.w) A (eval (.Subscript pe pi p) env) Q E s:=by
 dsimp only[w_sub] at he
 refine Subscript_ (ih he hr ar.dn F R fun o G1 he1 ro T1 h1' tk1 x1 R1 V1=>ih he1 hi ar.dn (F.mono x1) R1 fun j G2 he2 ri T2 h2' tk2 x2 R2 V2=>?_)
 obtain⟨v,h3,h4⟩:=db he2
 exact DI R2 h3 (V1.mono x2) V2 hp ((b _ _ h4).of (x1.trans x2))
noncomputable abbrev cl(n:Nat)(p:Option Int)(d:Nat):Nat:=p.elim d (clipAt n)
theorem BL{n:Nat}{k:Int}:(if k<0 then(if k+n<0 then 0 else(k+n).toNat) else if k>n then n else k.toNat)=clipAt n k:=by
 have:=clipAt_cast n k
 by_cases h:k<0
 ·rw[if_pos h] at*
  by_cases h2:k+n<0
  ·rw[if_pos h2];lia
  ·rw[if_neg h2];lia
 ·rw[if_neg h] at*
  by_cases h2:k>n
  ·rw[if_pos h2];lia
  ·rw[if_neg h2];lia
theorem e7{v:V}{rv:Value}{n d c:Nat}(hc:cutAt n v d=some c)(x:VR T h v rv):∃p,IsPart rv p/\c=cl n p d:=by
 rcases v with _|b|k|_|_|_|_|_|_|_
 ·exact x.eN (M:=fun rv=>∃p,IsPart rv p/\c=cl n p d) ⟨_, .none,(ag hc).symm⟩
 case int=>exact iD hc (fun _ e=>x.eI (M:=fun rv=>∃p,IsPart rv p/\c=cl n p d) fun t=>⟨_, .int k _,(ag e).symm.trans BL⟩) fun _ e=>aS e
 all_goals exact aS hc
theorem rN(lo hi:Option Int)(n:Nat):Builtin.Slice.sliceAdjust lo hi 1 (n:Int)=((cl n lo 0:Int),(cl n hi n:Int)):=by
 have c:∀k:Int,(if k<0 then max (k+n) 0 else min k n)=((clipAt n k:Nat):Int):=fun k=>by
  rw[clipAt_cast]
  by_cases h:k<0
  ·rw[if_pos h,if_pos h];lia
  ·rw[if_neg h,if_neg h];lia
 have d:∀(p:Option Int) (d:Nat),(match p with|none=>(d:Int)|some k=>if k<0 then max (k+n) 0 else min k n)=((cl n p d:Nat):Int):=fun p d=>by
  rcases p with _|k
  ·rfl
  ·exact c k
 exact Prod.ext (d lo 0) (d hi n)
theorem nu(a b:Nat):Builtin.Slice.slicePlaces (a:Int) (b:Int) 1=b - a:=by
 show(if(a:Int)<b then((b:Int) - a - 1) / 1+1 else 0).toNat=_
 rw[Int.ediv_one]
 by_cases h:(a:Int)<b
 ·rw[if_pos h];lia
 ·rw[if_neg h];lia
theorem fC{M':Program}{w':World}{rv:Value}{p:Option Int}(x:IsPart rv p){Q:Option Int->Shared->Prop}{E}(q:Q p s):wpAny (model M' w') A (Builtin.Slice.slicePartIndex rv) Q E s:=by
 rcases x with _|⟨k,t⟩
 ·exact slicePart_none q
 ·exact slicePart_int q
theorem gi{t sl:Addr}{vs:List Value}{vl vu:Value}{lo hi:Option Int}{a c:Nat}{Q:Value->Shared->Prop}{E}(ht:IsTup s.heap t ⟨vs⟩)(hs:s.heap.IsSliceOf sl vl vu .none)(pl:IsPart vl lo)(pu:IsPart vu hi)
  (ea:a=cl vs.length lo 0)(ec:c=cl vs.length hi vs.length)(hlt:c - a<vs.length)(hn:vs.length<=cap)
  (q:Q (.ref s.heap.objs.size) {s with heap:=s.heap.push {cls:= .type "tuple",data:= .seq ⟨(vs.drop a).take (c - a)⟩}}):
  wpAny (model C.prog C.w) A (getItem (.ref t) (.ref sl)) Q E s:=by
 have hcut:sizeOk (.seq (⟨(vs.drop a).take (c - a)⟩:Array Value)):=by
  show((vs.drop a).take (c - a)).length<=2 ^ 24
  rw[List.length_take,List.length_drop]
  have hn:vs.length<=2 ^ 20:=hn
  lia
 obtain⟨os,hos,hcs,hds⟩:=id hs
 have hTs:s.TypeIs (.ref sl) "slice":=⟨os,hos,hcs⟩
 unfold getItem
 with_reducible refine wpAny_holding ?_
 refine wpAny_bind (wpAny_sequenceKey ht.typeIs (by decide) ?_)
 refine wpAny_bind (wpAny_callSpecial?_slot (name:=Str.ofString "__getitem__") ht.typeIs slot_tuple_getitem
  (wpAny_call_entry slot_tuple_getitem ht.typeIs entry_tuple_getitem ?_ (args_tuple_getitem _ _)))
 show wpAny _ _ (Builtin.Tuple.tupleItemsOf (.ref t)>>=_) _ _ s
 refine wpAny_bind (tupleItemsOf_ ht ?_)
 refine wpAny_bind (wpAny_typeOf hTs ?_)
 rw[if_pos (by decide)]
 have hsz:(⟨vs⟩:Array Value).size=vs.length:=rfl
 have key:∀{A:Around} {Q:Int×Int×Nat->Shared->Prop} {E},Q ((a:Int),1,c - a) s->wpAny (model C.prog C.w) A (Builtin.Slice.sliceApplied (.ref sl) (pure (vs.length:Int))) Q E s:=by
  intro A Q E q
  unfold Builtin.Slice.sliceApplied Builtin.Slice.sliceFields
  refine wpAny_bind (wpAny_bind (wpAny_field hos hds (x:=vl) rfl (wpAny_bind (wpAny_field hos hds (x:=vu) rfl (wpAny_bind (wpAny_field hos hds rfl (wpAny_pure ?_)))))))
  refine wpAny_bind (slicePart_none ?_)
  show wpAny _ _ (if((1:Int)==0)=true then _ else _) _ _ s
  rw[if_neg (by decide)]
  refine wpAny_bind (fC pl (wpAny_bind (fC pu (wpAny_bind (wpAny_pure ?_)))))
  show wpAny _ _ (match Builtin.Slice.sliceAdjust lo hi 1 (vs.length:Int) with|(lo,hi)=>pure (lo,(1:Int),Builtin.Slice.slicePlaces lo hi 1)) _ _ s
  rw[rN,←ea,←ec]
  show wpAny _ _ (pure ((a:Int),(1:Int),Builtin.Slice.slicePlaces (a:Int) (c:Int) 1)) _ _ s
  rw[nu]
  exact wpAny_pure q
 refine wpAny_bind (key ?_)
 show wpAny _ _ (if((a:Int)==0&&(1:Int)==1&&(c - a)==(⟨vs⟩:Array Value).size)=true then _ else _) _ _ s
 rw[if_neg (by rw[show((c - a)==(⟨vs⟩:Array Value).size)=false from beq_eq_false_iff_ne.mpr (aj hlt),Bool.and_false];decide)]
 have hpick:((List.range (c - a)).filterMap fun(k:Nat)=>(⟨vs⟩:Array Value)[((a:Int)+(k:Int)*1).toNat]?).toArray=⟨(vs.drop a).take (c - a)⟩:=by
  refine congrArg Array.mk (Eq.trans ?_ ((List.filterMap_map).symm.trans (pick_run (⟨vs⟩:Array Value) a (c - a))))
  exact congrArg (fun f=>List.filterMap f _) (funext fun k=>by rw[Int.mul_one];rfl)
 rw[hpick]
 first
  |exact wpAny_bind (wpAny_newObj_type (wpAny_pure ⟨_,rfl,wpAny_pure q⟩) hcut)
  |exact wpAny_bind (wpAny_newObj_type (wpAny_bind (wpAny_pure (wpAny_pure ⟨_,rfl,wpAny_pure q⟩))) hcut)
  |exact wpAny_bind (wpAny_bind (wpAny_newObj_type (wpAny_pure (wpAny_pure ⟨_,rfl,wpAny_pure q⟩)) hcut))
  |exact wpAny_bind (wpAny_bind (wpAny_newObj_type (wpAny_pure ⟨_,rfl,wpAny_pure q⟩) hcut))
theorem Bg(R:Rep C P T G s.heap){sl:Addr}{o lo hi v:V}{ro rl ru:Value}(hS:s.heap.IsSliceOf sl rl ru .none)(ho:m5 G o lo hi=some (v,G'))(Vo:VR T s.heap o ro)(Vl:VR T s.heap lo rl)(Vu:VR T s.heap hi ru){pe:Expr}{a1 a2 p}{Q E}(b:Back C P T s v G' Q):
  wpAny (model C.prog C.w) A (subscriptTail pe (.Slice a1 a2 none p) ro (.ref sl)) Q E s:=by
 have len:∀{xs:List V} {a c:Nat},xs.length<=cap->((xs.drop a).take (c - a)).length<=cap:=fun {xs a c} q=>by
  rw[List.length_take,List.length_drop];exact af (Nat.min_le_right _ _) (af (Nat.sub_le _ _) q)
 have lst:∀{xs:List V} {vs:List Value} {ad:Addr},s.heap.IsList ad vs.toArray->be T s.heap xs vs->xs.length<=cap->(do
   let a ←cutAt xs.length lo 0
   let b ←cutAt xs.length hi xs.length
   some (V.list G.nl,G.newL ((xs.drop a).take (b - a))))=some (v,G')->wpAny (model C.prog C.w) A (subscriptTail pe (.Slice a1 a2 none p) (.ref ad) (.ref sl)) Q E s:=fun {xs vs ad} hL g2 g3 ho=>by
  obtain⟨a,h1,ho⟩:=Option.bind_eq_some_iff.mp ho
  obtain⟨c,h2,ho⟩:=Option.bind_eq_some_iff.mp ho
  obtain⟨pl,Pl,e1⟩:=e7 h1 Vl
  obtain⟨pu,Pu,e2⟩:=e7 h2 Vu
  rw[g2.length] at e1 e2
  refine ki hL.typeIs slot_list_getitem.lookup (wpAny_getItem_list_slice hL hS Pl Pu .none (by simp) ?_ (af (g2.length▸g3) (by decide))) rfl
  refine fc R ?_ ((g2.drop a).take (c - a)) (len g3) (qi (p:=fun v G'=>Back C P T s v G' Q) ho b) s.toks
  rw[slicePick_plain,e1,e2];rfl
 rcases o with _|_|_|_|xs|xs|_|l|_|_
 case list=>
  refine Vo.eL (M:=fun ro=>wpAny _ _ (subscriptTail pe (.Slice a1 a2 none p) ro (.ref sl)) Q E s) fun ad ha=>?_
  obtain⟨vs,n1,g1,g2,_,hL,g3⟩:=listAt R ha
  exact lst hL g2 g3 ho
 case fro=>exact Vo.eF (M:=fun ro=>wpAny _ _ (subscriptTail pe (.Slice a1 a2 none p) ro (.ref sl)) Q E s) fun ad vs ha hL hs hn=>lst hL hs hn ho
 case tup=>
  refine Vo.eT (M:=fun ro=>wpAny _ _ (subscriptTail pe (.Slice a1 a2 none p) ro (.ref sl)) Q E s) fun ad vs ha ho' hs hn=>?_
  obtain⟨a,h1,ho⟩:=Option.bind_eq_some_iff.mp ho
  obtain⟨c,h2,ho⟩:=Option.bind_eq_some_iff.mp ho
  refine iD ho (fun hlt ho=>?_) fun _ e=>aS e
  obtain⟨pl,Pl,e1⟩:=e7 h1 Vl
  obtain⟨pu,Pu,e2⟩:=e7 h2 Vu
  rw[hs.length] at e1 e2
  refine ki ho'.tup.typeIs slot_tuple_getitem.lookup (gi ho'.tup hS Pl Pu e1 e2 (hs.length▸hlt) (hs.length▸hn) ?_) rfl
  exact nF R rfl ((hs.drop a).take (c - a)) (len hn) (qi (p:=fun v G'=>Back C P T s v G' Q) ho b) s.toks
 all_goals exact aS ho
theorem il{n:Nat}(ih:bX C P n){e k}(he:aN P n ρ G e k){po}(hr:xO (fun y=>cE sc e y) (gw e) po=true)(ar:AR 2 A n)(F:bI C sc T env ρ s.heap)
  (R:Rep C P T G s.heap){Q E}(b:jN C P T s k Q):wpAny (model C.prog C.w) A (evalPart po env) Q E s:=by
 rcases po with _|h
 ·rcases n with _|n
  ·exact he.elim
  ·have he:k .none G:=by
    rcases e with _|_|_|_|_|_|_|_|_|_|_|_|_|_|_|_|_|_|_|_|_|_|_|_|_|_|_
    ·exact he
    all_goals exact ft hr
   exact wpAny_pure ((b _ _ he).now R .none)
 ·rw[evalPart_some];exact ih he hr ar F R b
theorem vv{n:Nat}(ih:bX C P n){e lo hi k}(he:aN P (n+1) ρ G (.slice e lo hi) k){pe plo phi ps p}(hr:cE sc e pe=true)(hl:xO (fun y=>cE sc lo y) (gw lo) plo=true)(hh:xO (fun y=>cE sc hi y) (gw hi) phi=true)(ar:AR 2 A (n+1))(F:bI C sc T env ρ s.heap)
  (R:Rep C P T G s.heap){Q E}(b:jN C P T s k Q):wpAny (model C.prog C.w) A (eval (.Subscript pe (.Slice plo phi none ps) p) env) Q E s:=by
 dsimp only[qe] at he
 refine Subscript_ (ih he hr ar.dn F R fun o G1 he1 ro T1 h1' tk1 x1 R1 V1=>wpAny_Slice (il ih he1 hl ar.dn (F.mono x1) R1 fun i G2 he2 ri T2 h2' tk2 x2 R2 V2=>
  il ih he2 hh ar.dn ((F.mono x1).mono x2) R2 fun u G3 he3 ru T3 h3' tk3 x3 R3 V3=>?_))
 obtain⟨v,G4,h4,h5⟩:=gf he3
 rw[evalPart_none]
 have x0:Ext T3 T3 h3' (h3'.push {cls:= .type "slice",data:= .fields #[ri,ru, .none]}):=bp _
 exact wpAny_pure (Bg (R3.push _) (Heap.IsSliceOf.new ..) h4 (V1.mono ((x2.trans x3).trans x0)) (V2.mono (x3.trans x0)) (V3.mono x0) ((b _ _ h5).of (((x1.trans x2).trans x3).trans x0)))
theorem Ei{n:Nat}(ih:bX C P n){e k}(he:aN P (n+1) ρ G (.rev e) k){pe j p1 p2 ps p}(hr:cE sc e pe=true)(ar:AR 2 A (n+1))(F:bI C sc T env ρ s.heap)
  (R:Rep C P T G s.heap){Q E}(b:jN C P T s k Q):wpAny (model C.prog C.w) A (eval (.Subscript pe (.Slice none none (some (.UnaryOp .USub (.Constant (.int 1) j p1) p2)) ps) p) env) Q E s:=by
 dsimp only[w_rev] at he
 refine Subscript_ (ih he hr ar.dn F R fun o G1 he1 rv T1 h1' tk1 x1 R1 V1=>wpAny_Slice ?_)
 obtain⟨v,G4,h4,h5⟩:=gf he1
 simp only[evalPart_none,evalPart_some]
 refine wpAny_pure (wpAny_pure (UnaryOp_ (wpAny_Constant_int (PyProof.Rows.neg_int ?_))))
 rcases o with _|_|_|_|_|_|_|l|_|_
 case list=>
  refine V1.eL (M:=fun rv=>wpAny (model C.prog C.w) A (subscriptTail pe (.Slice none none (some (.UnaryOp .USub (.Constant (.int 1) j p1) p2)) ps) rv (.ref h1'.objs.size)) Q E {s with heap:=h1'.push {cls:= .type "slice",data:= .fields #[.none, .none, .int (-1) (tk1+1)]},toks:=tk1+1+1}) fun ad ha=>?_
  have x0:Ext T1 T1 h1' (h1'.push {cls:= .type "slice",data:= .fields #[.none, .none, .int (-1) (tk1+1)]}):=bp _
  have b':=(b _ _ h5).of (tk:=tk1+1+1) (x1.trans x0)
  have hS:(h1'.push {cls:= .type "slice",data:= .fields #[.none, .none, .int (-1) (tk1+1)]}).IsSliceOf h1'.objs.size .none .none (.int (-1) (tk1+1)):=Heap.IsSliceOf.new ..
  have R0:=R1.push (o:={cls:= .type "slice",data:= .fields #[.none, .none, .int (-1) (tk1+1)]})
  generalize h1'.push {cls:= .type "slice",data:= .fields #[.none, .none, .int (-1) (tk1+1)]}=h2 at*
  obtain⟨vs,n1,g1,g2,_,hL,g3⟩:=listAt R0 ha
  exact ki hL.typeIs slot_list_getitem.lookup
   (wpAny_getItem_list_slice hL hS .none .none (.int (-1) _) (by simp) (fc R0 (krv_pick _) g2.reverse (by rw[List.length_reverse];exact g3) (qi (p:=fun v G'=>Back C P T1 {s with heap:=h2,toks:=tk1+1+1} v G' Q) h4 b') _) (af (g2.length▸g3) (by decide))) rfl
 all_goals exact aS h4
end
set_option tactic.hygienic true
theorem yd:oU.length<=1000:=by decide+kernel
theorem qt{k:Nat}(h:filled (nm k)=true):k<1000:=by
 rcases Nat.lt_or_ge k 1000 with q|q
 ·exact q
 ·exfalso
  have:oU[k]?=none:=List.getElem?_eq_none (af yd q)
  have e:nm k=⟨⟨[]⟩⟩:=by unfold nm;rw[List.getD_eq_getElem?_getD,this];rfl
  rw[e] at h;exact nomatch h
section
variable{C:Cx}{P:Pg}{sc:Scope}{T T':Tm}{G G':Mine.H}{env:Env}{ρ:au}{h h':Heap}{A:Around}{s:Shared}
theorem lr{sc:Scope}(p:Pos)(env:Env):∀{es:List E} {pes:List Expr},hW sc es pes=true->(backTo p (starEach pes env)).any (·.1)=false
 |[],_,hr=>by cases fq hr;rfl
 |e::es,_,hr=>by
  obtain⟨pe,pes,rfl,hr⟩:=bC hr
  obtain⟨h,hs⟩:=aa hr
  rw[dU h]
  show(false||(backTo p (starEach pes env)).any (·.1))=false
  rw[lr p env hs];rfl
theorem ci{n:Nat}(ihs:dF C P n){es k}(he:cp P n ρ G es k){pes}(hr:hW sc es pes=true)(ar:AR 2 A n)(F:bI C sc T env ρ s.heap)(R:Rep C P T G s.heap)
  {f:Value}{first:List Value}{p:Pos}
  (hk:∀h,(∀b o,C.base.get? b=some o->h.get? b=some o)->∃k,(k=Keeper.frame\/k=Keeper.machine\/k=Keeper.boundFrame)/\Looks (model C.prog C.w) h (keeperOf f) k){Q:Value->Shared->Prop}{E}
  (b:∀vs G',k vs G'->∀rvs T' h' tk,Ext T T' s.heap h'->Rep C P T' G' h'->be T' h' vs rvs->wpAny (model C.prog C.w) A (call f (first++rvs)) Q E {s with heap:=h',toks:=tk}):
  wpAny (model C.prog C.w) A (callWith p f first (backTo p (starEach pes env)) []) Q E s:=by
 have hp:=lr p env hr
 refine callWith_of (P:=fun h=>∀b o,C.base.get? b=some o->h.get? b=some o) (by rw[hp];rfl) hk ?_
 have key:wpAny (model C.prog C.w) A (spliced (backTo p (starEach pes env))) (fun rvs s'=>(fun(a:Args) s₁=>(∀b o,C.base.get? b=some o->s₁.heap.get? b=some o)/\wpAny (model C.prog C.w) A (call f (first++a.pos) a.kw) Q E s₁) ⟨rvs,[]⟩ s') E s:=
  ihs he hr ar F R fun vs G' hv rvs T' h' tk x R' Vs _=>⟨R'.keep,b vs G' hv rvs T' h' tk x R' Vs⟩
 rcases es with _|⟨e,es⟩
 ·cases fq hr
  refine evalArgs_nil3 ?_
  rcases n with _|n
  ·exact he.elim
  ·exact⟨R.keep,b [] _ he [] T s.heap s.toks (Ext.refl _ _) R .nil⟩
 ·obtain⟨pe,pes,rfl,hr⟩:=bC hr
  obtain⟨h,hs⟩:=aa hr
  rw[dU h] at key ⊢
  exact evalArgs_plain key
theorem pB{fa:Addr}{o:Obj}{fd:FuncData}(ho:C.base.get? fa=some o)(hd:o.data= .func fd):∀h,(∀b o,C.base.get? b=some o->h.get? b=some o)->
  ∃k,(k=Keeper.frame\/k=Keeper.machine\/k=Keeper.boundFrame)/\Looks (model C.prog C.w) h (keeperOf (.ref fa)) k:=by
 intro h k
 obtain⟨c,d,dt,sl⟩:=o
 have hd:dt= .func fd:=hd
 subst hd
 exact⟨.frame, .inl rfl,(Looks.ld (part:=none) (k _ _ ho)).andThen .now⟩
theorem sW(O:C.Ok P){ca:Addr}(e:makesIn C.K ca=true):∀h,(∀b o,C.base.get? b=some o->h.get? b=some o)->
  ∃k,(k=Keeper.frame\/k=Keeper.machine\/k=Keeper.boundFrame)/\Looks (model C.prog C.w) h (keeperOf (.ref ca)) k:=by
 intro h k
 refine keeps_K ?_ h fun a o e=>k a o (O.xE a o e)
 unfold makesIn at e
 unfold keepIn
 split at e
 ·rename_i oc od cd sl ho
  simp only[Bool.and_eq_true] at e
  dsimp only
  rw[ho]
  exact e.1.2
 ·cases e
theorem gE{id:String}:∀h,(∀b o,C.base.get? b=some o->h.get? b=some o)->
  ∃k,(k=Keeper.frame\/k=Keeper.machine\/k=Keeper.boundFrame)/\Looks (model C.prog C.w) h (keeperOf (.builtin id)) k:=
 fun h _=>⟨.machine, .inr (.inl rfl),Looks.of_pure rfl⟩
theorem vW{x:Nat}(hv:bU sc (nm x)=true):x<1000:=qt (by unfold bU at hv;exact(aa hv).1)
theorem xn(O:C.Ok P){n:Nat}(ihs:dF C P n)(ihc:ib C P n){f args k}(he:aN P (n+1) ρ G (.call f args) k){p1 pes p}(hf:(GY f).isSome=true)(hv:bU sc (nm f)=true)(hr:hW sc args pes=true)(ar:AR 2 A (n+1))(F:bI C sc T env ρ s.heap)
  (R:Rep C P T G s.heap){Q E}(b:jN C P T s k Q):wpAny (model C.prog C.w) A (eval (.Call (.Name (nm f) p1) pes [] p) env) Q E s:=by
 dsimp only[fO] at he
 obtain⟨fa,hfa,hg,o,fd,ho,hd⟩:=O.fnG f hf (vW hv)
 show wpAny _ _ (eval (.Name (nm f) p1) env>>=fun fv=>callWith p fv [] (backTo p (starEach pes env)) (backToKw p (keywordEach [] env))) _ _ _
 refine wpAny_bind (wpAny_Name (gR O F R hv hg ?_) gu)
 refine ci ihs he hr ar.dn F R (pB ho hd) fun vs G1 h2 rvs T' h' tk x R' Vs=>?_
 exact wpAny_call (ihc h2 hfa (ar.lower (Nat.le_add_right _ _)) R' Vs (b.of x))
theorem Cp(O:C.Ok P){n:Nat}(ihs:dF C P n)(ihc:ib C P n){c args k}(he:aN P (n+1) ρ G (.new c args) k){p1 pes p}(hc:(jZ c).isSome=true)(hv:bU sc (nm c)=true)(hr:hW sc args pes=true)(ar:AR 2 A (n+1))(F:bI C sc T env ρ s.heap)
  (R:Rep C P T G s.heap){Q E}(b:jN C P T s k Q):wpAny (model C.prog C.w) A (eval (.Call (.Name (nm c) p1) pes [] p) env) Q E s:=by
 dsimp only[ze] at he
 obtain⟨ca,hca,hg⟩:=O.clsG c hc
 have CO:=O.cls c ca hca
 show wpAny _ _ (eval (.Name (nm c) p1) env>>=fun fv=>callWith p fv [] (backTo p (starEach pes env)) (backToKw p (keywordEach [] env))) _ _ _
 refine wpAny_bind (wpAny_Name (gR O F R hv hg ?_) gu)
 refine ci ihs he hr ar.dn F R (sW O CO.makes) fun vs G1 h1 rvs T' h' tk x R' Vs=>?_
 obtain⟨f,hi,h2⟩:=db h1
 obtain⟨fa,hfa,hfi,hft⟩:=CO.init f hi
 have X:=R'.xE O
 refine wpAny_call (make_core (makes_of X CO.makes) (looks_findIn X hfi) (fun self=>bind_fn X self hft) (.inl rfl) ?_)
 obtain⟨x2,R2⟩:=R'.ya hca
 refine ihc h2 hfa (show AR 1 (A.under (.builtin "type.__call__" ⟨.ref ca::([]++rvs),[]⟩)) n from⟨by have:=ar.1;show 2*(A.depth+1)+n+1<=1900;lia,by have:=ar.2.1;show A.units+1+2*n+2*1<=8900;lia,ar.2.2⟩)
  R2 (.cons (.inst (by simp[dq])) (Vs.mono x2)) ?_
 intro r G2 h3 rv T3 h3' tk3 x3 R3 V3
 obtain⟨v,G3,h4,h5⟩:=gf h3
 obtain⟨rfl,rfl,R4⟩:=R3.whole O h4
 cases V3
 refine⟨rfl,?_⟩
 exact b _ _ h5 _ _ _ _ ((x.trans x2).trans x3) R4 (.inst (x3.sub _ _ (by simp[dq])))
theorem qD{c i:Nat}{es:Array DictEntry}{n:Nat}(hf:∀a,iQ P c a=true->filled (nm a)=true){a:Nat}(ha:filled (nm a)=true)(hno:P.ty c a=none)(d:DR P T h G c i es.toList):
  shadowIn (some ⟨.type "dict",none, .dict es n, #[]⟩) (nm a)=some false:=by
 obtain⟨l,e1,e2,e3,e4⟩:=id d
 have hl:=fP (ok:=iQ P c) hf ha e2
 rw[←e1] at hl
 have:l.lookup a=none:=by
  rw[List.lookup_eq_none_iff]
  intro p hp
  have h1:=(e2 p hp).2
  have:a≠p.1:=fun e=>by rw[←e,hno] at h1;exact nomatch h1
  simpa using this
 rw[this] at hl
 unfold shadowIn lookIn
 dsimp only
 rw[hl,e1,noRef (ok:=iQ P c) e2]
 rfl
theorem qf{pe:Expr}{a:Str}{ap p:Pos}{pes:List Expr}(h:dh pe=true)(hp:(ap.endLine==p.line)=true)(hl:pes.length<=20)(hst:(backTo p (starEach pes env)).any (·.1)=false):
  eval (.Call (.Attribute pe a ap) pes [] p) env=(do
   let ov ←eval pe env
   standAt ap.atName
   let(f,first)←holding [ov] (getMethod ov a (do return(←importBound pe env).getD true))
   callWith p f first (backTo p (starEach pes env)) (backToKw p (keywordEach [] env))):=by
 rw[arm_eval_Call]
 have e1:attributeBase pe a env (eval pe env)=eval pe env:=by
  cases pe<;>first|rfl|cases h
 rw[e1]
 have e2:methodCallForm (pes.length+0) (backTo p (starEach pes env)) (backToKw p (keywordEach [] env))=true:=by
  unfold methodCallForm
  have q1:(backTo p (starEach pes env)).all (fun x=> !x.1)=true:=by
   rw[List.all_eq_true]
   intro x hx
   rw[List.any_eq_false] at hst
   simpa using hst x hx
  rw[q1]
  show(true&&true&&decide (pes.length+0+0<30))=true
  simp;lia
 delta methodCall calleeOf methodCallPos
 simp only[List.length_nil,e2,if_true,Bool.not_true,Bool.false_or,hp,pure_bind]
theorem P9{pe:Expr}{a:Str}{ap p:Pos}{pes:List Expr}(h:dh pe=true)(hp:(ap.endLine==p.line)=true)(hl:pes.length<=20)(hst:(backTo p (starEach pes env)).any (·.1)=false){M:Model}{Q:Value->Shared->Prop}{E}
  (k:wpAny M A (eval pe env) (fun ov s₁=>wpAny M A (getMethod ov a (do return(←importBound pe env).getD true)) (fun fx s₂=>wpAny M A (callWith p fx.1 fx.2 (backTo p (starEach pes env)) []) Q E s₂) E s₁) E s):
  wpAny M A (eval (.Call (.Attribute pe a ap) pes [] p) env) Q E s:=by
 rw[qf h hp hl hst]
 exact wpAny_bind (wpAny_mono k (fun ov s₁ h₁=>wpAny_bind (wpAny_standAt (wpAny_bind (wpAny_holding (wpAny_mono h₁ (fun fx s₂ h₂=>h₂) fun _ _ x=>x))))) fun _ _ x=>x)
theorem qI(O:C.Ok P){n:Nat}(ihs:dF C P n)(ihc:ib C P n){c i f m args k}{ad:Addr}(ha:T ad=some (.inst c i))(hf:P.meth c m=some f)(h1:cp P n ρ G args fun vs h=>aD P n h f (.ref c (some i)::vs) k)
  {pes p}(hr:hW sc args pes=true)(ar:AR 2 A (n+1))(F:bI C sc T env ρ s.heap)(R:Rep C P T G s.heap){pl:Sem Bool}{Q E}(b:jN C P T s k Q):
  wpAny (model C.prog C.w) A (getMethod (.ref ad) (nm m) pl) (fun fx s₂=>wpAny (model C.prog C.w) A (callWith p fx.1 fx.2 (backTo p (starEach pes env)) []) Q E s₂) E s:=by
 obtain⟨d,ca,es,j,hd,hc,ho,hdo,hD,I,hi⟩:=nC O R ha
 have CO:=O.cls _ _ hc
 obtain⟨fa,hfa,hfi,hft,hno,hfl⟩:=CO.meth m f hf
 refine method_fn (R.xE O) I CO.ga CO.gt hfi hft (qD (fun b hb=>(CO.attr b hb).2.1) hfl hno hD) ?_
 obtain⟨o,fd,ho',hd'⟩:=O.IW f fa hfa
 refine ci ihs h1 hr ar.dn F R (pB ho' hd') fun vs G1 h2 rvs T' h' tk x R' Vs=>?_
 exact wpAny_call (ihc h2 hfa (ar.lower (Nat.le_add_right _ _)) R' (.cons (.inst (x.sub _ _ ha)) Vs) (b.of x))
end
set_option tactic.hygienic false
theorem PB:nm 0=("append":Str):=by decide+kernel
theorem Nh:nm 1=("pop":Str):=by decide+kernel
theorem Qz:nm 2=("index":Str):=by decide+kernel
theorem qG:∀k,k<200->filled (nm k)=true:=by decide+kernel
theorem cW{p:Int×Value}{r:List (Int×Value)}{j:Int}:valueAt (p::r) j=if p.1=j then some p.2 else valueAt r j:=by
 show((p::r).find? _).map _=_
 by_cases q:p.1=j
 ·rw[if_pos q,List.find?_cons_of_pos (p:=fun kv:Int×Value=>decide (kv.1=j)) (aK q)];rfl
 ·rw[if_neg q,List.find?_cons_of_neg (p:=fun kv:Int×Value=>decide (kv.1=j)) (fun e=>q (ao e))];rfl
theorem ed(kvs:List (Int×Value))(k j:Int):valueAt (without kvs k) j=if j=k then none else valueAt kvs j:=by
 induction kvs with
 |nil=>exact(ite_self none).symm
 |cons p r ih=>
  by_cases q:p.1=k
  ·rw[show without (p::r) k=without r k from List.filter_cons_of_neg (by rw[q];simp),ih,cW]
   by_cases z:j=k
   ·rw[if_pos z,if_pos z]
   ·rw[if_neg z,if_neg z,if_neg fun e=>z (e.symm.trans q)]
  ·rw[show without (p::r) k=p::without r k from List.filter_cons_of_pos (by simp[q]),cW,cW,ih]
   by_cases z:p.1=j
   ·rw[if_pos z,if_pos z,if_neg fun e=>q (z.trans e)]
   ·rw[if_neg z,if_neg z]
theorem rX(k:Int)(v:Value)(j:Int):∀kvs:List (Int×Value),valueAt (kvs.map (fun kv=>if kv.1=k then(kv.1,v) else kv)) j=if j=k then(valueAt kvs j).map fun _=>v else valueAt kvs j
 |[]=>(ite_self none).symm
 |p::r=>by
  rw[List.map_cons,cW,cW,rX k v j r]
  by_cases q:p.1=k
  ·rw[if_pos q]
   by_cases w:p.1=j
   ·rw[if_pos w,if_pos (w.symm.trans q),if_pos w];rfl
   ·rw[if_neg w,if_neg w]
  ·rw[if_neg q]
   by_cases w:p.1=j
   ·rw[if_pos w,if_neg (fun e=>q (w.trans e)),if_pos w]
   ·rw[if_neg w,if_neg w]
theorem tm(k:Int):∀kvs:List (Int×Value),kvs.any (fun kv=>decide (kv.1=k))=(valueAt kvs k).isSome
 |[]=>rfl
 |p::r=>by
  rw[List.any_cons,cW,tm k r]
  by_cases q:p.1=k
  ·rw[aK q,if_pos q];rfl
  ·rw[bB q,if_neg q];rfl
theorem tI(k:Int)(v:Value)(j:Int):∀kvs:List (Int×Value),valueAt (kvs++[(k,v)]) j=(valueAt kvs j).or (if k=j then some v else none)
 |[]=>cW
 |p::r=>by
  rw[List.cons_append,cW,cW,tI k v j r]
  by_cases q:p.1=j
  ·rw[if_pos q,if_pos q];rfl
  ·rw[if_neg q,if_neg q]
theorem eJ(kvs:List (Int×Value))(k:Int)(v:Value)(j:Int):valueAt (stored kvs k v) j=if j=k then some v else valueAt kvs j:=by
 unfold stored
 rw[tm]
 rcases q:valueAt kvs k with _|w
 ·rw[if_neg (fun e:(none:Option Value).isSome=true=>ft e),tI]
  by_cases z:j=k
  ·rw[if_pos z,z,q,if_pos rfl];rfl
  ·rw[if_neg z,if_neg fun e=>z e.symm,Option.or_none]
 ·rw[if_pos (show(some w).isSome=true from rfl),rX]
  by_cases z:j=k
  ·rw[if_pos z,if_pos z,z,q];rfl
  ·rw[if_neg z,if_neg z]
theorem k7{kvs:List (Int×Value)}{k:Int}{p}(h:p∈without kvs k):p∈kvs:=(List.mem_filter.mp h).1
theorem lO{kvs:List (Int×Value)}{k:Int}{v:Value}{p}(h:p∈stored kvs k v):p.1=k\/∃q∈kvs,q.1=p.1:=by
 unfold stored at h
 split at h
 ·obtain⟨q,hq,e⟩:=List.mem_map.mp h
  right
  refine⟨q,hq,?_⟩
  split at e<;>rw[←e]
 ·rcases List.mem_append.mp h with q|q
  ·exact .inr ⟨p,q,rfl⟩
  ·simp only[List.mem_singleton] at q;exact .inl (by rw[q])
theorem lR{kvs:List (Int×Value)}(hd:(kvs.map (·.1)).Nodup)(h:∀p∈kvs,0<=p.1/\p.1<1000):kvs.length<=1000:=by
 have h1:(kvs.map fun p=>p.1.toNat).Nodup:=List.pairwise_map.mpr ((List.pairwise_map.mp hd).imp_of_mem fun {a b} ha hb hne e=>hne ((Int.toNat_of_nonneg (h _ ha).1).symm.trans ((congrArg (fun n:Nat=>(n:Int)) e).trans (Int.toNat_of_nonneg (h _ hb).1))))
 refine af (Nat.le_of_eq (ai (fun p:Int×Value=>p.1.toNat)).symm) (kE 1000 _ h1 fun x hx=>?_)
 obtain⟨p,hp,e⟩:=List.mem_map.mp hx
 exact e▸(Int.toNat_lt (h p hp).1).mpr (h p hp).2
section
variable{C:Cx}{P:Pg}{T:Tm}{G:Mine.H}{h h':Heap}{A:Around}{s:Shared}
theorem Rep.oM{a:Addr}{d:Nat}{f:Int->Option V}{kvs:List (Int×Value)}(R:Rep C P T G h)(ha:T a=some (.dict d))(hs:Heap.SameBut a h h')(hm:h'.DictOf (intKind C.prog C.w) a kvs)
  (hk:∀p∈kvs,0<=p.1/\p.1<1000)(hf:∀k,DV T h (f k) (valueAt kvs k)):Rep C P T (G.cA d f) h':=by
 have x:=cX ha hs
 refine⟨fun b' o e=>x.keep b' o (R.old e) (R.keep b' o e),R.above,fun b t e=>?_,R.inj⟩
 by_cases q:b=a
 ·subst q
  rw[ha] at e;obtain rfl:=ag e
  obtain⟨_,_,_,_,_,hi⟩:=R.cell b _ ha
  refine⟨kvs,hm,hk,fun k=>?_,fun e=>?_,hi⟩
  ·rw[show(G.cA d f).dct d=(f,false) from if_pos rfl]
   exact(hf k).map (VR.mono x)
  ·exact ft ((congrArg Prod.snd (show(G.cA d f).dct d=(f,false) from if_pos rfl)).symm.trans e)
 ·have c:=(R.cell b t e).ext x (hs.2 b q)
  rcases t with _|_|_|j
  ·exact c
  ·exact c
  ·exact c
  ·have z:j≠d:=fun z=>q (R.inj _ _ _ e (z▸ha))
   have:(G.cA d f).dct j=G.dct j:=if_neg z
   obtain⟨kv,g1,g2,g3,g4,g5⟩:=c
   exact⟨kv,g1,g2,this.symm▸g3,this.symm▸g4,g5⟩
theorem be.one{v:V}{rvs:List Value}(x:be T h [v] rvs):∃rv,rvs=[rv]/\VR T h v rv:=
 x.eC (M:=fun rvs=>∃rv,rvs=[rv]/\VR T h v rv) fun w vs hx hs=>hs.e0 (M:=fun vs=>∃rv,w::vs=[rv]/\VR T h v rv) ⟨w,rfl,hx⟩
theorem be.none{rvs:List Value}(x:be T h [] rvs):rvs=[]:=x.inv
theorem kF(R:Rep C P T G s.heap){a:Addr}{i:Nat}(ha:T a=some (.list i)){name:Str}{id:String}(slot:Slot "list" name id)(hty:typeOf (.builtin id)=pure (.type "method_descriptor")){pl:Sem Bool}{Q:Value×List Value->Shared->Prop}{E}
  (q:Q (.builtin id,[.ref a]) s):wpAny (model C.prog C.w) A (getMethod (.ref a) name pl) Q E s:=by
 obtain⟨vs,n1,g1,g2,_,hL,g3⟩:=listAt R ha
 exact getMethod_builtin hL.typeIs PySem.F.plainAttrs_list slot hty (fun b e=>by cases e;exact⟨_,g1,rfl⟩) q
theorem ij(R:Rep C P T G s.heap){a:Addr}{i:Nat}{v:V}{rv:Value}(ha:T a=some (.list i))(V:VR T s.heap v rv)(hn:(G.lst i).length<100000){Q:Value->Shared->Prop}{E}
  (b:Back C P T s .none (G.ax i (G.lst i++[v])) Q):wpAny (model C.prog C.w) A (call (.builtin "list.append") [.ref a,rv]) Q E s:=by
 obtain⟨vs,n1,g1,g2,_,hL,g3⟩:=listAt R ha
 have hlen:=g2.length
 refine call_meets PySem.F.slot_list_append hL.typeIs PySem.F.entry_list_append (PySem.F.args_list_append_2 _ _) (list_append _ ⟨vs⟩ n1 rv (by show vs.length<=2 ^ 24;lia)) ⟨g1,?_⟩
 have hs:=Heap.SameBut.update s.heap a (Obj.mapSeq fun x_1=>x_1.push rv)
 have hu:=IsL.update g1 (fun x_1=>x_1.push rv)
 exact b _ T _ _ (cX ha hs) (R.iN ha hs (by simpa using hu) (g2.append (.cons V .nil)) (by simp;unfold cap;lia)) .none
theorem ud(R:Rep C P T G s.heap){a:Addr}{i:Nat}{v:V}(ha:T a=some (.list i))(hv:(G.lst i).getLast?=some v){Q:Value->Shared->Prop}{E}
  (b:Back C P T s v (G.ax i (G.lst i).dropLast) Q):wpAny (model C.prog C.w) A (call (.builtin "list.pop") [.ref a]) Q E s:=by
 obtain⟨vs,n1,g1,g2,_,hL,g3⟩:=listAt R ha
 have hlen:=g2.length
 rw[List.getLast?_eq_getElem?] at hv
 obtain⟨rv,hrv,V⟩:=g2.get hv
 have hs:=Heap.SameBut.update s.heap a (Obj.mapSeq fun xs=>xs.eraseIdxIfInBounds (vs.length - 1))
 have hu:=IsL.update g1 (fun xs=>xs.eraseIdxIfInBounds (vs.length - 1))
 have x:=cX ha hs
 rw[hlen] at hrv
 refine call_meets PySem.F.slot_list_pop hL.typeIs PySem.F.entry_list_pop (PySem.F.args_list_pop_1 _) (MeetsSeq.list_pop_last _ ⟨vs⟩ n1 rv (by simpa using hrv) (by show vs.length<=2 ^ 24;unfold cap at g3;lia)) ⟨g1,?_⟩
 have hd:((⟨vs⟩:Array Value).eraseIdxIfInBounds (vs.length - 1)).toList=vs.dropLast:=by
  unfold Array.eraseIdxIfInBounds
  have:0<vs.length:=by
   rcases Nat.eq_zero_or_pos vs.length with z|z
   ·rw[List.length_eq_zero_iff] at z;subst z;exact nomatch hrv
   ·exact z
  rw[dif_pos (by show vs.length - 1<vs.length;lia)]
  simp[List.eraseIdx_length_sub_one]
 have hd':(⟨vs⟩:Array Value).eraseIdxIfInBounds (vs.length - 1)=⟨vs.dropLast⟩:=by rw[←hd]
 rw[hd'] at hu
 have hdl:be T s.heap (G.lst i).dropLast vs.dropLast:=by
  rw[List.dropLast_eq_take,List.dropLast_eq_take,hlen];exact g2.take _
 exact b _ T _ _ x (R.iN ha hs hu hdl (by rw[List.length_dropLast];lia)) (V.mono x)
theorem qn(R:Rep C P T G s.heap){a:Addr}{d:Nat}{k:Int}{t:Tok}{v:V}(ha:T a=some (.dict d))(hv:(G.dct d).1 k=some v){Q:Value->Shared->Prop}{E}
  (b:Back C P T s v (G.cA d fun j=>if j=k then none else(G.dct d).1 j) Q):wpAny (model C.prog C.w) A (call (.builtin "dict.pop") [.ref a, .int k t]) Q E s:=by
 obtain⟨kvs,hm,hk,hf,he,hi⟩:=R.cell _ _ ha
 have h1:=hf k
 rw[hv] at h1
 obtain⟨rv,hrv,V⟩:=h1
 have hlen:kvs.length<=1000:=lR hm.dictAt.choose_spec.nodup hk
 refine call_meetsIn PySem.F.slot_dict_pop hm.typeIs PySem.F.entry_dict_pop (PySem.F.args_dict_pop_2 _ _) (meets_dict_pop_there (intKind C.prog C.w) _ (by simp[intKind,Value.isInt]) [] (.inl rfl) rfl)
  ⟨kvs,rv,hm,(af hlen (by decide)),hrv,fun h' hm' hs'=>?_⟩
 have x:=cX ha hs'
 refine b _ T _ _ x (R.oM ha hs' hm' (fun p hp=>hk p (k7 hp)) fun j=>?_) (V.mono x)
 by_cases z:j=k
 ·rw[if_pos z,ed,if_pos z];rfl
 ·rw[if_neg z,ed,if_neg z];exact hf j
set_option backward.match.sparseCases true in
theorem index_loop{M':Program}{w':World}{vs:List Value}{k:Nat}{t:Tok}(hk:k<200){f:Nat->Option PySem.Fin×Unit->Sem (ForInStep (Option PySem.Fin×Unit))}
  (hf:∀i a,f i a=(match(⟨vs⟩:Array Value)[i]? with
   |some y=>do
    let r ←eqBool y (.str (nm k) t)
    if r=true then do
     let z ←retInt (i:Int)
     pure (ForInStep.done (some z,()))
    else pure (ForInStep.yield (none,()))
   |_=>pure (ForInStep.yield (none,())))){Q:Option PySem.Fin×Unit->Shared->Prop}{E}{xs:List V}{rs:List Value}(s:Shared)(hv:be T h xs rs):
  ∀i n,rs=vs.drop i->strAt xs k i=some n->(∀u tk,Q (some (.done (.ret (.int (n:Nat) u))),()) {s with toks:=tk})->wpAny (model M' w') A (forIn (List.range' i rs.length) (none,()) f) Q E s:=by
 refine hv.ind (M:=fun xs rs=>∀i n,rs=vs.drop i->strAt xs k i=some n->(∀u tk,Q (some (.done (.ret (.int (n:Nat) u))),()) {s with toks:=tk})->wpAny (model M' w') A (forIn (List.range' i rs.length) (none,()) f) Q E s) (fun i n _ hx _=>aS hx) fun {x xs v rs} hh hs ih i n hr hx q=>?_
 have hget:(⟨vs⟩:Array Value)[i]?=some v:=(List.getElem?_toArray (xs:=vs)).trans ((List.getElem?_drop (xs:=vs)).symm.trans (congrArg (·[0]?) hr).symm)
 rw[List.length_cons,List.range'_succ,List.forIn_cons,hf,hget]
 refine FP hx fun j ex hx=>?_
 have hx:(if j=k then some i else strAt xs k (i+1))=some n:=hx
 refine VR.eS (M:=fun v=>wpAny (model M' w') A ((do let r ←eqBool v (.str (nm k) t);if r=true then do let z ←retInt (i:Int);pure (ForInStep.done (some z,())) else pure (ForInStep.yield (none,())))>>=_) Q E s) (ex▸hh) fun u=>wpAny_bind (wpAny_bind (wpAny_eqBool_str ?_))
 refine iD hx (fun e he=>?_) fun e he=>?_
 ·rw[if_pos (aK (congrArg nm e))]
  exact wpAny_bind (wpAny_bind (wpAny_mkInt (wpAny_pure (wpAny_pure (wpAny_pure (ag he▸q _ _))))))
 ·rw[if_neg fun z=>e (fQ (qG k hk) (ao z))]
  exact wpAny_pure (ih (i+1) n ((congrArg List.tail hr).trans List.tail_drop) he q)
theorem oA{M':Program}{w':World}{a:Addr}{xs:List V}{vs:List Value}{k n:Nat}{t:Tok}(ho:IsTup s.heap a ⟨vs⟩)(hs:be T s.heap xs vs)(hk:k<200)(hx:strAt xs k 0=some n){Q:Value->Shared->Prop}{E}
  (b:∀u tk,Q (.int n u) {s with toks:=tk}):wpAny (model M' w') A (call (.builtin "tuple.index") [.ref a, .str (nm k) t]) Q E s:=by
 refine wpAny_call_entry PySem.F.slot_tuple_index ho.typeIs PySem.F.entry_tuple_index ?_ (PySem.F.args_tuple_index_2 _ _)
 show wpAny _ _ (Builtin.Tuple.tupleItemsOf (.ref a)>>=_) _ _ s
 refine wpAny_bind (tupleItemsOf_ ho ?_)
 refine wpAny_bind (wpAny_pure (wpAny_bind (wpAny_pure (wpAny_bind ?_))))
 have hsz:min (⟨vs⟩:Array Value).size (⟨vs⟩:Array Value).size=vs.length:=by simp
 rw[hsz,Std.Legacy.Range.forIn_eq_forIn_range']
 have hr:(Std.Legacy.Range.mk 0 vs.length 1 (by decide)).size=vs.length:=by simp[Std.Legacy.Range.size]
 rw[hr]
 refine index_loop (h:=s.heap) hk (fun i a=>rfl) s hs 0 n rfl hx fun u tk=>?_
 exact wpAny_pure ⟨_,rfl,b u tk⟩
end
noncomputable def vU:Bi->Value
 | .len=> .builtin "len"| .min=> .builtin "min"| .max=> .builtin "max"| .abs=> .builtin "abs"| .range=> .type "range"| .list=> .type "list"| .sorted=> .builtin "sorted"
theorem wb:∀b:Bi,bootBuiltins (kI b)=some (vU b):=by
 intro b;cases b<;>decide+kernel
theorem v8:∀b:Bi,kI b≠("__name__":Str):=by intro b;cases b<;>decide+kernel
theorem u9:∀b:Bi,(kI b==("__debug__":Str))=false:=by intro b;cases b<;>decide+kernel
theorem m6:bootBuiltins k6=some (.builtin "isinstance")/\bootBuiltins gr=some (.type "bool"):=by constructor<;>decide+kernel
theorem mf:k6≠("__name__":Str)/\gr≠("__name__":Str):=by constructor<;>decide+kernel
theorem kt:(k6==("__debug__":Str))=false/\(gr==("__debug__":Str))=false:=by constructor<;>decide+kernel
theorem kR{xs ys:List Int}(hp:ys.Perm xs)(hs:ys.Pairwise (· <= ·)):ys=xs.mergeSort fun a b=>decide (a<=b):=
 List.Perm.eq_of_pairwise (le:=(· <= ·)) (fun _ _ _ _ h1 h2=>Int.le_antisymm h1 h2) hs ((List.pairwise_mergeSort (le:=fun a b:Int=>decide (a<=b)) (fun _ _ _ h1 h2=>aK (ak (ao h1) (ao h2))) (fun a b=>(Int.le_total a b).elim (fun h=>(aK h).symm▸rfl) fun h=>(aK h).symm▸Bool.or_true _) xs).imp fun h=>ao h) (hp.trans (List.mergeSort_perm _ _).symm)
section
variable{C:Cx}{P:Pg}{T:Tm}{G G':Mine.H}{h h':Heap}{A:Around}{s:Shared}
theorem vC{xs:List V}{is:List Int}{vs:List Value}(hi:nS xs=some is)(x:be T h xs vs):IntsAre vs is:=
 x.ind (M:=fun xs vs=>∀is,nS xs=some is->IntsAre vs is) (fun _ hi=>ag hi▸ .nil) (fun {_ _ v vs} hx _ ih is hi=>dT hi fun i e hi=>(Option.map_eq_some_iff.mp hi).elim fun js hj=>hj.2▸VR.eI (M:=fun v=>IntsAre (v::vs) (i::js)) (e▸hx) fun _=> .cons _ _ (ih js hj.1)) is hi
theorem s7{vs:List Value}{is:List Int}(x:IntsAre vs is):be T h (is.map .int) vs:=by
 induction x with
 |nil=>exact .nil
 |cons n t r ih=>exact .cons .int ih
theorem cf(R:Rep C P T G s.heap)(k:∀b o,s.heap.get? b=some o->h'.get? b=some o):Ext T T s.heap h':=⟨fun _ _ e=>e,fun _ _ e=> .inl e,fun b o _ e=>k b o e⟩
theorem de(R:Rep C P T G s.heap)(k:∀b o,s.heap.get? b=some o->h'.get? b=some o):Rep C P T G h':=
 R.xC (cf R k) fun a t e=>by
  obtain⟨o,ho⟩:=R.there e
  rw[k _ _ ho,ho]
theorem fV(R:Rep C P T G s.heap){a:Addr}(ha:s.heap.objs.size<=a)(k:∀b o,s.heap.get? b=some o->h'.get? b=some o){xs:List V}{vs:List Value}{n:Nat}(ho:h'.get? a=some ⟨.type "list",none, .seq ⟨vs⟩ n, #[]⟩)
  (hv:be T s.heap xs vs)(hn:xs.length<=cap){Q:Value->Shared->Prop}(b:Back C P T s (.list G.nl) (G.newL xs) Q)(tk:Nat):Q (.ref a) {s with heap:=h',toks:=tk}:=by
 have x0:=cf R k
 refine b _ _ _ tk (cr R ha x0) (R.iM ha x0 (fun b u e=>?_) (R.dj ha) ho hv hn) (.list (by simp[dq]))
 obtain⟨o',ho'⟩:=R.there e
 rw[k _ _ ho',ho']
theorem kK(R:Rep C P T G s.heap){a:Addr}{n:Nat}(hh:A.handled=none)(lo:(a==sysModules)=false)(ho:s.heap.get? a=some ⟨.type "dict",none, .dict #[] n, #[]⟩)(hm:s.heap.DictOf (intKind C.prog C.w) a []){Q:Value->Shared->Prop}{E}
  (b:Back C P T s (.list G.nl) (G.newL []) Q):wpAny (model C.prog C.w) A (call (.builtin "sorted") [.ref a]) Q E s:=by
 obtain⟨ep,hat⟩:=hm.dictAt
 refine Calls.call_function_entry kind_sorted plain_sorted entry_sorted (args_sorted1 _) ?_
 unfold Builtin.«sorted»
 refine wpAny_bind (wpAny_pure ?_)
 refine wpAny_bind (kdu_collect (A:=A.in1) (kdl_dict (knd:=intKind C.prog C.w) (kvs:=[]) (ep:=ep) lo) hh hat (Nat.zero_le _) fun h' tk acc hk hacc=>?_)
 have hl:acc.toList=[]:=by
  have:acc.size=0:=hacc.1
  have:acc.toList.length=0:=by rw[Array.length_toList];exact this
  exact List.length_eq_zero_iff.mp this
 rw[hl]
 refine wpAny_bind (wpAny_newList ?_)
 have hoL:(h'.push (seqObj "list" ([]:List Value).toArray 0)).get? h'.objs.size=some (seqObj "list" ([]:List Value).toArray 0):=Heap.get?_push_size _ rfl
 refine wpAny_bind (wpAny_holding (wpAny_call_entry slot_list_sort ⟨_,hoL,rfl⟩ entry_list_sort (list_sort_tree hoL (.nil) (by decide) fun out ns' a1 a2 a3=>⟨_,rfl,?_⟩) (args_list_sort _)))
 have hns:ns'=[]:=by simpa using a2
 subst hns
 have hout:out=⟨[]⟩:=by
  obtain⟨out⟩:=out
  have a1:IntsAre out []:=a1
  cases a1;rfl
 subst hout
 have k1:∀b o,s.heap.get? b=some o->(h'.push (seqObj "list" ([]:List Value).toArray 0)).get? b=some o:=fun b o e=>Heap.get?_push_of_some _ (hk b o e)
 have hsz:∀b o,s.heap.get? b=some o->b<h'.objs.size:=fun b o e=>Heap.lt_size (hk b o e)
 obtain⟨e,he⟩:=sortedHeap_at (n:=0) (out:=⟨[]⟩) hoL
 have kk:∀b o,s.heap.get? b=some o->(sortedHeap (h'.push (seqObj "list" ([]:List Value).toArray 0)) h'.objs.size [] ⟨[]⟩).get? b=some o:=fun b o e=>by
  rw[sortedHeap_old (aj (hsz b o e)) (by rw[Heap.size_push];exact aY (hsz b o e))]
  exact k1 b o e
 refine wpAny_pure ⟨_,rfl,?_⟩
 have x0:=cf R hk
 have R0:=de R hk
 refine fV R0 (ab _) (fun b o e=>?_) he .nil (Nat.zero_le _) (b.of x0) tk
 rw[sortedHeap_old (aj (Heap.lt_size e)) (by rw[Heap.size_push];exact aY (Heap.lt_size e))]
 exact Heap.get?_push_of_some _ e
theorem be.two{v w:V}{rvs:List Value}(x:be T h [v,w] rvs):∃a b,rvs=[a,b]/\VR T h v a/\VR T h w b:=
 x.eC (M:=fun rvs=>∃a b,rvs=[a,b]/\VR T h v a/\VR T h w b) fun a vs hx hs=>hs.one.elim fun b q=>⟨a,b,q.1▸rfl,hx,q.2⟩
theorem sO{n:Nat}(h:n<=cap):(n:Int)<2 ^ 63:=by unfold cap at h;lia
theorem Ck(R:Rep C P T G s.heap){x:V}{rx:Value}{v:V}(he:H8 G x=some (v,G'))(V:VR T s.heap x rx){Q:Value->Shared->Prop}{E}(b:Back C P T s v G' Q):wpAny (model C.prog C.w) A (call (.builtin "len") [rx]) Q E s:=by
 have fin:∀{xs:List Mine.V} {ws:List Value},be T s.heap xs ws->some (Mine.V.int xs.length,G)=some (v,G')->Q (.int ws.length (s.toks+1)) {s with toks:=s.toks+1+1}:=fun {xs ws} h e=>
  h.length▸(qi (p:=fun v G=>Back C P T s v G Q) e b).now R .int
 rcases x with _|_|_|_|xs|_|_|i|_|_
 case list=>
  refine V.eL (M:=fun rx=>wpAny _ A (call (.builtin "len") [rx]) Q E s) fun a ha=>?_
  obtain⟨ws,n1,g1,g2,_,hL,g3⟩:=listAt R ha
  exact call_len_list hL (sO (n:=ws.length) (g2.length▸g3)) (fin g2 he)
 case tup=>
  exact V.eT (M:=fun rx=>wpAny _ A (call (.builtin "len") [rx]) Q E s) fun a ws ha ho hs hn=>call_function_entry kind_len plain_len entry_len (args_len1 _) (wpAny_mono (len_body_tuple ho.tup (sO (n:=ws.length) (hs.length▸hn)) (fin hs he)) (fun fin s' q=>q) fun _ _ q=>q)
 all_goals exact aS he
theorem xv(O:C.Ok P)(R:Rep C P T G s.heap)(hu:A.handled=none){x:V}{rx:Value}{v:V}(he:zh G x=some (v,G'))(V:VR T s.heap x rx){Q:Value->Shared->Prop}{E}(b:Back C P T s v G' Q):wpAny (model C.prog C.w) A (call (.builtin "sorted") [rx]) Q E s:=by
 rcases x with _|_|_|_|_|_|_|i|d|_
 case list=>
  refine V.eL (M:=fun rx=>wpAny _ A (call (.builtin "sorted") [rx]) Q E s) fun a ha=>?_
  obtain⟨is,h1,h2⟩:=Option.bind_eq_some_iff.mp he
  refine iD h2 (fun hl e=>?_) fun _ e=>aS e
  obtain⟨ws,n1,g1,g2,_,hL,g3⟩:=listAt R ha
  have hI:=vC h1 g2
  refine sorted_ints hL hI (hI.length▸hl) fun out ns' a1 a2 a3=>?_
  obtain⟨e',he⟩:=sortedAll_at s.heap ws out
  rw[kR a2 a3] at a1
  exact fV R (Nat.le_succ _) (fun _ _=>sortedAll_old) he (s7 a1) (by rw[ai,List.length_mergeSort];exact af (Nat.le_of_lt hl) (by decide)) (qi (p:=fun v G=>Back C P T s v G Q) e b) s.toks
 case dict=>
  refine V.eD (M:=fun rx=>wpAny _ A (call (.builtin "sorted") [rx]) Q E s) fun a ha=>?_
  refine iD (show(if(G.dct d).2=true then some (Mine.V.list G.nl,G.newL []) else none)=some (v,G') from he) (fun hc e=>?_) fun _ e=>aS e
  obtain⟨kvs,hm,hk,hf,hemp,hi⟩:=R.cell _ _ ha
  obtain⟨n,hn⟩:=hemp hc
  have hkv:kvs=[]:=by
   obtain⟨o,es,ep,ho,r1,r2,r3,r4,r5⟩:=hm
   obtain rfl:=ag (hn.symm.trans ho)
   cases r2
   cases r4
   rfl
  subst hkv
  exact kK R hu (O.tY R ha) hn hm (qi (p:=fun v G=>Back C P T s v G Q) e b)
 all_goals exact aS he
theorem DZ(O:C.Ok P)(R:Rep C P T G s.heap)(hu:A.handled=none){bi:Bi}{vs:List V}{rvs:List Value}{v:V}(he:i9 G bi vs=some (v,G'))(Vs:be T s.heap vs rvs){Q:Value->Shared->Prop}{E}(b:Back C P T s v G' Q):
  wpAny (model C.prog C.w) A (call (vU bi) rvs) Q E s:=by
 have prB:∀{v1 G1},some (v1,G1)=some (v,G')->Back C P T s v1 G1 Q:=fun e=>qi (p:=fun v G=>Back C P T s v G Q) e b
 have one:∀{f:V->Option (V×Mine.H)} {M:List Value->Prop},Mine.one vs f=some (v,G')->(∀x rx,f x=some (v,G')->VR T s.heap x rx->M [rx])->M rvs:=fun {f M} he g=>
  (kC he).elim fun x q=>(be.one (rvs:=rvs) (q.1▸Vs)).elim fun rx w=>w.1▸g x rx q.2 w.2
 have two:∀{f:Int->Int->Option (V×Mine.H)} {M:List Value->Prop},Mine.two vs (fun v w=>fs v fun x=>fs w fun y=>f x y)=some (v,G')->(∀x y t u,f x y=some (v,G')->M [.int x t, .int y u])->M rvs:=fun {f M} he g=>
  (sE he).elim fun a q=>q.elim fun c q=>dT q.2 fun x ex h=>dT h fun y ey h=>(be.two (rvs:=rvs) (q.1▸Vs)).elim fun ra w=>w.elim fun rc w=>w.1▸VR.eI (M:=fun ra=>M [ra,rc]) (ex▸w.2.1) fun t=>VR.eI (M:=fun rc=>M [.int x t,rc]) (ey▸w.2.2) fun u=>g x y t u h
 have oneI:∀{f:Int->Option (V×Mine.H)} {M:List Value->Prop},Mine.one vs (fun v=>fs v f)=some (v,G')->(∀x t,f x=some (v,G')->M [.int x t])->M rvs:=fun {f M} he g=>
  one he fun a ra h w=>dT h fun x ex h=>VR.eI (M:=fun ra=>M [ra]) (ex▸w) fun t=>g x t h
 induction bi with
 |len=>exact one (M:=fun rvs=>wpAny _ A (call (vU .len) rvs) Q E s) he fun x rx he V=>Ck R he V b
 |min=>exact two (M:=fun rvs=>wpAny _ A (call (vU .min) rvs) Q E s) he fun x y t u e=>min_two_ints hu fun h' tk k=>prB e (if y<x then .int y u else .int x t) T h' tk (cf R k) (de R k) (by
   by_cases q:y<x
   ·rw[if_pos q,if_pos q];exact .int
   ·rw[if_neg q,if_neg q];exact .int)
 |max=>exact two (M:=fun rvs=>wpAny _ A (call (vU .max) rvs) Q E s) he fun x y t u e=>max_two_ints hu fun h' tk k=>prB e (if y>x then .int y u else .int x t) T h' tk (cf R k) (de R k) (by
   by_cases q:x<y
   ·rw[if_pos q,if_pos q];exact .int
   ·rw[if_neg q,if_neg q];exact .int)
 |abs=>
  refine oneI (M:=fun rvs=>wpAny _ A (call (vU .abs) rvs) Q E s) he fun x t e=>call_abs_int fun u tk=>?_
  rw[show(if x<0 then -x else x)=(x.natAbs:Int) by lia]
  exact(prB e).now R .int
 |range=>
  refine oneI (M:=fun rvs=>wpAny _ A (call (vU .range) rvs) Q E s) he fun x t e=>iD e (fun hs e=>?_) fun _ e=>aS e
  have hs:=jg hs
  have x0:Ext T T s.heap (s.heap.push {cls:= .type "range",data:= .fields #[.int 0 s.toks, .int x t, .int 1 (s.toks+1)]}):=bp _
  exact call_range_1 (prB e _ T _ _ x0 (R.push _) (.range (R.free (ab _)) ⟨_,_,_,IsRange.new ..,hs.1,hs.2⟩))
 |list=>
  refine one (M:=fun rvs=>wpAny _ A (call (vU .list) rvs) Q E s) he fun x rx e V=>wy e fun i ei e=>VR.eL (M:=fun rx=>wpAny _ A (call (vU .list) [rx]) Q E s) (ei▸V) fun a ha=>?_
  obtain⟨ws,n1,g1,g2,_,hL,g3⟩:=listAt R ha
  exact call_list_seq a (.inl rfl) g1 rfl rfl (fun h' c' k hn=>fV R (ab _) k hn g2 g3 (prB e) s.toks) (af (g2.length▸g3) (by decide))
 |sorted=>exact one (M:=fun rvs=>wpAny _ A (call (vU .sorted) rvs) Q E s) he fun x rx he V=>xv O R hu he V b
end
section
variable{C:Cx}{P:Pg}{sc:Scope}{T T':Tm}{G G':Mine.H}{env:Env}{ρ:au}{h h':Heap}{A:Around}{s:Shared}
theorem BM(O:C.Ok P){n:Nat}(ihs:dF C P n){bi args k}(he:aN P (n+1) ρ G (.blt bi args) k){p1 pes p}(hv:bU sc (kI bi)=true)(hr:hW sc args pes=true)(ar:AR 2 A (n+1))(F:bI C sc T env ρ s.heap)
  (R:Rep C P T G s.heap){Q E}(b:jN C P T s k Q):wpAny (model C.prog C.w) A (eval (.Call (.Name (kI bi) p1) pes [] p) env) Q E s:=by
 dsimp only[oW] at he
 show wpAny _ _ (eval (.Name (kI bi) p1) env>>=fun fv=>callWith p fv [] (backTo p (starEach pes env)) (backToKw p (keywordEach [] env))) _ _ _
 refine wpAny_bind (wpAny_Name (iV O F R hv (O.bltG bi) (by rw[O.mb _ (v8 bi)];exact wb bi) ?_) (u9 bi))
 refine ci ihs he hr ar.dn F R (fun h _=>⟨.machine, .inr (.inl rfl),by cases bi<;>exact Looks.of_pure rfl⟩) fun vs G1 h1 rvs T' h' tk x R' Vs=>?_
 obtain⟨v,G2,h2,h3⟩:=gf h1
 exact DZ O R' ar.h h2 Vs ((b _ _ h3).of x)
theorem Ee(O:C.Ok P){n:Nat}(ih:bX C P n){e k}(he:aN P (n+1) ρ G (.isB e) k){p1 pe p2 p}(hv:bU sc k6=true)(hv2:bU sc gr=true)(hr:cE sc e pe=true)(ar:AR 2 A (n+1))(F:bI C sc T env ρ s.heap)
  (R:Rep C P T G s.heap){Q E}(b:jN C P T s k Q):wpAny (model C.prog C.w) A (eval (.Call (.Name k6 p1) [pe, .Name gr p2] [] p) env) Q E s:=by
 dsimp only[GO] at he
 show wpAny _ _ (eval (.Name k6 p1) env>>=fun fv=>callWith p fv [] (backTo p (starEach [pe, .Name gr p2] env)) (backToKw p (keywordEach [] env))) _ _ _
 refine wpAny_bind (wpAny_Name (iV O F R hv O.isi.1 (by rw[O.mb _ mf.1];exact m6.1) ?_) kt.1)
 rw[dU hr]
 refine callWith_of (P:=fun h=>True) rfl (fun h _=>⟨.machine, .inr (.inl rfl),Looks.of_pure rfl⟩) (evalArgs_plain ?_)
 refine spliced_cons (ih he hr ar.dn F R fun v G1 h1 rx T1 h1' tk1 x1 R1 V1=>?_)
 obtain⟨r,h2,h3⟩:=db h1
 refine spliced_cons (wpAny_Name (iV O (F.mono x1) R1 hv2 O.isi.2 (by rw[O.mb _ mf.2];exact m6.2) ?_) kt.2)
 refine spliced_nil ⟨trivial,?_⟩
 have b1:=(b _ _ h3).of (tk:=tk1) x1
 have q:∀{c:Bool} {tk:Nat},some c=some r->Q (.bool c) {s with heap:=h1',toks:=tk}:=fun e=>ag e▸b1.now R1 .bool
 rcases v with _|_|_|_|_|_|_|_|_|_
 ·obtain rfl:rx= .none:=V1.inv;exact IsiPair.NoneType_bool (q h2)
 ·obtain rfl:rx= .bool _:=V1.inv;exact IsiPair.bool_bool (q h2)
 ·obtain⟨t,rfl⟩:=V1.inv;exact IsiPair.int_bool (q h2)
 all_goals exact aS h2
theorem Rep.xG{a:Addr}(R:Rep C P T G h)(ha:h.objs.size<=a)(x:Ext T T h h')(hg:∀b u,T b=some u->h'.get? b=h.get? b)(hb:C.base.get? a=none)
  (ho:h'.get? a=some ⟨.type "dict",none, .dict #[] 0, #[]⟩)(hm:h'.DictOf (intKind C.prog C.w) a []):Rep C P (dq T a (.dict G.nd)) G.newD h':=by
 have e:G.newD.dct G.nd=(fun _=>none,true):=if_pos rfl
 refine R.lD ha x hg ⟨[],hm,(by intro p hp;cases hp),fun k=>by rw[e];rfl,fun _=>⟨0,ho⟩,aE _⟩ (fun b u _ c=>?_) fun b e=>?_
 ·rcases u with _|_|_|j
  ·exact c
  ·exact c
  ·exact c
  ·obtain⟨kvs,g1,g2,g3,g4,g5⟩:=c
   have:G.newD.dct j=G.dct j:=if_neg (aj g5)
   exact⟨kvs,g1,g2,this.symm▸g3,this.symm▸g4,aY g5⟩
 ·obtain⟨_,_,_,_,_,z⟩:=R.cell b _ e
  exact Nat.lt_irrefl _ z
theorem uc(R:Rep C P T G s.heap){Q:Value->Shared->Prop}{E}(b:Back C P T s (.dict G.nd) G.newD Q):wpAny (model C.prog C.w) A newDict Q E s:=by
 refine wpAny_newObj_type (show Q (.ref s.heap.objs.size) {s with heap:=s.heap.push {cls:= .type "dict",data:= .dict #[]}} from ?_)
 have x0:Ext T T s.heap (s.heap.push {cls:= .type "dict",data:= .dict #[]}):=bp _
 refine b _ _ _ s.toks (cr R (ab _) x0) (R.xG (ab _) x0 (fun b u e=>?_) (R.dj (ab _)) (Heap.get?_push_size _ rfl) (Heap.DictOf.new _)) (.dict jF)
 obtain⟨o',ho⟩:=R.there e
 exact(Heap.get?_push_of_some _ ho).trans ho.symm
section
variable{M:List V->Prop}{p:V->Mine.H->Prop}{i:Nat}{vs xs:List V}{v:V}
theorem yi(h:vg G (.list i) bR vs=some (v,G'))(g:p v G')(k:∀w,(G.lst i).length<eg->p .none (G.ax i (G.lst i++[w]))->M [w]):M vs:=by
 rcases vs with _|⟨w,_|⟨_,_⟩⟩
 ·exact aS ((if_neg (show ¬(bR=cY) by decide)).symm.trans (show(if bR=cY then(G.lst i).getLast?.map fun v=>(v,G.ax i (G.lst i).dropLast) else none)=some (v,G') from h))
 ·exact iD (show(if bR=bR/\(G.lst i).length<eg then some (V.none,G.ax i (G.lst i++[w])) else none)=some (v,G') from h) (fun hc e=>k w hc.2 (qi e g)) fun _ e=>aS e
 ·exact aS h
theorem xM(h:vg G (.list i) cY vs=some (v,G'))(g:p v G')(k:∀w,(G.lst i).getLast?=some w->p w (G.ax i (G.lst i).dropLast)->M []):M vs:=by
 rcases vs with _|⟨w,_|⟨_,_⟩⟩
 ·exact iD (show(if cY=cY then(G.lst i).getLast?.map fun v=>(v,G.ax i (G.lst i).dropLast) else none)=some (v,G') from h) (fun _ e=>(Option.map_eq_some_iff.mp e).elim fun w q=>k w q.1 (qi (congrArg some q.2) g)) fun _ e=>aS e
 ·exact aS ((if_neg fun z=>absurd z.1 (show ¬(cY=bR) by decide)).symm.trans (show(if cY=bR/\(G.lst i).length<eg then some (V.none,G.ax i (G.lst i++[w])) else none)=some (v,G') from h))
 ·exact aS h
theorem vw(h:vg G (.dict i) cY vs=some (v,G'))(g:p v G')(k:∀j w,(G.dct i).1 j=some w->p w (G.cA i fun l=>if l=j then none else(G.dct i).1 l)->M [.int j]):M vs:=
 (kC h).elim fun w q=>dT q.2 fun j ej e=>iD (show(if cY=cY then((G.dct i).1 j).map fun v=>(v,G.cA i fun l=>if l=j then none else(G.dct i).1 l) else none)=some (v,G') from e) (fun _ e=>(Option.map_eq_some_iff.mp e).elim fun u z=>by rw[q.1,ej];exact k j u z.1 (qi (congrArg some z.2) g)) fun _ e=>aS e
theorem yB(h:vg G (.tup xs) et vs=some (v,G'))(g:p v G')(k:∀j n,j<200->strAt xs j 0=some n->p (.int (n:Nat)) G->M [.str j]):M vs:=
 (kC h).elim fun w q=>FP q.2 fun j ej e=>iD (show(if et=et/\j<200 then(strAt xs j 0).map fun(n:Nat)=>(V.int n,G) else none)=some (v,G') from e) (fun hc e=>(Option.map_eq_some_iff.mp e).elim fun u z=>by rw[q.1,ej];exact k j u hc.2 z.1 (qi (congrArg some z.2) g)) fun _ e=>aS e
end
theorem wk(O:C.Ok P){n:Nat}(ih:bX C P n)(hevs:∀m,m<=n->dF C P m)(hcal:∀m,m<=n->ib C P m){e m args k}(he:aN P (n+1) ρ G (.meth e m args) k){pe ap pes p}(hs:dh pe=true)(hp:(ap.endLine==p.line)=true)(hl:pes.length<=20)
  (hre:cE sc e pe=true)(hr:hW sc args pes=true)(ar:AR 2 A (n+1))(F:bI C sc T env ρ s.heap)
  (R:Rep C P T G s.heap){Q E}(b:jN C P T s k Q):wpAny (model C.prog C.w) A (eval (.Call (.Attribute pe (nm m) ap) pes [] p) env) Q E s:=by
 refine P9 hs hp hl (lr p env hr) (ih (show aN P n ρ G e fun o h=>iS P n ρ h m args k o from he) hre ar.dn F R fun o G1 h1 ro T1 h1' tk1 x1 R1 V1=>?_)
 rcases n with _|n
 ·exact h1.elim
 have ihs:dF C P n:=hevs n (Nat.le_succ _)
 have ar':AR 2 A n:=ar.dn.dn
 have F1:=F.mono x1
 rcases o with _|_|_|_|xs|_|⟨c,q⟩|i|d|_
 case ref=>
  rcases q with _|i
  ·exact h1.elim
  ·obtain⟨h0,_⟩|⟨j,a,ej,e,ha⟩:=V1.inv
   ·exact Hy h0
   ·obtain⟨f,hf,h3⟩:=db h1
    rw[e]
    exact qI O ihs (hcal n (Nat.le_succ _)) (ag ej▸ha) hf h3 hr ar.dn F1 R1 (b.of x1)
 case tup=>
  rcases q:Nat.beq m et with _|_
  ·rw[show iS P (n+1) ρ G1 m args k (.tup xs)=fork (Nat.beq m et) _ False from rfl,q] at h1;exact h1.elim
  ·have em:=bA q
   rw[show iS P (n+1) ρ G1 m args k (.tup xs)=fork (Nat.beq m et) _ False from rfl,q] at h1
   obtain⟨a,ws,e,hT,ho,hV,hn⟩:=V1.inv
   obtain⟨n',ho'⟩:=id ho
   rw[e,(congrArg nm em).trans Qz]
   refine getMethod_builtin ho.tup.typeIs PySem.F.plainAttrs_tuple PySem.F.slot_tuple_index PySem.F.type_tuple_index (fun b e=>⟨_,by cases e;exact ho',rfl⟩) ?_
   refine ci ihs h1 hr ar' F1 R1 gE fun vs G2 h2 rvs T' h' tk x R' Vs=>?_
   obtain⟨v,G3,h3,h4⟩:=gf h2
   refine yB (M:=fun vs=>be T' h' vs rvs->_) (p:=fun v G=>Back C P T' {s with heap:=h',toks:=tk} v G Q) (em▸h3) ((b _ _ h4).of (x1.trans x)) (fun j n2 hj hn2 b' Vs=>?_) Vs
   obtain⟨rv,e,V⟩:=Vs.one
   obtain⟨t,e2⟩:=V.inv
   rw[e,e2]
   exact oA (jT.tup ⟨n',x.keep _ _ hT ho'⟩) (hV.mono x) hj hn2 fun u tk'=>b'.now R' .int
 case list=>
  obtain⟨a,e,hT⟩:=V1.inv
  rcases q:Nat.beq m bR with _|_
  ·rw[show iS P (n+1) ρ G1 m args k (.list i)=fork (Nat.beq m bR||Nat.beq m cY) _ False from rfl,q] at h1
   rcases q2:Nat.beq m cY with _|_
   ·rw[q2] at h1;exact h1.elim
   ·rw[q2] at h1
    have em:=bA q2
    rw[e,(congrArg nm em).trans Nh]
    refine kF R1 hT PySem.F.slot_list_pop PySem.F.type_list_pop (ci ihs h1 hr ar' F1 R1 gE fun vs G2 h2 rvs T' h' tk x R' Vs=>?_)
    obtain⟨v,G3,h3,h4⟩:=gf h2
    exact xM (M:=fun vs=>be T' h' vs rvs->_) (p:=fun v G=>Back C P T' {s with heap:=h',toks:=tk} v G Q) (em▸h3) ((b _ _ h4).of (x1.trans x)) (fun w hw b' Vs=>Vs.none.symm▸ud R' (x.sub _ _ hT) hw b') Vs
  ·rw[show iS P (n+1) ρ G1 m args k (.list i)=fork (Nat.beq m bR||Nat.beq m cY) _ False from rfl,q] at h1
   have em:=bA q
   rw[e,(congrArg nm em).trans PB]
   refine kF R1 hT PySem.F.slot_list_append PySem.F.type_list_append (ci ihs h1 hr ar' F1 R1 gE fun vs G2 h2 rvs T' h' tk x R' Vs=>?_)
   obtain⟨v,G3,h3,h4⟩:=gf h2
   refine yi (M:=fun vs=>be T' h' vs rvs->_) (p:=fun v G=>Back C P T' {s with heap:=h',toks:=tk} v G Q) (em▸h3) ((b _ _ h4).of (x1.trans x)) (fun w hw b' Vs=>?_) Vs
   obtain⟨rv,e,V⟩:=Vs.one
   exact e.symm▸ij R' (x.sub _ _ hT) V hw b'
 case dict=>
  rcases q:Nat.beq m cY with _|_
  ·rw[show iS P (n+1) ρ G1 m args k (.dict d)=fork (Nat.beq m cY) _ False from rfl,q] at h1;exact h1.elim
  ·rw[show iS P (n+1) ρ G1 m args k (.dict d)=fork (Nat.beq m cY) _ False from rfl,q] at h1
   have em:=bA q
   obtain⟨a,e,hT⟩:=V1.inv
   rw[e,(congrArg nm em).trans Nh]
   obtain⟨kvs,hm,_⟩:=R1.cell _ _ hT
   refine getMethod_builtin hm.typeIs PySem.F.plainAttrs_dict PySem.F.slot_dict_pop PySem.F.type_dict_pop hm.mapOf.noDict ?_
   refine ci ihs h1 hr ar' F1 R1 gE fun vs G2 h2 rvs T' h' tk x R' Vs=>?_
   obtain⟨v,G3,h3,h4⟩:=gf h2
   refine vw (M:=fun vs=>be T' h' vs rvs->_) (p:=fun v G=>Back C P T' {s with heap:=h',toks:=tk} v G Q) (em▸h3) ((b _ _ h4).of (x1.trans x)) (fun j u hu b' Vs=>?_) Vs
   obtain⟨rv,e,V⟩:=Vs.one
   obtain⟨t,e2⟩:=V.inv
   rw[e,e2]
   exact qn R' (x.sub _ _ hT) hu b'
 all_goals exact h1.elim
end
mutual
noncomputable def dt:V->PyData
 | .bool b=> .bool b
 | .int i=> .int i
 | .tup xs=> .tuple (m7 xs)
 |_=> .none
noncomputable def m7:List V->List PyData
 |[]=>[]
 |x::xs=>dt x::m7 xs
end
theorem qZ{M:Nat->V->Prop}{n:Nat}{v:V}(h:pd v n=true)(h1:∀{n},M n .none)(h2:∀{n b},M n (.bool b))(h3:∀{n i},M n (.int i))(h4:∀{m xs},iB xs m=true->M (m+1) (.tup xs)):M n v:=by
 rcases v with _|b|i|k|xs|xs|⟨c,q⟩|i|i|k
 ·exact h1
 ·exact h2
 ·exact h3
 ·exact ft h
 ·rcases n with _|m
  ·exact ft h
  ·exact h4 h
 all_goals exact ft h
theorem nh{M:Nat->V->Prop}(h1:∀{n},M n .none)(h2:∀{n b},M n (.bool b))(h3:∀{n i},M n (.int i))(h4:∀{m xs},(∀v,pd v m=true->M m v)->iB xs m=true->M (m+1) (.tup xs))(n:Nat):∀v,pd v n=true->M n v:=
 Nat.rec (motive:=fun n=>∀v,pd v n=true->M n v) (fun v h=>qZ (M:=fun n v=>n=0->M n v) h (fun _=>h1) (fun _=>h2) (fun _=>h3) (fun _ e=>nomatch e) rfl) (fun m ih v h=>qZ (M:=fun n v=>n=m+1->M n v) h (fun _=>h1) (fun _=>h2) (fun _=>h3) (fun h e=>Nat.succ.inj e▸h4 ih (Nat.succ.inj e▸h)) rfl) n
theorem iI{n:Nat}(ih:∀v,pd v n=true->(dt v).canLay0=true/\(dt v).depth<=n)(vs:List V):iB vs n=true->PyData.canLayAll0 (m7 vs)=true/\PyData.depthAll (m7 vs)<=n:=
 List.rec (motive:=fun vs=>iB vs n=true->PyData.canLayAll0 (m7 vs)=true/\PyData.depthAll (m7 vs)<=n) (fun _=>⟨rfl,Nat.zero_le _⟩) (fun v vs ih2 h=>
  have h1:=ih v (aa h).1
  have h2:=ih2 (aa h).2
  ⟨(Bool.and_eq_true _ _).mpr ⟨h1.1,h2.1⟩,Nat.max_le.mpr ⟨h1.2,h2.2⟩⟩) vs
theorem kZ(n:Nat):∀v:V,pd v n=true->(dt v).canLay0=true/\(dt v).depth<=n:=
 nh (M:=fun n v=>(dt v).canLay0=true/\(dt v).depth<=n) ⟨rfl,Nat.zero_le _⟩ ⟨rfl,Nat.zero_le _⟩ ⟨rfl,Nat.zero_le _⟩ (fun {m xs} ih h=>⟨(iI ih xs h).1,Nat.succ_le_succ (iI ih xs h).2⟩) n
theorem oR{n m:Nat}(ih:∀v,pd v n=true->∀w,pd w m=true->PyData.eqv (dt v) (dt w)=uU v w)(vs:List V):∀ws:List V,iB vs n=true->iB ws m=true->PyData.eqvAll (m7 vs) (m7 ws)=hG vs ws:=
 List.rec (motive:=fun vs=>∀ws:List V,iB vs n=true->iB ws m=true->PyData.eqvAll (m7 vs) (m7 ws)=hG vs ws) (fun ws _ _=>List.casesOn ws rfl fun _ _=>rfl) (fun v vs ih2 ws h=>List.casesOn (motive:=fun ws=>iB ws m=true->PyData.eqvAll (m7 (v::vs)) (m7 ws)=hG (v::vs) ws) ws (fun _=>rfl) fun w ws h'=>
  congr (congrArg and (ih v (aa h).1 w (aa h').1)) (ih2 ws (aa h).2 (aa h').2)) vs
theorem s6(n m:Nat)(v:V)(h:pd v n=true)(w:V)(h':pd w m=true):PyData.eqv (dt v) (dt w)=uU v w:=
 nh (M:=fun n v=>∀m w,pd w m=true->PyData.eqv (dt v) (dt w)=uU v w) (fun {_} m w h=>qZ (M:=fun _ w=>PyData.eqv (dt .none) (dt w)=uU .none w) h rfl rfl rfl fun _=>rfl) (fun {_ b} m w h=>qZ (M:=fun _ w=>PyData.eqv (dt (.bool b)) (dt w)=uU (.bool b) w) h rfl rfl rfl fun _=>rfl) (fun {_ i} m w h=>qZ (M:=fun _ w=>PyData.eqv (dt (.int i)) (dt w)=uU (.int i) w) h rfl rfl rfl fun _=>rfl)
  (fun {_ xs} ih h1 m w h=>qZ (M:=fun _ w=>PyData.eqv (dt (.tup xs)) (dt w)=uU (.tup xs) w) h rfl rfl rfl fun {l ys} h2=>oR (fun v q w q'=>ih v q l w q') xs ys h1 h2) n v h m w h'
section
variable{C:Cx}{P:Pg}{T:Tm}{G:Mine.H}{h:Heap}{A:Around}{s:Shared}
theorem gX{n:Nat}(ih:∀v,pd v n=true->∀rv,VR T h v rv->∃as,Reads h rv (dt v) as){vs:List V}{rvs:List Value}(hp:iB vs n=true)(x:be T h vs rvs):∃as,ReadsAll h rvs (m7 vs) as:=
 x.ind (M:=fun vs rvs=>iB vs n=true->∃as,ReadsAll h rvs (m7 vs) as) (fun _=>⟨_, .nil⟩) (fun hx _ ih2 hp=>(ih _ (aa hp).1 _ hx).elim fun _ r=>(ih2 (aa hp).2).elim fun _ q=>⟨_, .cons r q⟩) hp
theorem gq(n:Nat):∀v:V,pd v n=true->∀rv,VR T h v rv->∃as,Reads h rv (dt v) as:=
 nh (M:=fun n v=>∀rv,VR T h v rv->∃as,Reads h rv (dt v) as) (fun _ x=>x.eN (M:=fun rv=>∃as,Reads h rv (dt .none) as) ⟨_, .none⟩) (fun {_ b} _ x=>x.eB (M:=fun rv=>∃as,Reads h rv (dt (.bool b)) as) ⟨_, .bool _⟩) (fun {_ i} _ x=>x.eI (M:=fun rv=>∃as,Reads h rv (dt (.int i)) as) fun _=>⟨_, .int _ _⟩)
  (fun {_ xs} ih hp _ x=>x.eT (M:=fun rv=>∃as,Reads h rv (dt (.tup xs)) as) fun _ _ _ ho hs _=>(gX ih hp hs).elim fun _ r=>ho.elim fun _ ho=>⟨_, .tuple ho rfl rfl r⟩) n
theorem mP(R:Rep C P T G s.heap){x y:V}{rx ry:Value}{r:Bool}{M:Prop}(he:BN G x y=some r)(Vx:VR T s.heap x rx)(Vy:VR T s.heap y ry)
  (k:∀dx dy as bs,Reads s.heap rx dx as->Reads s.heap ry dy bs->dx.canLay0=true->dy.canLay0=true->dx.depth<=6->PyData.eqv dx dy=r->M):M:=by
 have plain:(if pd x 5&&pd y 5 then some (uU x y) else none)=some r->M:=fun he=>iD he (fun hc e=>by
  obtain⟨as,r1⟩:=gq 5 _ (aa hc).1 _ Vx
  obtain⟨bs,r2⟩:=gq 5 _ (aa hc).2 _ Vy
  have l1:=kZ 5 x (aa hc).1
  exact k _ _ _ _ r1 r2 l1.1 (kZ 5 y (aa hc).2).1 (aL l1.2) ((s6 5 5 x (aa hc).1 y (aa hc).2).trans (ag e))) fun _ e=>aS e
 rcases x with _|b|i|c|xs|xs|⟨c,q⟩|i|i|n
 case list=>
  refine wy he fun j ey he1=>iD he1 (fun hc e=>?_) fun _ e=>aS e
  subst ey
  revert k
  refine Vx.eL (M:=fun rx=>(∀dx dy as bs,Reads s.heap rx dx as->Reads s.heap ry dy bs->dx.canLay0=true->dy.canLay0=true->dx.depth<=6->PyData.eqv dx dy=r->M)->M) fun a hx=>Vy.eL (M:=fun ry=>(∀dx dy as bs,Reads s.heap (.ref a) dx as->Reads s.heap ry dy bs->dx.canLay0=true->dy.canLay0=true->dx.depth<=6->PyData.eqv dx dy=r->M)->M) fun b hy k=>?_
  obtain⟨vs,n1,g1,g2,_⟩:=listAt R hx
  obtain⟨ws,n2,k1,k2,_⟩:=listAt R hy
  obtain⟨as,r1⟩:=gX (gq 5) (aa hc).1 g2
  obtain⟨bs,r2⟩:=gX (gq 5) (aa hc).2 k2
  have l1:=iI (kZ 5) _ (aa hc).1
  exact k (.list (m7 (G.lst i))) (.list (m7 (G.lst j))) _ _ (.list g1 rfl rfl r1) (.list k1 rfl rfl r2) l1.1 (iI (kZ 5) _ (aa hc).2).1 (Nat.succ_le_succ l1.2) ((oR (s6 5 5) _ _ (aa hc).1 (aa hc).2).trans (ag e))
 all_goals exact plain he
theorem mj(R:Rep C P T G h){a:Addr}{c i:Nat}(ha:T a=some (.inst c i)):∃ca d,h.get? a=some (instObj ca d):=by
 obtain⟨d,ca,ho,_⟩:=R.cell a _ ha
 exact⟨ca,d,ho⟩
inductive dS(h:Heap):Value->Value->Bool->Prop
 |none:dS h .none .none true
 |self {a}:dS h (.ref a) (.ref a) true
 |nr {a}:dS h .none (.ref a) false
 |rn {a}:dS h (.ref a) .none false
 |rr {a b c d c' d'} (n:a≠b) (ha:h.get? a=some (instObj c d)) (hb:h.get? b=some (instObj c' d')):dS h (.ref a) (.ref b) false
theorem o0(R:Rep C P T G h){x y:V}{rx ry:Value}{r:Bool}(he:Ct x y=some r)(Vx:VR T h x rx)(Vy:VR T h y ry):dS h rx ry r:=by
 have nn:∀{b:V} {q:Option Nat},b= .none\/(∃c,b= .ref c none)->Ct b y=some r->dS h .none ry r:=fun {b q} e he=>by
  have he:Ct .none y=some r:=e.elim (fun e=>e▸he) fun e=>e.elim fun c e=>by
   subst e
   rcases y with _|b|i|k|xs|xs|⟨c,q⟩|i|i|n<;>first|exact he|exact aS he|(rcases q with _|_<;>exact he)
  rcases y with _|b|i|k|xs|xs|⟨c,q⟩|i|i|n
  ·exact Vy.eN (M:=fun ry=>dS h .none ry r) (ag he▸ .none)
  case ref=>
   rcases q with _|j
   ·exact Vy.e0 (M:=fun ry=>dS h .none ry r) (ag he▸ .none)
   ·exact Vy.e1 (M:=fun ry=>dS h .none ry r) fun b _=>ag he▸ .nr
  all_goals exact aS he
 rcases x with _|b|i|k|xs|xs|⟨c,q⟩|i|i|n
 ·exact Vx.eN (M:=fun rx=>dS h rx ry r) (nn (q:=none) (.inl rfl) he)
 case tup=>
  rcases y with _|b|i|k|ys|ys|⟨c,q⟩|i|i|n
  ·exact Vx.eT (M:=fun rx=>dS h rx ry r) fun a _ _ _ _ _=>Vy.eN (M:=fun ry=>dS h (.ref a) ry r) (ag he▸ .rn)
  all_goals exact aS he
 case ref=>
  rcases q with _|i
  ·exact Vx.e0 (M:=fun rx=>dS h rx ry r) (nn (q:=none) (.inr ⟨c,rfl⟩) he)
  ·refine Vx.e1 (M:=fun rx=>dS h rx ry r) fun a ha=>?_
   rcases y with _|b|i|k|ys|ys|⟨d,q⟩|i|i|n
   ·exact Vy.eN (M:=fun ry=>dS h (.ref a) ry r) (ag he▸ .rn)
   case ref=>
    rcases q with _|j
    ·exact Vy.e0 (M:=fun ry=>dS h (.ref a) ry r) (ag he▸ .rn)
    ·refine Vy.e1 (M:=fun ry=>dS h (.ref a) ry r) fun b hb=>?_
     have he:(Nat.beq c d&&Nat.beq i j)=r:=ag he
     by_cases q:a=b
     ·have e:=ag ((q▸ha).symm.trans hb)
      have e1:c=d:=Tag.inst.inj e |>.1
      have e2:i=j:=Tag.inst.inj e |>.2
      rw[←q,←he,e1,e2,Nat.beq_refl,Nat.beq_refl]
      exact .self
     ·have:r=false:=he.symm.trans (Bool.eq_false_iff.mpr fun z=>q (R.inj _ _ _ ha (bA (aa z).1▸bA (aa z).2▸hb)))
      rw[this]
      obtain⟨c1,d1,h1⟩:=mj R ha
      obtain⟨c2,d2,h2⟩:=mj R hb
      exact .rr q h1 h2
   all_goals exact aS he
 all_goals exact aS he
theorem nv(O:C.Ok P):ix C P:=by
 intro o x y r rx ry T G A s he Vx Vy R hu hd hh Q E b
 have now:∀tk,Q (.bool r) {s with toks:=tk}:=fun tk=>b s.heap tk (Ext.refl _ _) R
 have hcl:∀dx dy:PyData,dx.depth<=6->A.units+min dx.depth dy.depth<cLine:=fun dx dy h=>by
  have:min dx.depth dy.depth<=dx.depth:=Nat.min_le_left _ _
  show A.units+min dx.depth dy.depth<9900
  lia
 have two:∀{f:Int->Int->Bool} {M:Value->Value->Prop},(fs x fun i=>fs y fun j=>some (f i j))=some r->(∀i j t u,r=f i j->M (.int i t) (.int j u))->M rx ry:=fun {f M} he k=>
  dT he fun i hx h1=>dT h1 fun j hy h2=>VR.eI (M:=fun rx=>M rx ry) (hx▸Vx) fun t=>VR.eI (M:=fun ry=>M (.int i t) ry) (hy▸Vy) fun u=>k i j t u (ag h2).symm
 induction o with
 |eq=>exact mP R he Vx Vy fun dx dy as bs r1 r2 l1 l2 hdp he=>SeqAt.compareEq_reads r1 r2 l1 l2 (hcl _ _ hdp) (he▸now s.toks)
 |ne=>
  obtain⟨r',he1,e⟩:=Option.map_eq_some_iff.mp he
  exact mP R he1 Vx Vy fun dx dy as bs r1 r2 l1 l2 hdp he=>SeqAt.compareNe_reads r1 r2 l1 l2 (hcl _ _ hdp) (he▸e▸now s.toks)
 |is=>
  exact dS.casesOn (motive:=fun rx ry r _=>(∀tk,Q (.bool r) {s with toks:=tk})->wpAny (model C.prog C.w) A (compareOp .Is rx ry) Q E s) (o0 R he Vx Vy) (fun now=>wpAny_is_self rfl (now s.toks)) (fun now=>wpAny_is_ref_self (now s.toks)) (fun now=>wpAny_is_other rfl (by intro q;cases q) (now s.toks)) (fun now=>wpAny_is_other rfl (by intro q;cases q) (now s.toks)) (fun n h1 h2 now=>wpAny_is_ref_other n h1 h2 (by intro q;cases q) (now s.toks)) now
 |isNot=>
  obtain⟨r',he1,e⟩:=Option.map_eq_some_iff.mp he
  exact dS.casesOn (motive:=fun rx ry r _=>(∀tk,Q (.bool (!r)) {s with toks:=tk})->wpAny (model C.prog C.w) A (compareOp .IsNot rx ry) Q E s) (o0 R he1 Vx Vy) (fun now=>wpAny_isNot_self rfl (now s.toks)) (fun now=>wpAny_isNot_ref_self (now s.toks)) (fun now=>wpAny_isNot_other rfl (by intro q;cases q) (now s.toks)) (fun now=>wpAny_isNot_other rfl (by intro q;cases q) (now s.toks)) (fun n h1 h2 now=>wpAny_isNot_ref_other n h1 h2 (by intro q;cases q) (now s.toks)) (fun tk=>e▸now tk)
 |lt=>exact two (M:=fun rx ry=>wpAny _ _ (compareOp .Lt rx ry) Q E s) he fun i j t u e=>PySem.P.lt_int (e▸now s.toks)
 |le=>exact two (M:=fun rx ry=>wpAny _ _ (compareOp .LtE rx ry) Q E s) he fun i j t u e=>PySem.P.le_int (e▸now s.toks)
 |gt=>exact two (M:=fun rx ry=>wpAny _ _ (compareOp .Gt rx ry) Q E s) he fun i j t u e=>PySem.P.gt_int (e▸now s.toks)
 |ge=>exact two (M:=fun rx ry=>wpAny _ _ (compareOp .GtE rx ry) Q E s) he fun i j t u e=>PySem.P.ge_int (e▸now s.toks)
 |wx=>
  refine dT he fun k e1 h1=>Jq h1 fun d e2 h2=>?_
  subst e1 e2
  refine VR.eI (M:=fun rx=>wpAny _ _ (compareOp .In rx ry) Q E s) Vx fun t=>VR.eD (M:=fun ry=>wpAny _ _ (compareOp .In (.int k t) ry) Q E s) Vy fun a ha=>?_
  obtain⟨kvs,hm,hk,hf,_⟩:=R.cell _ _ ha
  refine wpAny_in_of (knd:=intKind C.prog C.w) (k:=k) (by simp[intKind,Value.isInt]) (O.tY R ha) hm.mapOf ?_
  have e:(valueAt kvs k).isSome=((G.dct d).1 k).isSome:=by
   have:=hf k
   rcases q:(G.dct d).1 k with _|v
   ·rw[q] at this;rw[this];rfl
   ·rw[q] at this;obtain⟨rv,h1,_⟩:=this;rw[h1];rfl
  rw[e,ag h2]
  exact now _
end
section
variable{C:Cx}{P:Pg}{sc:Scope}{T T':Tm}{G:Mine.H}{env:Env}{ρ:au}{h h':Heap}{A:Around}{s:Shared}
theorem Rep.but{L:Addr}(R:Rep C P T G h)(X:Heap.ExtBut L h h')(hf:gd h L)(hT:T L=none)(hb:C.base.get? L=none):Rep C P T G h':=by
 refine⟨fun b o e=>X b o (fun q=>by rw[q,hb] at e;exact nomatch e) (R.keep b o e),R.above,fun a t e=>?_,R.inj⟩
 obtain⟨o,ho⟩:=R.there e
 have hne:a≠L:=fun q=>by rw[q,hT] at e;exact nomatch e
 exact(R.cell a t e).heap ((X a o hne ho).trans ho.symm) fun x=>x.but X hf
theorem bI.but{L:Addr}(F:bI C sc T env ρ h)(X:Heap.ExtBut L h h')(hf:gd h L)(hL:¬Own env L):bI C sc T env ρ h':=
 F.go (fun a o ha=>X a o fun q=>hL (q▸ha)) F.own (VR.but X hf)
inductive It(T:Tm)(h:Heap)(it:Addr):V->Nat->Prop
 |list {i a k} (ha:T a=some (.list i)) (hi:h.IsListIter it a k):It T h it (.list i) k
 |tup {xs a vs k} (ha:T a=none) (ho:jT h a vs) (hs:be T h xs vs) (hi:h.IsTupleIter it a k):It T h it (.tup xs) k
 |range {n:Int} {k:Nat} (hi:IsRangeIter h it k ((if 0<n then n else 0) - k) 1):It T h it (.range n) k
theorem gN{it:Addr}{o:Obj}{c:String}(ho:h.get? it=some o)(hc:o.cls= .type c)(n:c≠"tuple"/\c≠"list"/\c≠"range"):gd h it:=⟨fun o' ho'=> .inr (.inr ⟨c,ag (ho.symm.trans ho')▸hc,n⟩)⟩
theorem It.soft{it:Addr}{v:V}{k:Nat}(x:It T h it v k):gd h it:=by
 induction x with
 |list ha hi=>exact hi.elim fun o hi=>gN hi.1 hi.2.1 (by decide)
 |tup ha ho2 hs hi=>exact hi.elim fun o hi=>gN hi.1 hi.2.1 (by decide)
 |range hi=>exact gN (show h.get? it=_ from hi) rfl (by decide)
theorem It.there{it:Addr}{v:V}{k:Nat}(x:It T h it v k):∃o,h.get? it=some o:=by
 induction x with
 |list ha hi=>exact hi.imp fun _ q=>q.1
 |tup ha ho2 hs hi=>exact hi.imp fun _ q=>q.1
 |range hi=>exact⟨_,hi⟩
theorem tl(F:bI C sc T env ρ h){it:Addr}(hi:h.objs.size<=it):¬Own env it:=fun w=>by
 obtain⟨o,ho⟩:=F.there it w
 exact absurd (Heap.lt_size ho) (Nat.not_lt.mpr hi)
theorem It.mono{it:Addr}{v:V}{k:Nat}(hT:T it=none)(x:It T h it v k)(e:Ext T T' h h'):It T' h' it v k:=by
 induction x with
 |list ha hi=>exact .list (e.sub _ _ ha) (hi.imp fun _ q=>⟨e.keep _ _ hT q.1,q.2⟩)
 |tup ha ho2 hs hi=>exact .tup (ho2.mono e ha).1 (ho2.mono e ha).2 (hs.mono e) (hi.imp fun _ q=>⟨e.keep _ _ hT q.1,q.2⟩)
 |range hi=>exact .range (e.keep _ _ hT hi)
theorem mD{n:Int}(h1: -(2 ^ 40)<n)(h2:n<2 ^ 40):Builtin.Range.small 0 n 1=true:=small_one (by decide) (by decide) (by lia) (by lia)
theorem fF(R:Rep C P T G s.heap){v:V}{rv:Value}{G2:Mine.H}{r}(he:itemAt G2 v 0=some r)(V:VR T s.heap v rv){Q:Value->Shared->Prop}{E}
  (b:∀it h',s.heap.objs.size<=it->(∀b o,s.heap.get? b=some o->h'.get? b=some o)->It T h' it v 0->Q (.ref it) {s with heap:=h'}):
  wpAny (model C.prog C.w) A (pyIter rv) Q E s:=by
 rcases v with _|_|_|_|xs|_|_|i|_|n
 case list=>
  obtain⟨a,e,ha⟩:=V.inv
  obtain⟨vs,n1,g1,g2,_,hL,g3⟩:=listAt R ha
  exact e.symm▸wpAny_pyIter_list hL (b _ _ (ab _) (fun b o e=>Heap.get?_push_of_some _ e) (.list ha ⟨_,Heap.get?_push_size _ rfl,rfl,rfl⟩))
 case tup=>
  obtain⟨a,vs,e,ha,ho,hs,hn⟩:=V.inv
  have x0:Ext T T s.heap (s.heap.push {cls:= .type "tuple_iterator",data:= .fields #[.ref a, .int 0 0]}):=bp _
  exact e.symm▸wpAny_pyIter_tuple (items:=⟨vs⟩) ho.tup (b _ _ (ab _) (fun b o e=>Heap.get?_push_of_some _ e) (.tup ha (ho.imp fun n hn=>Heap.get?_push_of_some _ hn) (hs.mono x0) ⟨_,Heap.get?_push_size _ rfl,rfl,rfl⟩))
 case range=>
  obtain⟨a,e,ha,t,u,v,hr,h1,h2⟩:=V.inv
  refine e.symm▸wpAny_pyIter_range hr (mD h1 h2) (b _ _ (ab _) (fun b o e=>Heap.get?_push_of_some _ e) (.range ?_))
  rw[rangeSize_one,Int.sub_zero,show(if 0<n then n else 0) - ((0:Nat):Int)=if 0<n then n else 0 from Int.sub_zero _]
  exact Heap.get?_push_size _ rfl
 all_goals exact aS he
theorem eX(R:Rep C P T G s.heap)(hh:A.handled=none){it:Addr}{v:V}{k:Nat}{r}(hT:T it=none)(hb:C.base.get? it=none)(I:It T s.heap it v k)(he:itemAt G v k=some r){Q:Option Value->Shared->Prop}{E}
  (b:∀h' tk,Heap.ExtBut it s.heap h'->match r with
   |none=>Q none {s with heap:=h',toks:=tk}
   |some w=>∀rw,VR T h' w rw->It T h' it v (k+1)->Q (some rw) {s with heap:=h',toks:=tk}):
  wpAny (model C.prog C.w) A (pyNext (.ref it)) Q E s:=by
 have soft:=I.soft
 have item:∀{xs:List V} {vs:List Value},be T s.heap xs vs->(xs[k]?=none->(⟨vs⟩:Array Value)[k]?=none)/\∀w,xs[k]?=some w->∃rw,(⟨vs⟩:Array Value)[k]?=some rw/\VR T s.heap w rw:=fun {xs vs} g=>
  ⟨fun q=>(List.getElem?_toArray (xs:=vs)).trans (List.getElem?_eq_none_iff.mpr (g.length▸List.getElem?_eq_none_iff.mp q)),fun w q=>(g.get q).imp fun rw z=>⟨(List.getElem?_toArray (xs:=vs)).trans z.1,z.2⟩⟩
 induction I with
 | @list i a k ha hi=>
  obtain⟨vs,n1,g1,g2,hlt,hL,g3⟩:=listAt R ha
  have he:(G.lst i)[k]?=r:=ag he
  obtain⟨i1,i2⟩:=item g2
  rcases q:r with _|w
  ·rw[q] at b
   exact wpAny_pyNext_list_end hh hi hL (i1 (he.trans q)) fun h' X=>b h' s.toks X
  ·rw[q] at b
   obtain⟨rw_,hrv,V⟩:=i2 w (he.trans q)
   exact wpAny_pyNext_list_item hi hL hrv fun h' hi' hs'=>b h' s.toks hs'.extBut rw_ (V.but hs'.extBut soft) (.list ha hi')
 | @tup xs a vs k ha ho hs hi=>
  have he:xs[k]?=r:=ag he
  obtain⟨i1,i2⟩:=item hs
  rcases q:r with _|w
  ·rw[q] at b
   exact wpAny_pyNext_tuple_end hh hi (items:=⟨vs⟩) ho.tup (i1 (he.trans q)) fun h' X=>b h' s.toks X
  ·rw[q] at b
   obtain⟨rw_,hrv,V⟩:=i2 w (he.trans q)
   refine wpAny_pyNext_tuple_item hi (items:=⟨vs⟩) ho.tup hrv fun h' hi' hs'=>b h' s.toks hs'.extBut rw_ (V.but hs'.extBut soft) (.tup ha (ho.imp fun n hn=>hs'.extBut _ _ (fun q=>?_) hn) (hs.heap fun x=>x.but hs'.extBut soft) hi')
   obtain⟨o,ho',hc,_⟩:=hi
   rw[←q,hn] at ho'
   exact absurd ((congrArg Obj.cls (ag ho')).trans hc) (by decide:¬Value.type "tuple"= .type "tuple_iterator")
 | @range n k hi=>
  have he:(if(k:Int)<n then some (V.int k) else none)=r:=ag he
  refine iD he (fun hk e=>?_) fun hk e=>?_
  ·rw[←e] at b
   have hp:0<n:=by lia
   refine wpAny_pyNext_range_item hi (by rw[if_pos hp];lia) fun h' hi' hs'=>b h' _ hs'.extBut _ .int (.range ?_)
   rw[if_pos hp] at*
   rw[show n - ((k+1:Nat):Int)=n - (k:Int) - 1 by lia]
   exact hi'
  ·rw[←e] at b
   refine wpAny_pyNext_range_end hh hi (by split<;>lia) fun h' X=>b h' s.toks X
end
structure cV(sc scc:Scope)(x:Str):Prop where
 fil:filled x=true
 kind:scc.kind= .function
 here:scc.names.lookup x=some .local
 dis:(scc.names.map fun y=>y.1).Nodup
 all:∀y∈scc.names,(y.2= .local/\(y.1=x\/y.1.cps.toList=dot0))\/(y.2= .free/\(∃k,nm k=y.1)/\(sc.names.lookup y.1=some .cell\/sc.names.lookup y.1=some .free))\/y.2= .globalImplicit
theorem jB:∀{l:List Str},dist (l.map fun y=>y.cps.toList)=true->l.Nodup
 |[],_=>List.Pairwise.nil
 |x::r,h=>List.nodup_cons.mpr ⟨fun hm=>ft (((congrArg not (eG _)).symm.trans (List.all_eq_true.mp (aa h).1 _ (List.mem_map.mpr ⟨x,hm,rfl⟩)))),jB (aa h).2⟩
theorem lT{sc scc:Scope}{x:Str}(h:oa sc scc x=true):cV sc scc x:=by
 obtain⟨h,h5⟩:=aa h
 obtain⟨h,h4⟩:=aa h
 obtain⟨h,h3⟩:=aa h
 obtain⟨h1,h2⟩:=aa h
 refine⟨h1,?_,?_,jB (by rw[List.map_map];exact h4),fun y hy=>?_⟩
 ·generalize scc.kind=kd at h2
  induction kd<;>first|rfl|exact ft h2
 ·obtain⟨k,e,h⟩:=lu (fun k=>match k with|some .local=>true|_=>false) rfl h3
  refine e.trans (congrArg some ?_)
  induction k<;>first|rfl|exact ft h
 ·have:=List.all_eq_true.mp h5 y hy
  obtain⟨n,k⟩:=y
  induction k with
  |«local»=>exact .inl ⟨rfl,((Bool.or_eq_true _ _).mp this).imp seq_eq lv⟩
  |free=>
   obtain⟨this,a3⟩:=aa this
   obtain⟨a1,a2⟩:=aa this
   refine .inr (.inl ⟨rfl,?_,?_⟩)
   ·obtain⟨l,hl,e⟩:=List.any_eq_true.mp a1
    obtain⟨k,hk⟩:=List.getElem?_of_mem hl
    refine⟨k,?_⟩
    unfold nm
    rw[List.getD_eq_getElem?_getD,hk]
    exact congrArg (fun l:List Nat=>(⟨⟨l⟩⟩:Str)) (lv e)
   ·obtain⟨k,e,h⟩:=lu (fun k=>match k with|some .cell=>true|some .free=>true|_=>false) rfl a2
    rw[e]
    induction k<;>first|exact .inl rfl|exact .inr rfl|exact ft h
  |globalImplicit=>exact .inr (.inr rfl)
  |_=>exact ft this
noncomputable def m8(cells:List (Str×Addr))(names:List (Str×NameKind))(acc:List (Str×Addr)):List (Str×Addr):=((names.filter fun y=>y.2== .free).map fun y=>(y.1,(cells.lookup y.1).getD 0)).reverse++acc
theorem jE{env:Env}{f:Str×NameKind->List (Str×Addr)->Sem (ForInStep (List (Str×Addr)))}
  (hf:∀n k cs,f (n,k) cs=if(k==NameKind.free)=true then(cellOf env n>>=fun c=>pure (ForInStep.yield ((n,c)::cs))) else pure (ForInStep.yield cs)):
  ∀(names:List (Str×NameKind)) (acc:List (Str×Addr)),(∀y∈names,y.2= .free->∃c,env.cells.lookup y.1=some c)->forIn names acc f=pure (m8 env.cells names acc)
 |[],acc,_=>List.forIn_nil
 |(n,k)::r,acc,h=>by
  have ih:=fun acc=>jE hf r acc fun y hy=>h y (cH _ hy)
  rw[List.forIn_cons,hf]
  rcases q:k==NameKind.free with _|_
  ·refine(ih acc).trans (congrArg pure ?_)
   unfold m8
   rw[List.filter_cons_of_neg (p:=fun y:Str×NameKind=>y.2== .free) (by rw[q];decide)]
  ·obtain⟨c,hc⟩:=h (n,k) bN (beq_iff_eq.mp q)
   have hc:env.cells.lookup n=some c:=hc
   rw[show cellOf env n=pure c by unfold cellOf;rw[hc]]
   refine(ih ((n,c)::acc)).trans (congrArg pure ?_)
   unfold m8
   rw[List.filter_cons_of_pos (p:=fun y:Str×NameKind=>y.2== .free) q,List.map_cons,List.reverse_cons,List.append_assoc,hc];rfl
theorem jU{env:Env}{scope:Scope}(h:∀y∈scope.names,y.2= .free->∃c,env.cells.lookup y.1=some c):closureFor scope env=pure (m8 env.cells scope.names []):=by
 unfold closureFor
 show(forIn scope.names [] _>>=fun cs=>pure cs)=_
 have e:=jE (env:=env) (f:=fun x cs=>match x with
     |(name,kind)=>
      if(kind==NameKind.free)=true then do
       let c ←cellOf env name
       pure (ForInStep.yield ((name,c)::cs))
      else pure (ForInStep.yield cs)) (fun n k cs=>rfl) scope.names [] h
 exact(congrArg (· >>=fun cs=>pure cs) e).trans rfl
section
variable{cells:List (Str×Addr)}{names:List (Str×NameKind)}
theorem pn{p:Str×Addr}(h:p∈m8 cells names []):(p.1,NameKind.free)∈names/\p.2=(cells.lookup p.1).getD 0:=by
 obtain⟨y,hy,e⟩:=List.mem_map.mp (List.mem_reverse.mp ((List.mem_append.mp h).elim id fun q=>nomatch q))
 obtain⟨h1,h2⟩:=List.mem_filter.mp hy
 rw[←e]
 exact⟨(beq_iff_eq.mp h2:y.2= .free)▸h1,rfl⟩
theorem yQ{n:Str}(h:(n,NameKind.free)∈names):(n,(cells.lookup n).getD 0)∈m8 cells names []:=
 List.mem_append_left _ (List.mem_reverse.mpr (List.mem_map.mpr ⟨_,List.mem_filter.mpr ⟨h,rfl⟩,rfl⟩))
theorem mH(h:(names.map (·.1)).Nodup):((m8 cells names []).map (·.1)).Nodup:=by
 unfold m8
 rw[List.append_nil,List.map_reverse,List.map_map]
 exact List.pairwise_reverse.mpr (((h.sublist (List.filter_sublist.map _)):((names.filter _).map (·.1)).Nodup).imp Ne.symm)
end
theorem iC{l:List (Str×Addr)}{n:Str}{a:Addr}(hd:(l.map (·.1)).Nodup)(h:(n,a)∈l):l.lookup n=some a:=by
 induction l with
 |nil=>exact nomatch h
 |cons p r ih=>
  obtain⟨h1,h2⟩:=List.nodup_cons.mp hd
  rw[List.lookup_cons]
  rcases List.mem_cons.mp h with e|e
  ·rw[←e,beq_self_eq_true]
  ·rw[beq_eq_false_iff_ne.mpr fun q:n=p.1=>h1 (show p.1∈r.map (·.1) from q▸List.mem_map_of_mem e)]
   exact ih h2 e
theorem du{env:Env}{names:List (Str×NameKind)}{s:Str}{k:NameKind}(h:names.lookup s=some k):
  (names.map fun(n,k)=>if(k==NameKind.free&&env.scope.kind== .function&&env.kindOf n==some .cell) then(n,NameKind.cell) else(n,k)).lookup s=some k\/
  (k= .free/\(names.map fun(n,k)=>if(k==NameKind.free&&env.scope.kind== .function&&env.kindOf n==some .cell) then(n,NameKind.cell) else(n,k)).lookup s=some .cell):=by
 have gen:∀(g:Str->NameKind->NameKind) (l:List (Str×NameKind)),(l.map fun y=>(y.1,g y.1 y.2)).lookup s=(l.lookup s).map (g s):=fun g l=>by
  induction l with
  |nil=>rfl
  |cons p r ih=>
   rw[List.map_cons,List.lookup_cons,List.lookup_cons,ih]
   rcases q:s==p.1 with _|_
   ·rfl
   ·rw[eq_of_beq q];rfl
 have e:=gen (fun n k=>if(k==NameKind.free&&env.scope.kind== .function&&env.kindOf n==some .cell) then .cell else k) names
 rw[show(fun y:Str×NameKind=>(y.1,if(y.2==NameKind.free&&env.scope.kind== .function&&env.kindOf y.1==some .cell) then NameKind.cell else y.2))=fun y=>if(y.2==NameKind.free&&env.scope.kind== .function&&env.kindOf y.1==some .cell) then(y.1,NameKind.cell) else(y.1,y.2) from funext fun y=>apply_ite (Prod.mk y.1) _ _ _,h] at e
 rcases q:k==NameKind.free&&env.scope.kind== .function&&env.kindOf s==some .cell with _|_
 ·exact .inl (e.trans (congrArg some (if_neg (by rw[q];decide))))
 ·exact .inr ⟨beq_iff_eq.mp (aa (aa q).1).1,e.trans (congrArg some (if_pos q))⟩
section
variable{C:Cx}{P:Pg}{sc scc:Scope}{T T':Tm}{G G':Mine.H}{env:Env}{ρ:au}{h h':Heap}{s:Shared}
section
variable{x:Str}{n:Str}
theorem cV.loc(S:cV sc scc x)(h:(n,NameKind.local)∈scc.names):n=x\/n.cps.toList=dot0:=(S.all _ h).elim (fun q=>q.2) fun q=>q.elim (fun q=>absurd q.1 (by decide:¬NameKind.local= .free)) fun q=>absurd q (by decide:¬NameKind.local= .globalImplicit)
theorem cV.NW(S:cV sc scc x)(h:(n,NameKind.free)∈scc.names):(∃k,nm k=n)/\(sc.names.lookup n=some .cell\/sc.names.lookup n=some .free):=(S.all _ h).elim (fun q=>absurd q.1 (by decide:¬NameKind.free= .local)) fun q=>q.elim (fun q=>q.2) fun q=>absurd q (by decide:¬NameKind.free= .globalImplicit)
theorem cV.oO(S:cV sc scc x)(h:(n,NameKind.cell)∈scc.names):False:=(S.all _ h).elim (fun q=>absurd q.1 (by decide:¬NameKind.cell= .local)) fun q=>q.elim (fun q=>absurd q.1 (by decide:¬NameKind.cell= .free)) fun q=>absurd q (by decide:¬NameKind.cell= .globalImplicit)
end
theorem my{x:Str}(S:cV sc scc x):EU scc (relabel scc env):=
 ⟨S.kind,fun s e=>(du (env:=env) e).elim id fun q=>absurd q.1 (by decide),fun s e=>e.elim (fun e=>(S.oO (mem_of_lookup e)).elim) fun e=>(du (env:=env) e).elim .inr fun q=> .inl q.2,fun s e=>(du (env:=env) e).elim id fun q=>absurd q.1 (by decide)⟩
theorem gJ{x:Str}(S:cV sc scc x)(F:bI C sc T env ρ h)(y:Str×NameKind)(hy:y∈scc.names)(hf:y.2= .free):∃c,env.cells.lookup y.1=some c:=by
 obtain⟨⟨k,hk⟩,q⟩:=S.NW (hf▸hy:(y.1,NameKind.free)∈scc.names)
 rw[←hk] at q ⊢
 obtain⟨c,ov,hc,_⟩:=F.cels k q
 exact⟨c,hc⟩
theorem nq{x:Nat}(S:cV sc scc (nm x))(F:bI C sc T env ρ h)(R:Rep C P T G h){L:Addr}(hL:h.objs.size<=L)(k:∀b o,h.get? b=some o->h'.get? b=some o)(hn:h'.Ns L fun _=>none)(R':Rep C P T' G' h')(x0:Ext T T' h h')(hTL:T' L=none)(hbL:C.base.get? L=none):
  bI C scc T' (compEnvC scc (m8 env.cells scc.names []) L env) (fun y=>if y=x then none else ρ y) h':=by
 have hk:∀p∈m8 env.cells scc.names [],(p.1,NameKind.free)∈scc.names/\env.cells.lookup p.1=some p.2:=fun p hp=>by
  obtain⟨h1,h2⟩:=pn hp
  obtain⟨c,hc⟩:=gJ S F _ h1 rfl
  rw[hc] at h2
  exact⟨h1,hc.trans (congrArg some h2.symm)⟩
 have hown:∀{a},(∃n,(m8 env.cells scc.names []).lookup n=some a)->Own env a:=fun⟨n,hn⟩=> .inr ⟨n,(hk _ (mem_of_lookup hn)).2⟩
 have F':=F.mono x0
 obtain⟨oL,es,ep,hoL,hdL,rL⟩:=id hn
 have ow:∀{a} {p:Addr->Prop},Own (compEnvC scc (m8 env.cells scc.names []) L env) a->p L->(Own env a->p a)->p a:=fun h h1 h2=>h.elim (fun e=>e▸h1) fun q=>h2 (hown q)
 refine⟨my S,F.glob,F.blt,⟨_,hn,fun y hy=>?_⟩,fun y hy=>?_,fun a ha=>ow (p:=fun a=>T' a=none) ha hTL (F'.own a),fun n c hc=>?_,?_,fun a ha=>ow (p:=fun a=>C.base.get? a=none) ha hbL (F.above a),fun a ha=>ow (p:=fun a=>∃o,h'.get? a=some o) ha ⟨_,hoL⟩ (F'.there a),fun a o ha=>ow (p:=fun a=>h'.get? a=some o->tP o) ha (fun ho=>ag (hoL.symm.trans ho)▸ .inr ⟨_,_,hdL⟩) (F'.mild a o)⟩
 ·have hy':y=x:=(S.loc (mem_of_lookup hy)).elim (fQ S.fil) fun e=>by
   have:=(nK (k:=y)).2.2
   rw[e,eG] at this;exact nomatch this
  rw[if_pos hy'];exact trivial
 ·have hfree:(nm y,NameKind.free)∈scc.names:=hy.elim (fun e=>(S.oO (mem_of_lookup e)).elim) fun e=>mem_of_lookup e
  obtain⟨c,ov,hc,hi,hv⟩:=F'.cels y (S.NW hfree).2
  refine⟨c,ov,?_,hi,?_⟩
  ·have:=yQ (cells:=env.cells) hfree
   rw[hc] at this
   exact iC (mH S.dis) this
  ·by_cases e:y=x
   ·rw[if_pos e];exact trivial
   ·rw[if_neg e];exact hv
 ·obtain⟨o,ho⟩:=F.there c (.inr ⟨n,(hk _ hc).2⟩)
  exact aj (ae (Heap.lt_size ho) hL)
 ·exact List.Pairwise.imp_of_mem (fun {p q} hp hq hne e=>hne (name_of_addr F.pair (mem_of_lookup (hk p hp).2) (e▸mem_of_lookup (hk q hq).2))) (List.pairwise_map.mp (mH (cells:=env.cells) S.dis))
end
section
variable{C:Cx}{P:Pg}{sc scc:Scope}{T T':Tm}{G G':Mine.H}{env:Env}{ρ:au}{h h':Heap}{A:Around}{s:Shared}
theorem vo{x:Str}(S:cV sc scc x)(F:bI C sc T env ρ h){L a:Addr}(ha:Own (compEnvC scc (m8 env.cells scc.names []) L env) a):a=L\/Own env a:=by
 refine ha.imp id fun ha=>?_
 obtain⟨n,hn⟩:=ha
 obtain⟨h1,h2⟩:=pn (mem_of_lookup hn)
 obtain⟨c,hc⟩:=gJ S F _ h1 rfl
 have hc:env.cells.lookup n=some c:=hc
 rw[hc] at h2
 exact .inr ⟨n,hc.trans (congrArg some h2.symm)⟩
theorem gF{h0:Heap}{it:Addr}(x:Ext T T' h0 h)(X:Heap.ExtBut it h h')(hi:h0.get? it=none):Ext T T' h0 h':=
 ⟨x.sub,x.new,fun b o hb ho=>X b o (fun q=>aS ((hi.symm.trans (q▸ho:h0.get? it=some o)))) (x.keep b o hb ho)⟩
theorem It.own{it L:Addr}{v:V}{k:Nat}(x:It T h it v k)(hs:Heap.SameBut L h h')(hf:gd h L)(hne:it≠L):It T h' it v k:=by
 have g:∀{o},h.get? it=some o->h'.get? it=some o:=fun ho=>(hs.2 _ hne).trans ho
 induction x with
 |list ha hi=>exact .list ha (hi.imp fun _ q=>⟨g q.1,q.2⟩)
 | @tup xs a vs _ ha ho2 hss hi=>
  refine .tup ha (ho2.imp fun n hn=>(hs.2 _ fun q=>?_).trans hn) (hss.heap fun x=>x.own hs hf) (hi.imp fun _ q=>⟨g q.1,q.2⟩)
  rcases hf.soft _ (q▸hn) with⟨v,e⟩|⟨es,m,e⟩|⟨c,e,e1,_⟩
  ·exact nomatch e
  ·exact nomatch e
  ·exact e1 (Value.type.inj e).symm
 |range hi=>exact .range (g hi)
theorem rH{it:Addr}{v:V}{k:Nat}(x:It T s.heap it v k){M':Program}{w':World}{Q:Value->Shared->Prop}{E}(q:Q (.ref it) s):wpAny (model M' w') A (pyIter (.ref it)) Q E s:=by
 induction x with
 |list ha hi=>exact wpAny_pyIter_listiter hi q
 |tup ha ho hs hi=>exact wpAny_pyIter_tupleiter hi q
 |range hi=>exact wpAny_pyIter_rangeiter hi q
theorem cV.isVar{x:Str}(S:cV sc scc x):isVar scc x=true:=by
 unfold Mine.isVar
 rw[S.fil,oy,S.here];rfl
structure CI(C:Cx)(P:Pg)(scc:Scope)(T:Tm)(h0:Heap)(ev:Env)(ρ:au)(it D:Addr)(nl:Nat)(iv:V)(T':Tm)(h':Heap)(k:Nat)(G':Mine.H):Prop where
 x:Ext T T' h0 h'
 R:Rep C P T' G' h'
 I:It T' h' it iv k
 ti:T' it=none
 tD:T' D=some (.list nl)
 F:bI C scc T' ev ρ h'
section
variable{h0 h2:Heap}{ev:Env}{ρ':au}{it D:Addr}{nl:Nat}{iv:V}{k:Nat}{T2:Tm}{G2:Mine.H}
theorem CI.mono(c:CI C P scc T h0 ev ρ it D nl iv T' h' k G)(y:Ext T' T2 h' h2)(R:Rep C P T2 G2 h2):CI C P scc T h0 ev ρ it D nl iv T2 h2 k G2:=
 ⟨c.x.trans y,R,c.I.mono c.ti y,c.I.there.elim fun _ ho=>y.free c.ti ho,y.sub _ _ c.tD,c.F.mono y⟩
theorem CI.less(c:CI C P scc T h0 ev ρ it D nl iv T' h' k G)(l:∀y,ρ' y=none\/ρ' y=ρ y):CI C P scc T h0 ev ρ' it D nl iv T' h' k G:=⟨c.x,c.R,c.I,c.ti,c.tD,c.F.less l⟩
end
theorem oD{j:Nat}(htst:∀m,m<=j->dG C P m){ifs:List E}{pifs:List Expr}(rf:hW sc ifs pifs=true)(hl:pifs.length<=1)(ar:AR 2 A j)(F:bI C sc T env ρ s.heap)(R:Rep C P T G s.heap){K:Bool->Mine.H->Prop}(ht:cD P j ρ G true ifs K)
  {Q:Bool->Shared->Prop}{E}(bt:zu C P T s K Q):wpAny (model C.prog C.w) A (forIn pifs true fun c r=>if r=true then do let ok ←isTrue c env (eval c env);pure (ForInStep.yield ok) else pure (ForInStep.yield r)) Q E s:=by
 rcases j with _|j
 ·exact ht.elim
 rcases ifs with _|⟨e,es⟩
 ·rw[fq rf]
  exact wpAny_tests_nil (bt _ _ ht T s.heap s.toks (Ext.refl _ _) R)
 ·obtain⟨pe,pes,e1,rf'⟩:=bC rf
  rcases es with _|⟨e2,es2⟩
  ·rw[e1,fq (aa rf').2]
   refine wpAny_tests_one (htst j (Nat.le_succ _) (show cC P j ρ G e fun b h=>same b true (cD P j ρ h true [] K) (K b h) from ht) (aa rf').1 ar.dn F R fun b1 G2 h1=>?_)
   rcases b1 with _|_
   ·exact bt _ _ h1
   ·rcases j with _|j
    ·exact h1.elim
    ·exact bt _ _ h1
  ·obtain⟨pe2,pes2,e3,_⟩:=bC (aa rf').2
   rw[e1,e3] at hl
   exact absurd (bG hl) (Nat.not_succ_le_zero _)
theorem qw(O:C.Ok P){n:Nat}(hev:∀m,m<=n->bX C P m)(htst:∀m,m<=n->dG C P m){x:Nat}{elt:E}{ifs:List E}{iv:V}{kh:Mine.H->Prop}(S:cV sc scc (nm x)){pelt:Expr}{pifs:List Expr}(re:cE scc elt pelt=true)(rf:hW scc ifs pifs=true)(hl:pifs.length<=1)(ar:AR 2 A n)
  {it D:Addr}{ev:Env}{ρ0:au}(hρ:∀y,ρ0 y=none\/ρ0 y=ρ y)(hρ':∀v,upd ρ0 x v=upd ρ x v)(h0:∀v,∀y,ρ0 y=none\/ρ0 y=upd ρ x v y)(hitB:C.base.get? it=none)(hitS:s.heap.get? it=none)(hitO:¬Own ev it)(hLS:s.heap.get? ev.locals=none){px:Pos}{pit:Expr}{pos:Pos}{nl:Nat}{RR:Result->Shared->Prop}
  (b:∀G',kh G'->∀h' tk T' m,Ext T T' s.heap h'->Rep C P T' G' h'->T' D=some (.list nl)->h'.Ns ev.locals m->T' ev.locals=none->RR (.ok .next) {s with heap:=h',toks:=tk})
  {h4:Heap}{T4:Tm}{G4:Mine.H}{tk4:Nat}(c4:CI C P scc T s.heap ev ρ0 it D nl iv T4 h4 0 G4)(he:gH P n ρ G4 elt x ifs iv 0 nl kh):
  codeAny (model C.prog C.w) A (.compLoop (.ListComp pelt [⟨.Name (nm x) px,pit,pifs,0⟩] scc pos) 0 (.ref it) (.ref D) ev) RR {s with heap:=h4,toks:=tk4}:=by
 refine codeAny_compLoop_tests (fun m s'=>m<=n/\∃T' h' tk k G0,s'={s with heap:=h',toks:=tk}/\CI C P scc T s.heap ev ρ0 it D nl iv T' h' k G0/\gH P m ρ G0 elt x ifs iv k nl kh) (fun m s' hI=>?_) n ⟨ab _,_,_,_,_,_,rfl,c4,he⟩
 obtain⟨hmn,T',h',tk,k,G0,rfl,c,hc⟩:=hI
 rcases m with _|j
 ·exact hc.elim
 have hj:j<=n:=aI hmn
 have arj:AR 2 A j:=ar.lower (Nat.succ_le_succ (Nat.succ_le_succ hj))
 obtain⟨r,hr,hc⟩:=db hc
 refine eX c.R ar.h c.ti hitB c.I hr fun h6 tk6 X=>?_
 have soft5:=c.I.soft
 have x6:=gF c.x X hitS
 have R6:=c.R.but X soft5 c.ti hitB
 have F6:=c.F.but X soft5 hitO
 rcases r with _|v
 ·obtain⟨m,hn,_⟩:=F6.locs
  exact b _ hc h6 tk6 T' m x6 R6 c.tD hn (F6.own _ (.inl rfl))
 ·intro rw_ V6 I6
  refine wpAny_assign_Name (store (s:={s with heap:=h6,toks:=tk6}) F6 R6 V6 S.isVar fun h7 tk7 x7 F7 R7 V7 hown=>?_)
  obtain⟨L',hL',hs',hsf,hloc⟩:=hown
  rw[hρ'] at F7
  have eL:=hloc S.here
  have c7:CI C P scc T s.heap ev (upd ρ x v) it D nl iv T' h7 (k+1) G0:=⟨gF x6 hs'.extBut (eL▸hLS),R7,I6.own hs' hsf fun q=>hitO (q▸hL'),c.ti,c.tD,F7⟩
  refine oD (s:={s with heap:=h7,toks:=tk7}) (fun m hm=>htst m (af hm hj)) rf hl arj c7.F R7 hc fun cb G1 hc T8 h8 tk8 x8 R8=>?_
  have c8:=c7.mono x8 R8
  rcases cb with _|_
  ·exact⟨j,aE _,hj,T8,h8,tk8,k+1,G1,rfl,c8.less (h0 v),hc⟩
  ·refine hev j hj hc re arj c8.F R8 fun y G2 hy ry T9 h9 tk9 x9 R9 V9=>?_
   have c9:=c8.mono x9 R9
   refine ij (s:={s with heap:=h9,toks:=tk9}) R9 c9.tD V9 hy.1 fun rv T10 h10 tk10 x10 R10 V10=>?_
   exact⟨j,aE _,hj,T10,h10,tk10,k+1,_,rfl,(c9.mono x10 R10).less (h0 v),hy.2⟩
theorem tN(O:C.Ok P){n:Nat}(hev:∀m,m<=n->bX C P m)(htst:∀m,m<=n->dG C P m){x:Nat}{elt:E}{ifs:List E}{iv:V}{kh:Mine.H->Prop}(he:gH P n ρ (G.newL []) elt x ifs iv 0 G.nl kh)
  (S:cV sc scc (nm x)){pelt:Expr}{pifs:List Expr}(re:cE scc elt pelt=true)(rf:hW scc ifs pifs=true)(hl:pifs.length<=1)(ar:AR 2 A n)(F:bI C sc T env ρ s.heap)(R:Rep C P T G s.heap)
  {it:Addr}(hit:s.heap.objs.size<=it){h2:Heap}(k2:∀b o,s.heap.get? b=some o->h2.get? b=some o)(I:It T h2 it iv 0){px:Pos}{pit:Expr}{pos:Pos}{E:Value->Shared->Prop}
  {RR:Value->Addr->Result->Shared->Prop}
  (b:∀G',kh G'->∀D L h' tk T' m,Ext T T' s.heap h'->Rep C P T' G' h'->T' D=some (.list G.nl)->h'.Ns L m->T' L=none->C.base.get? L=none->s.heap.get? L=none->RR (.ref D) L (.ok .next) {s with heap:=h',toks:=tk}):
  wpAny (model C.prog C.w) A (newList []) (fun acc s₃=>wpAny (model C.prog C.w) A (newFunctionEnv scc env.globals (m8 env.cells scc.names []) [] env.qual none .none (some env)) (fun cenv s₄=>
   codeAny (model C.prog C.w) A (.compStart (.ListComp pelt [⟨.Name (nm x) px,pit,pifs,0⟩] scc pos) 0 (.ref it) acc {cenv with scope:=relabel scc env}) (RR acc cenv.locals) s₄) E s₃) E {s with heap:=h2}:=by
 have x2:Ext T T s.heap h2:=cf R k2
 have R2:Rep C P T G h2:=de R k2
 have hit2:it<h2.objs.size:=by obtain⟨o,ho⟩:=I.there;exact Heap.lt_size ho
 have hitT:T it=none:=R.free hit
 have x3:Ext T T h2 (h2.push {cls:= .type "list",data:= .seq ([]:List Value).toArray}):=bp _
 have y3:=cr (t:= .list G.nl) R2 (ab _) x3
 have R3:Rep C P (dq T h2.objs.size (.list G.nl)) (G.newL []) (h2.push {cls:= .type "list",data:= .seq ([]:List Value).toArray}):=
  R2.iM (ab _) x3 (fun b u e=>(R2.there e).elim fun o' ho=>(Heap.get?_push_of_some _ ho).trans ho.symm) (R2.dj (ab _)) (Heap.get?_push_size _ rfl) .nil (Nat.zero_le _)
 have k3:∀b o,h2.get? b=some o->(h2.push {cls:= .type "list",data:= .seq ([]:List Value).toArray}).get? b=some o:=fun b o e=>Heap.get?_push_of_some _ e
 have hsz3:(h2.push {cls:= .type "list",data:= .seq ([]:List Value).toArray}).objs.size=h2.objs.size+1:=Heap.size_push ..
 refine wpAny_newObj_type (wpAny_newFunctionEnv (fun y hy q=>?_) (by intro y hy;cases hy) (fun h4 hns hsb=>?_) S.kind)
 ·exact(S.oO (q▸hy:(y.1,NameKind.cell)∈scc.names)).elim
 dsimp only at hns hsb ⊢
 generalize h2.push {cls:= .type "list",dict:=none,data:= .seq ([]:List Value).toArray}=h3 at*
 have k34:∀b o,h3.get? b=some o->h4.get? b=some o:=fun b o e=>hsb.extBut b o (aj (Heap.lt_size e)) (Heap.get?_push_of_some _ e)
 have tD:dq T h2.objs.size (.list G.nl) h2.objs.size=some (.list G.nl):=if_pos rfl
 have tn:∀a,a≠h2.objs.size->dq T h2.objs.size (.list G.nl) a=T a:=fun a q=>if_neg q
 generalize dq T h2.objs.size (.list G.nl)=T3 at*
 have x4:Ext T3 T3 h3 h4:=⟨fun _ _ e=>e,fun _ _ e=> .inl e,fun b o _ e=>k34 b o e⟩
 have R4:Rep C P T3 (G.newL []) h4:=R3.xC x4 fun a t e=>(R3.there e).elim fun o ho=>(k34 _ _ ho).trans ho.symm
 have x04:Ext T T3 s.heap h4:=(x2.trans y3).trans x4
 have hsL:s.heap.objs.size<=h3.objs.size:=by rw[hsz3];exact aL (Nat.le_of_lt (Nat.lt_of_le_of_lt hit hit2))
 have hLT:T3 h3.objs.size=none:=(tn _ (by rw[hsz3];exact Nat.succ_ne_self _)).trans (R.free hsL)
 have hLB:C.base.get? h3.objs.size=none:=R.dj hsL
 have F4:=nq S F R hsL (fun b o e=>k34 _ _ (k3 _ _ (k2 b o e))) hns R4 x04 hLT hLB
 have hitT4:T3 it=none:=(tn _ (aj hit2)).trans hitT
 have hitO:¬Own (compEnvC scc (m8 env.cells scc.names []) h3.objs.size env) it:=fun w=>(vo S F w).elim (fun e=>absurd hit2 (by rw[e,hsz3];exact Nat.not_lt.mpr (Nat.le_succ _))) fun e=>tl F hit e
 have hn:∀y,(fun y=>if y=x then none else ρ y) y=none\/(fun y=>if y=x then none else ρ y) y=ρ y:=fun y=>if q:y=x then .inl (if_pos q) else .inr (if_neg q)
 have st4:=qw (ev:=compEnvC scc (m8 env.cells scc.names []) h3.objs.size env) (px:=px) (pit:=pit) (pos:=pos) (RR:=RR (.ref h2.objs.size) h3.objs.size) (tk4:=s.toks+([]:List (Str×Value)).length) O hev htst S re rf hl ar hn (fun v=>funext fun y=>if q:y=x then by rw[q,eM,eM] else by rw[cR q,cR q,if_neg q]) (fun v y=>if q:y=x then .inl (if_pos q) else .inr ((if_neg q).trans (cR q).symm)) (R.dj hit) (dp hit) hitO (dp hsL)
  (fun G' hk h' tk T' m x R tD hn hT=>b G' hk _ _ h' tk T' m x R tD hn hT hLB (dp hsL)) ⟨x04,R4,(I.mono hitT y3).mono hitT4 x4,hitT4,tD,F4⟩ he
 exact codeAny_compStart_list st4 (rH ((I.mono hitT y3).mono hitT4 x4) st4)
end
theorem gA{pit:Expr}{env:Env}(h:cu pit=true):∀x,foldedSetIterable pit env x=pure x:=by
 intro x
 rcases pit with _|_|_|_|_|_|_|_|_|_|_|_|_|_|_|_|_|_|_|_|_|_|_|_|_|_|_<;>first|rfl|exact ft h
theorem jQ{l:List (Str×NameKind)}{n:Str}{a:NameKind}(hd:(l.map (·.1)).Nodup)(h:(n,a)∈l):l.lookup n=some a:=by
 induction l with
 |nil=>exact nomatch h
 |cons p r ih=>
  obtain⟨h1,h2⟩:=List.nodup_cons.mp hd
  rw[List.lookup_cons]
  rcases List.mem_cons.mp h with e|e
  ·rw[←e,beq_self_eq_true]
  ·rw[beq_eq_false_iff_ne.mpr fun q:n=p.1=>h1 (show p.1∈r.map (·.1) from q▸List.mem_map_of_mem (f:=(·.1)) e)]
   exact ih h2 e
section
variable{C:Cx}{P:Pg}{sc scc:Scope}{T T':Tm}{G G':Mine.H}{env:Env}{ρ:au}{h h':Heap}{A:Around}{s:Shared}
theorem lZ(O:C.Ok P){n:Nat}(hev:∀m,m<=n->bX C P m)(htst:∀m,m<=n->dG C P m){elt it:E}{x:Nat}{ifs:List E}{kv:V->Mine.H->Prop}(he:aN P (n+1) ρ G (.comp elt x it ifs) kv)
  {pelt pit:Expr}{pifs:List Expr}{px p:Pos}(S:cV sc scc (nm x))(hs:cu pit=true)(hl:pifs.length<=1)(ri:cE sc it pit=true)(re:cE scc elt pelt=true)(rf:hW scc ifs pifs=true)
  (ar:AR 2 A (n+1))(F:bI C sc T env ρ s.heap)(R:Rep C P T G s.heap){use:Option (Value->Sem Unit)}{Q:Value->Shared->Prop}{E:Value->Shared->Prop}{p1:Pos}
  (b:∀v G',kv v G'->∀(T1:Tm) (h1:Heap) (D L:Addr) (h':Heap) (tk:Nat) (T':Tm) (m:Str->Option Value),Ext T T1 s.heap h1->Ext T1 T' h1 h'->Rep C P T' G' h'->VR T' h' v (.ref D)->h'.Ns L m->T' L=none->C.base.get? L=none->h1.get? L=none->
   compPost (model C.prog C.w) A E use Q (.ref D) L (.ok .next) {s with heap:=h',toks:=tk}):
  wpAny (model C.prog C.w) A (comprehension (.ListComp pelt [⟨.Name (nm x) px,pit,pifs,0⟩] scc p) scc env p1 (newList []) false (eval pit env) use) Q E s:=by
 rw[sD] at he
 refine wpAny_comprehension_free rfl (gA hs) (jU (gJ S F)) S.kind (fun y hy hloc=>?_) ?_
 ·obtain⟨a,k⟩:=y
  have hloc:k= .local:=hloc
  subst hloc
  exact jQ S.dis hy
 refine hev n (ab _) he ri ar.dn F R fun iv G1 h2 rv T1 h1' tk1 x1 R1 V1=>?_
 obtain⟨r,hr⟩:∃r,itemAt (G1.newL []) iv 0=some r:=by
  rcases n with _|n
  ·exact h2.elim
  ·exact(db h2).imp fun r hr=>hr.1
 refine fF R1 hr V1 fun ia h2' hia k I=>?_
 exact tN (s:={s with heap:=h1',toks:=tk1}) O hev htst h2 S re rf hl ar.dn (F.mono x1) R1 hia k I fun G' hk D L h' tk T' m x2 R2 hD hn hL hLb hLs=>
  b _ _ hk T1 h1' D L h' tk T' m x1 x2 R2 (.list hD) hn hL hLb hLs
theorem yW{L:Addr}{m}(x:h.Ns L m):gd h L:=⟨fun o ho=>by
 obtain⟨o',es,ep,ho',hd,_⟩:=x
 exact .inr (.inl ⟨_,_,ag (ho'.symm.trans ho)▸hd⟩)⟩
theorem wP(O:C.Ok P){n:Nat}(hev:∀m,m<=n->bX C P m)(htst:∀m,m<=n->dG C P m){elt it:E}{x:Nat}{ifs:List E}{kv:V->Mine.H->Prop}(he:aN P (n+1) ρ G (.comp elt x it ifs) kv)
  {pelt pit:Expr}{pifs:List Expr}{px p:Pos}(hk:oa sc scc (nm x)=true)(hs:cu pit=true)(hl:pifs.length<=1)(ri:cE sc it pit=true)(re:cE scc elt pelt=true)(rf:hW scc ifs pifs=true)
  (ar:AR 2 A (n+1))(F:bI C sc T env ρ s.heap)(R:Rep C P T G s.heap){Q E}(b:jN C P T s kv Q):
  wpAny (model C.prog C.w) A (eval (.ListComp pelt [⟨.Name (nm x) px,pit,pifs,0⟩] scc p) env) Q E s:=by
 rw[eval_ListComp]
 refine lZ O hev htst he (lT hk) hs hl ri re rf ar F R fun v G' hk T1 h1 D L h' tk T' m x1 x2 R2 V2 hn hL hLb hLs=>?_
 refine⟨m,hn,fun h'' hs''=>?_⟩
 have hsf:=yW hn
 exact b _ _ hk _ T' h'' tk (x1.trans (gF x2 hs''.extBut hLs)) (R2.own hs'' hsf hL hLb) (V2.own hs'' hsf)
end
set_option tactic.hygienic true
section
variable{C:Cx}{P:Pg}{n:Nat}
theorem yJ(O:C.Ok P)(hev:∀m,m<=n->bX C P m)(hevs:∀m,m<=n->dF C P m)(hB:pA C P n)(htst:∀m,m<=n->dG C P m)(hcal:∀m,m<=n->ib C P m):bX C P (n+1):=by
 intro sc ρ G e k he pe T env A s hr a F R Q E b
 have ih:bX C P n:=hev n (ab _)
 have ihs:dF C P n:=hevs n (ab _)
 rcases e with _|_|_|_|_|_|_|_|_|_|_|_|_|_|_|_|_|_|_|_|_|_|_|_|_|_|_
 case none=>
  refine cx (M:=GE C A env Q E s) hr fun c j p h=>?_
  rw[ao h]
  exact Constant_none ((b _ _ he).now R .none)
 case bool x=>
  refine cx (M:=GE C A env Q E s) hr fun c j p h=>?_
  rw[ao h]
  exact Constant_bool ((b _ _ he).now R .bool)
 case int x=>
  refine cx (M:=GE C A env Q E s) hr fun c j p h=>?_
  rw[ao h]
  exact wpAny_Constant_int ((b _ _ he).now R .int)
 case str x=>
  refine cx (M:=GE C A env Q E s) hr fun c j p h=>?_
  rw[ao h]
  exact wpAny_Constant_str ((b _ _ he).now R .str)
 case var x=>
  refine cZ (M:=GE C A env Q E s) hr fun c p h=>?_
  have e:=seq_eq (aa h).1
  rw[e]
  obtain⟨v,hv,hk⟩:=db he
  exact wpAny_Name (ta F (e▸(aa h).2) hv fun rv V=>(b _ _ hk).now R V) gu
 case glob x=>
  refine cZ (M:=GE C A env Q E s) hr fun c p h=>?_
  rw[seq_eq (aa h).1]
  obtain⟨v,hv,hk⟩:=db he
  obtain⟨rv,g1,g2⟩:=O.cst x v hv
  exact wpAny_Name (gR O F R (seq_eq (aa h).1▸(aa h).2) g1 ((b _ _ hk).now R (g2 T _ (fun a o e=>R.old e) R.keep))) gu
 case attr e x=>
  refine k5 (M:=GE C A env Q E s) hr fun y c p h=>?_
  rw[seq_eq (aa (aa h).1).1]
  exact xw O ih he (aa h).2 (aa (aa h).1).2 a F R b
 case bop o x y=>
  refine vi (M:=GE C A env Q E s) hr fun px q py p h=>?_
  obtain rfl:=ao (aa (aa h).1).1
  dsimp only[mG] at he
  refine wpAny_BinOp (ih he (aa (aa h).1).2 a.dn F R fun v1 G1 e1 rx T1 h1' tk1 x1 R1 V1=>ih e1 (aa h).2 a.dn (F.mono x1) R1 fun v2 G2 e2 ry T2 h2' tk2 x2 R2 V2=>?_)
  obtain⟨v,G3,e3,e4⟩:=gf e2
  exact Iv R2 e3 (V1.mono x2) V2 (fun i a' hx hra hT hl Q E b=>by subst hra;exact xL R2 hT hl V2 b) ((b _ _ e4).of (x1.trans x2))
 case neg e=>
  refine mY (M:=GE C A env Q E s) hr fun y p h=>?_
  dsimp only[Hx] at he
  refine UnaryOp_ (ih he h a.dn F R fun v1 G1 e1 rx T1 h1' tk1 x1 R1 V1=>?_)
  obtain⟨v,e2,e3⟩:=db e1
  rcases v1 with _|_|i|_|_|_|_|_|_|_
  case int=>exact V1.eI (M:=fun rx=>wpAny _ _ (unaryOp .USub rx) Q E _) fun t=>PyProof.Rows.neg_int ((((ag e2).symm▸b _ _ e3:Back C P T s (.int (-i)) G1 Q).of x1).now R1 .int)
  all_goals exact aS e2
 case not e=>
  refine mY (M:=GE C A env Q E s) hr fun y p h=>?_
  dsimp only[w_not] at he
  refine UnaryOp_ (ih he h a.dn F R fun v1 G1 e1 rx T1 h1' tk1 x1 R1 V1=>?_)
  obtain⟨c,rfl,e2⟩:=pw e1
  exact not_of (gg V1 (((b _ _ e2).of (tk:=tk1) x1).now (tk:=tk1) R1 .bool))
 case bool2 c es=>
  refine jY (M:=GE C A env Q E s) hr fun y p h=>?_
  exact hB he h a.dn F R b
 case cmp x o y=>
  refine sP (M:=GE C A env Q E s) hr fun px q py p1 h1=>?_
  obtain rfl:=ao (aa (aa (aa h1).1).1).1
  exact A4 (nv O) ih he (aa (aa h1).1).2 (aa h1).2 (aa (aa (aa h1).1).1).2 a F R b
 case cmp2 x o y o' z=>
  refine pR (M:=GE C A env Q E s) hr fun px q py q' pz p1 h1=>?_
  obtain rfl:=ao (aa (aa (aa (aa (aa h1).1).1).1).1).1
  obtain rfl:=ao (aa (aa (aa (aa (aa h1).1).1).1).1).2
  exact wq (nv O) ih he (aa (aa (aa h1).1).1).2 (aa (aa h1).1).2 (aa h1).2 (aa (aa (aa (aa h1).1).1).1).2 a F R b
 case ite t x y=>
  refine zW (M:=GE C A env Q E s) hr fun pt px py p1 h1=>?_
  dsimp only[w_ite] at he
  refine IfExp_ (htst n (ab _) he (aa (aa h1).1).1 a.dn F R fun c G1 e2 T1 h1' tk1 x1 R1=>?_)
  rcases c with _|_
  ·exact ih e2 (aa h1).2 a.dn (F.mono x1) R1 (b.of x1)
  ·exact ih e2 (aa (aa h1).1).2 a.dn (F.mono x1) R1 (b.of x1)
 case list es=>
  refine o4 (M:=GE C A env Q E s) hr fun y p h=>?_
  exact wX ihs he (ao (aa h).1) (aa h).2 a F R b
 case tup es=>
  refine lM (M:=GE C A env Q E s) hr fun y j p h=>?_
  exact DA ihs he (ao (aa h).1) (aa h).2 a F R b
 case comp elt x it ifs=>
  refine lA (M:=GE C A env Q E s) hr fun y c px pit pifs scc p h=>?_
  rw[seq_eq (aa (aa (aa (aa (aa (aa h).1).1).1).1).1).1]
  exact wP O hev htst he (seq_eq (aa (aa (aa (aa (aa (aa h).1).1).1).1).1).1▸(aa (aa (aa (aa (aa (aa h).1).1).1).1).1).2) (aa (aa (aa (aa (aa h).1).1).1).1).2 (ao (aa (aa (aa (aa h).1).1).1).2) (aa (aa (aa h).1).1).2 (aa (aa h).1).2 (aa h).2 a F R b
 case sub e i=>
  refine nM (M:=GE C A env Q E s) hr fun x y p h1 h=>?_
  exact AI ih he h1 (aa h).1 (aa h).2 a F R b
 case slice e lo hi=>
  refine i0 (M:=GE C A env Q E s) hr fun x y z ps p h=>?_
  exact vv ih he (aa (aa h).1).1 (aa (aa h).1).2 (aa h).2 a F R b
 case rev e=>
  refine va (M:=GE C A env Q E s) hr fun x j p1 p2 ps p h=>?_
  exact Ei ih he h a F R b
 case call f args=>
  refine d7 (M:=GE C A env Q E s) hr fun c p1 es p h=>?_
  rw[seq_eq (aa (aa (aa (aa h).1).1).1).2]
  exact xn O ihs (hcal n (ab _)) he (aa (aa (aa (aa h).1).1).1).1 (seq_eq (aa (aa (aa (aa h).1).1).1).2▸(aa (aa (aa h).1).1).2) (aa h).2 a F R b
 case new f args=>
  refine d7 (M:=GE C A env Q E s) hr fun c p1 es p h=>?_
  rw[seq_eq (aa (aa (aa (aa h).1).1).1).2]
  exact Cp O ihs (hcal n (ab _)) he (aa (aa (aa (aa h).1).1).1).1 (seq_eq (aa (aa (aa (aa h).1).1).1).2▸(aa (aa (aa h).1).1).2) (aa h).2 a F R b
 case meth e m args=>
  refine pQ (M:=GE C A env Q E s) hr fun x c ap es p hp h=>?_
  rw[seq_eq (aa (aa (aa (aa h).1).1).1).1]
  exact wk O ih hevs hcal he (aa (aa (aa (aa h).1).1).1).2 hp (ao (aa (aa (aa h).1).1).2) (aa (aa h).1).2 (aa h).2 a F R b
 case blt bi args=>
  refine d7 (M:=GE C A env Q E s) hr fun c p1 es p h=>?_
  rw[seq_eq (aa (aa (aa h).1).1).1]
  exact BM O ihs he (seq_eq (aa (aa (aa h).1).1).1▸(aa (aa (aa h).1).1).2) (aa h).2 a F R b
 case isB e=>
  refine tH (M:=GE C A env Q E s) hr fun c p1 x c2 p2 p h=>?_
  rw[seq_eq (aa (aa (aa (aa h).1).1).1).1]
  rw[seq_eq (aa (aa (aa (aa h).1).1).1).2]
  exact Ee O ih he (seq_eq (aa (aa (aa (aa h).1).1).1).1▸(aa (aa (aa h).1).1).2) (seq_eq (aa (aa (aa (aa h).1).1).1).2▸(aa (aa h).1).2) (aa h).2 a F R b
 case dict0=>
  refine zo (M:=GE C A env Q E s) hr fun x y p h=>?_
  rw[fq (aa h).1,fq (aa h).2,GE,eval_Dict_empty]
  exact wpAny_bind (wpAny_standAt (uc R (b _ _ he)))
 case bad=>exact he.elim
end
set_option tactic.hygienic false
section
variable(C:Cx)(P:Pg)
def iU(n:Nat):Prop:=∀{sc ρ G t v k},bZ P n ρ G t v k->∀{pt T env A s rv},cT sc t pt=true->AR 2 A n->bI C sc T env ρ s.heap->Rep C P T G s.heap->VR T s.heap v rv->
 ∀{Q E},Em C P env sc T s k Q->wpAny (model C.prog C.w) A (assign pt env rv) Q E s
variable{C P}{sc:Scope}{T:Tm}{G:Mine.H}{env:Env}{ρ:au}{h':Heap}{A:Around}{s:Shared}{v:V}{k:au->Mine.H->Prop}{rv:Value}{n:Nat}{Q:Unit->Shared->Prop}{E:Value->Shared->Prop}
theorem xH{x}(he:bZ P (n+1) ρ G (.var x) v k){p}(hv:isVar sc (nm x)=true)(F:bI C sc T env ρ s.heap)(R:Rep C P T G s.heap)(V:VR T s.heap v rv)
  (b:Em C P env sc T s k Q):wpAny (model C.prog C.w) A (assign (.Name (nm x) p) env rv) Q E s:=
 wpAny_assign_Name (store F R V hv fun h' tk x F' R' V' _=>b _ _ he T h' tk x R' F')
theorem uY(O:C.Ok P)(ih:bX C P n){e a}(he:bZ P (n+1) ρ G (.attr e a) v k){pe p}(hr:cE sc e pe=true)(ar:AR 2 A (n+1))(F:bI C sc T env ρ s.heap)(R:Rep C P T G s.heap)(V:VR T s.heap v rv)
  (b:Em C P env sc T s k Q):wpAny (model C.prog C.w) A (assign (.Attribute pe (nm a) p) env rv) Q E s:=by
 rw[dE] at he
 rw[arm_assign_Attribute]
 refine wpAny_bind (wpAny_holding (ih he hr ar.dn F R fun o G1 h1 ro T1 h1' tk1 x1 R1 V1=>?_))
 obtain⟨G2,h2,h3⟩:=db h1
 refine wpAny_bind (wpAny_standAt (wpAny_bind (wpAny_holding (rh (s:={s with heap:=h1',toks:=tk1}) O R1 V1 h2 (V.mono x1) fun h2' tk2 x2 R2=>wpAny_release ?_))))
 exact b _ _ h3 T1 h2' tk2 ((x1.trans x2).toF F) R2 (F.mono (x1.trans x2))
end
set_option tactic.hygienic true
section
variable{C:Cx}{P:Pg}{T:Tm}{G:Mine.H}{h':Heap}{A:Around}{s:Shared}
theorem iP{v:V}{vs:List V}(e:G.seq v=some vs)(k:Nat):itemAt G v k=some vs[k]?:=by
 cases v<;>first|(cases e;done)|(obtain rfl:=ag e;rfl)
theorem pL(hh:A.handled=none){it:Addr}{v:V}{vs:List V}(hT:T it=none)(hb:C.base.get? it=none)(hsq:G.seq v=some vs){E:Value->Shared->Prop}:
  ∀(n k:Nat) (s:Shared) {Q:List Value->Shared->Prop},Rep C P T G s.heap->It T s.heap it v k->k+n<=vs.length->
   (∀h' tk rvs,Heap.ExtBut it s.heap h'->It T h' it v (k+n)->be T h' ((vs.drop k).take n) rvs->Q rvs {s with heap:=h',toks:=tk})->
   wpAny (model C.prog C.w) A (draw (.ref it) n) Q E s
 |0,k,s,Q,R,I,hk,q=>wpAny_pure (q s.heap s.toks [] (fun _ _ _ e=>e) I .nil)
 |n+1,k,s,Q,R,I,hk,q=>by
  have hlt:k<vs.length:=by lia
  have hr:=iP hsq k
  have hg:vs[k]?=some vs[k]:=List.getElem?_eq_getElem hlt
  rw[hg] at hr
  refine wpAny_bind (eX R hh hT hb I hr fun h1 tk1 X=>?_)
  intro rw_ V1 I1
  have R1:=R.but X I.soft hT hb
  refine wpAny_bind (wpAny_holding (pL hh hT hb hsq n (k+1) {s with heap:=h1,toks:=tk1} R1 I1 (by lia) fun h2 tk2 rvs X2 I2 Vs=>?_))
  refine wpAny_pure (q h2 tk2 (rw_::rvs) (fun b o hb e=>X2 b o hb (X b o hb e)) (by rw[show k+(n+1)=k+1+n by lia];exact I2) ?_)
  have hd:vs.drop k=vs[k]::vs.drop (k+1):=by rw[List.drop_eq_getElem_cons hlt]
  rw[hd,List.take_succ_cons]
  exact .cons (V1.but X2 I1.soft) Vs
theorem tU(R:Rep C P T G s.heap){v:V}{vs:List V}{rv:Value}(e:G.seq v=some vs)(V:VR T s.heap v rv){M:Model}{Q:Bool->Shared->Prop}{E}(q:Q false s):wpAny M A (notIterableAtAll rv) Q E s:=by
 cases V<;>try (cases e;done)
 case tup ho hs hn=>
  unfold notIterableAtAll
  exact wpAny_bind (wpAny_specialOf ho.tup.typeIs PySem.F.slot_tuple_iter.lookup (wpAny_pure q))
 case list i a ha=>
  obtain⟨ws,n1,g1,g2,_,hL,g3⟩:=listAt R ha
  unfold notIterableAtAll
  exact wpAny_bind (wpAny_specialOf hL.typeIs slot_list_iter.lookup (wpAny_pure q))
theorem jX(R:Rep C P T G s.heap)(hh:A.handled=none){v:V}{vs:List V}{rv:Value}(e:G.seq v=some vs)(V:VR T s.heap v rv){Q:List Value->Shared->Prop}{E}
  (b:∀rvs h' tk,Ext T T s.heap h'->Rep C P T G h'->be T h' vs rvs->Q rvs {s with heap:=h',toks:=tk}):wpAny (model C.prog C.w) A (unpackItems rv vs.length none) Q E s:=by
 unfold unpackItems
 refine wpAny_bind (tU R e V ?_)
 simp only[Bool.false_eq_true,if_false]
 refine wpAny_bind (wpAny_holding (fF R (iP e 0) V fun it h1 hit k1 I=>?_))
 have hT:=R.free hit
 have hb:=R.dj hit
 have R1:Rep C P T G h1:=de R k1
 refine wpAny_bind (wpAny_holding (pL hh hT hb e vs.length 0 {s with heap:=h1} R1 I (by lia) fun h2 tk2 rvs X2 I2 Vs=>?_))
 rw[List.drop_zero,List.take_length] at Vs
 have hlen:=Vs.length
 rw[if_neg (by lia)]
 have R2:=R1.but X2 I.soft hT hb
 have hnone:itemAt G v (0+vs.length)=some none:=by rw[iP e];simp
 refine wpAny_bind (wpAny_holding (eX (s:={s with heap:=h2,toks:=tk2}) R2 hh hT hb I2 hnone fun h3 tk3 X3=>?_))
 show wpAny _ _ _ _ _ _
 simp only[Option.isSome_none,Bool.false_eq_true,if_false]
 refine wpAny_pure (b rvs h3 tk3 ?_ (R2.but X3 I2.soft hT hb) (Vs.heap fun x=>x.but X3 I2.soft))
 exact gF (gF (cf R k1) X2 (dp hit)) X3 (dp hit)
end
set_option tactic.hygienic false
section
variable{C:Cx}{P:Pg}{sc:Scope}{T:Tm}{G:Mine.H}{env:Env}{h h':Heap}{A:Around}{s:Shared}
theorem u6{E:Value->Shared->Prop}:∀{xs:List Nat} {ps:List Expr} {vs:List V} {rvs:List Value} {ρ ρ':au} {s:Shared},uZ sc xs ps=true->cw ρ xs vs=some ρ'->be T s.heap vs rvs->bI C sc T env ρ s.heap->Rep C P T G s.heap->
  ∀{Q:Unit->Shared->Prop},(∀h' tk,cy env T T s.heap h'->bI C sc T env ρ' h'->Rep C P T G h'->Q () {s with heap:=h',toks:=tk})->
   wpAny (model C.prog C.w) A (assignInOrder ((assignEach ps env).map (·.2)) rvs) Q E s:=by
 intro xs
 induction xs with
 |nil=>
  intro ps vs rvs ρ ρ' s hr hu Vs F R Q q
  cases fq hr
  cases Vs with
  |cons _ _=>cases hu
  |nil=>
   cases hu
   exact wpAny_pure (q s.heap s.toks (cy.refl _ _ _) F R)
 |cons x xs ih=>
  intro ps vs rvs ρ ρ' s hr hu Vs F R Q q
  obtain⟨pe,ps,rfl,hr⟩:=bC hr
  obtain⟨h1,hs⟩:=aa hr
  obtain⟨c,p,rfl,h1⟩:=ly h1
  obtain⟨h,hv⟩:=aa h1
  cases seq_eq h
  cases Vs with
  |nil=>cases hu
  | @cons v vs rv rvs V Vs=>
   show wpAny _ _ (do holding rvs (assign (.Name (nm x) p) env rv);assignInOrder ((assignEach ps env).map (·.2)) rvs) _ _ _
   refine wpAny_bind (wpAny_holding (wpAny_assign_Name (store F R V hv fun h' tk x' F' R' V' hown=>?_)))
   obtain⟨L,_,hsb,hsf,_⟩:=hown
   exact ih (s:={s with heap:=h',toks:=tk}) hs hu (Vs.heap fun z=>z.own hsb hsf) F' R' fun h2 tk2 x2 F2 R2=>q h2 tk2 (x'.trans x2) F2 R2
theorem qY:∀{xs:List Nat} {ps:List Expr},uZ sc xs ps=true->(assignEach ps env).length=xs.length/\(assignEach ps env).findIdx? (·.1)=none:=by
 intro xs
 induction xs with
 |nil=>intro ps hr;cases fq hr;exact⟨rfl,rfl⟩
 |cons x xs ih=>
  intro ps hr
  obtain⟨pe,ps,rfl,hr⟩:=bC hr
  obtain⟨h1,hs⟩:=aa hr
  obtain⟨c,p,rfl,_⟩:=ly h1
  obtain⟨h1,h2⟩:=ih hs
  refine⟨congrArg (· +1) h1,?_⟩
  show((false,assign (.Name c p) env)::assignEach ps env).findIdx? (·.1)=none
  rw[List.findIdx?_cons]
  simp[h2]
theorem fH:∀{xs:List Nat} {vs:List V} {ρ ρ':au},cw ρ xs vs=some ρ'->xs.length=vs.length
 |[],[],_,_,_=>rfl
 |[],_::_,_,_,h=>by simp[cw] at h
 |_::_,[],_,_,h=>by simp[cw] at h
 |_::xs,_::vs,_,_,h=>congrArg (· +1) (fH (by simpa [cw] using h))
theorem yD{n xs v}{ρ:au}{k:au->Mine.H->Prop}(he:bZ P (n+1) ρ G (.tup xs) v k){ps j p rv}(hr:uZ sc xs ps=true)(hh:A.handled=none)(F:bI C sc T env ρ s.heap)(R:Rep C P T G s.heap)(V:VR T s.heap v rv)
  {Q E}(b:Em C P env sc T s k Q):wpAny (model C.prog C.w) A (assign (.Tuple ps j p) env rv) Q E s:=by
 rw[Eh] at he
 obtain⟨vs,q,h1⟩:=db he
 obtain⟨ρ',hu,h2⟩:=db h1
 rw[arm_assign_Tuple]
 obtain⟨e1,e2⟩:=qY (env:=env) hr
 refine wpAny_bind (wpAny_standAt ?_)
 unfold unpack
 rw[e1,e2,fH hu]
 refine wpAny_bind (wpAny_holding (jX R hh q V fun rvs h1 tk1 x1 R1 Vs=>?_))
 exact u6 (s:={s with heap:=h1,toks:=tk1}) hr hu Vs (F.mono x1) R1 fun h2' tk2 x2 F2 R2=>b _ _ h2 T h2' tk2 ((x1.toF F).trans x2) R2 F2
end
section
variable{C:Cx}{P:Pg}{T:Tm}{G:Mine.H}{h':Heap}{A:Around}{s:Shared}
theorem tz(R:Rep C P T G s.heap){a:Addr}{i j:Nat}{k:Int}{t:Tok}{v:V}{rv:Value}(ha:T a=some (.list i))(hj:pP (G.lst i).length k=some j)(h0:0<=k)(V:VR T s.heap v rv){Q:Unit->Shared->Prop}{E}
  (b:∀h',Ext T T s.heap h'->Rep C P T (G.ax i ((G.lst i).set j v)) h'->Q () {s with heap:=h'}):wpAny (model C.prog C.w) A (setItem (.ref a) (.int k t) rv) Q E s:=by
 obtain⟨vs,n1,g1,g2,_,hL,g3⟩:=listAt R ha
 have hlen:=g2.length
 obtain⟨rfl,h1⟩:=lL hj h0
 unfold cap at g3
 have hfit:k<2 ^ 63:=by lia
 unfold setItem
 try with_reducible refine wpAny_holding ?_
 first|refine wpAny_bind (wpAny_pure ?_)|skip
 refine wpAny_bind (wpAny_sequenceKey hL.typeIs (by decide) ?_)
 refine wpAny_bind (wpAny_callSpecial?_slot (name:=Str.ofString "__setitem__") hL.typeIs slot_list_setitem
  (wpAny_call_entry slot_list_setitem hL.typeIs entry_list_setitem ?_ (args_list_setitem _ _ _)))
 show wpAny _ _ (Builtin.List.listSubscript? (.int k t)>>=_) _ _ s
 refine wpAny_bind (wpAny_listSubscript_int (fitsIndex_of h0 hfit) ?_)
 clear hfit
 obtain⟨m,rfl⟩:=Int.eq_ofNat_of_zero_le h0
 have hm:m<vs.length:=by lia
 have hx':(⟨vs⟩:Array Value)[m]?=some vs[m]:=by simp[hm]
 show wpAny _ _ ((seqItemAt a m>>=fun r=>pure (r.map (m, ·)))>>=_) _ _ s
 refine wpAny_bind (wpAny_bind (wpAny_seqItemAt g1 rfl (wpAny_pure ?_)))
 rw[hx']
 show wpAny _ _ (setSeqItemAt a m rv>>=_) _ _ s
 have hs:=Heap.SameBut.update s.heap a (Obj.mapSeq (·.setIfInBounds m rv))
 have hu:=IsL.update g1 (·.setIfInBounds m rv)
 have hd:(⟨vs⟩:Array Value).setIfInBounds m rv=⟨vs.set m rv⟩:=by simp
 rw[hd] at hu
 have fin:=b _ (cX ha hs) (R.iN ha hs hu (be.set V g2 m) (by rw[List.length_set];unfold cap;lia))
 refine wpAny_bind (wpAny_setSeqItemAt g1 rfl ?_)
 first
  |exact wpAny_bind (wpAny_pure (wpAny_pure ⟨.none,rfl,wpAny_pure fin⟩))
  |exact wpAny_pure ⟨.none,rfl,wpAny_pure fin⟩
theorem yj(R:Rep C P T G s.heap){a:Addr}{d:Nat}{k:Int}{t:Tok}{v:V}{rv:Value}(ha:T a=some (.dict d))(h0:0<=k/\k<1000)(V:VR T s.heap v rv){Q:Unit->Shared->Prop}{E}
  (b:∀h' tk,Ext T T s.heap h'->Rep C P T (G.cA d fun j=>if j=k then some v else(G.dct d).1 j) h'->Q () {s with heap:=h',toks:=tk}):wpAny (model C.prog C.w) A (setItem (.ref a) (.int k t) rv) Q E s:=by
 obtain⟨kvs,hm,hk,hf,he,hi⟩:=R.cell _ _ ha
 have hlen:kvs.length<=1000:=lR hm.dictAt.choose_spec.nodup hk
 refine wpAny_setItem_pairs (knd:=intKind C.prog C.w) (k:=k) (by simp[intKind,Value.isInt]) hm (fun h' hm' hs'=>?_) (af hlen (by decide))
 refine b h' _ (cX ha hs') (R.oM ha hs' hm' (fun p hp=>?_) fun j=>?_)
 ·rcases lO hp with e|⟨q,hq,e⟩
  ·rw[e];exact h0
  ·rw[←e];exact hk q hq
 ·by_cases z:j=k
  ·rw[if_pos z,eJ,if_pos z];exact⟨rv,rfl,V⟩
  ·rw[if_neg z,eJ,if_neg z];exact hf j
end
section
variable{C:Cx}{P:Pg}{sc:Scope}{T:Tm}{G G':Mine.H}{env:Env}{ρ:au}{h':Heap}{A:Around}{s:Shared}{v:V}{rv:Value}{n:Nat}
theorem BP(R:Rep C P T G s.heap){o i:V}{ro ri:Value}(hs:FG G o i v=some G')(Vo:VR T s.heap o ro)(Vi:VR T s.heap i ri)(V:VR T s.heap v rv){Q:Unit->Shared->Prop}{E}
  (b:∀h' tk,Ext T T s.heap h'->Rep C P T G' h'->Q () {s with heap:=h',toks:=tk}):wpAny (model C.prog C.w) A (setItem ro ri rv) Q E s:=by
 rcases o with _|_|_|_|_|_|_|l|d|_
 case list=>
  refine Vo.eL (M:=fun ro=>wpAny _ A (setItem ro ri rv) Q E s) fun a ha=>dT hs fun k e h1=>VR.eI (M:=fun ri=>wpAny _ A (setItem (.ref a) ri rv) Q E s) (e▸Vi) fun t=>iD h1 (fun hc h1=>?_) fun _ e=>aS e
  obtain⟨j,hj,e2⟩:=Option.map_eq_some_iff.mp h1
  exact tz R ha hj hc V fun h' x R'=>b h' s.toks x (e2▸R')
 case dict=>
  exact Vo.eD (M:=fun ro=>wpAny _ A (setItem ro ri rv) Q E s) fun a ha=>dT hs fun k e h1=>VR.eI (M:=fun ri=>wpAny _ A (setItem (.ref a) ri rv) Q E s) (e▸Vi) fun t=>iD h1 (fun hc h1=>yj R ha hc V fun h' tk x R'=>b h' tk x (ag h1▸R')) fun _ e=>aS e
 all_goals exact aS hs
theorem wA(ih:bX C P n){e i k}(he:bZ P (n+1) ρ G (.sub e i) v k){pe pi p}(hp:qv pi=true)(hr:cE sc e pe=true)(hi:cE sc i pi=true)(ar:AR 2 A (n+1))(F:bI C sc T env ρ s.heap)(R:Rep C P T G s.heap)(V:VR T s.heap v rv)
  {Q E}(b:Em C P env sc T s k Q):wpAny (model C.prog C.w) A (assign (.Subscript pe pi p) env rv) Q E s:=by
 rw[arm_assign_Subscript]
 refine wpAny_bind (wpAny_holding (ih he hr ar.dn F R fun o G1 h1 ro T1 h1' tk1 x1 R1 V1=>wpAny_bind (wpAny_holding (ih h1 hi ar.dn (F.mono x1) R1 fun j G2 h2 ri T2 h2' tk2 x2 R2 V2=>?_))))
 obtain⟨G3,h3,h4⟩:=db h2
 have x12:=x1.trans x2
 refine wpAny_bind (wpAny_standAt (wpAny_bind (wpAny_holding (BP R2 h3 (V1.mono x2) V2 (V.mono x12) fun h3' tk3 x3 R3=>wpAny_release ?_))))
 exact b _ _ h4 T2 h3' tk3 ((x12.trans x3).toF F) R3 (F.mono (x12.trans x3))
end
section
variable{C:Cx}{P:Pg}{T:Tm}{G:Mine.H}{h':Heap}{A:Around}{s:Shared}
theorem qO(vs ws:List Value)(a b:Nat):
  (⟨vs⟩:Array Value).extract 0 (a:Int).toNat++(⟨ws⟩:Array Value)++(⟨vs⟩:Array Value).extract (max (a:Int) (b:Int)).toNat (⟨vs⟩:Array Value).size=⟨vs.take a++ws++vs.drop (max a b)⟩:=by
 rw[show max (a:Int) (b:Int)=((max a b:Nat):Int) by lia]
 apply Array.ext'
 rw[Array.toList_append,Array.toList_append,Array.toList_extract,Array.toList_extract,List.extract_eq_take_drop,List.extract_eq_take_drop,Int.toNat_natCast,Int.toNat_natCast]
 show vs.take (a - 0)++ws++List.take (vs.length - max a b) (vs.drop (max a b))=_
 rw[Nat.sub_zero,List.take_of_length_le (Nat.le_of_eq List.length_drop)]
theorem iX{M:Model}{A:Around}{Q:Array Value->Shared->Prop}{E}{a:Addr}{us:List Value}{n:Nat}(hg:s.heap.get? a=some ⟨.type "list",none, .seq ⟨us⟩ n, #[]⟩)(q:Q ⟨us⟩ s):wpAny M A (Builtin.List.listItems (.ref a)) Q E s:=
 wpAny_bind (wpAny_seqItems hg rfl (wpAny_pure q))
theorem rM(R:Rep C P T G s.heap){l l2:Addr}{i j:Nat}{sl:Addr}{vl vu:Value}{lo hi:Option Int}{a c:Nat}(ha:T l=some (.list i))(hb:T l2=some (.list j))(hne:i≠j)
  (hs:s.heap.IsSliceOf sl vl vu .none)(pl:IsPart vl lo)(pu:IsPart vu hi)(ea:a=cl (G.lst i).length lo 0)(ec:c=cl (G.lst i).length hi (G.lst i).length)(hz:(G.lst i).length+(G.lst j).length<eg){Q:Unit->Shared->Prop}{E}
  (b:∀h',Ext T T s.heap h'->Rep C P T (G.ax i ((G.lst i).take a++G.lst j++(G.lst i).drop (max a c))) h'->Q () {s with heap:=h'}):
  wpAny (model C.prog C.w) A (setItem (.ref l) (.ref sl) (.ref l2)) Q E s:=by
 obtain⟨vs,n1,g1,g2,_,hL,g3⟩:=listAt R ha
 obtain⟨ws,n2,k1,k2,_,hL2,k3⟩:=listAt R hb
 have hlen:=g2.length
 have hz:vs.length+ws.length<100000:=hlen▸k2.length▸hz
 have hz1:vs.length+ws.length<=2 ^ 24:=af (Nat.le_of_lt hz) (by decide)
 have hv:vs.length<=2 ^ 24:=af (Nat.le_add_right _ _) hz1
 rw[hlen] at ea ec
 have len:(vs.take a++ws++vs.drop (max a c)).length<=vs.length+ws.length+vs.length:=by
  rw[List.length_append,List.length_append]
  exact Nat.add_le_add (Nat.add_le_add (List.length_take_le' _ _) (ab _)) (af (Nat.le_of_eq List.length_drop) (Nat.sub_le _ _))
 obtain⟨os,hos,hcs,hds⟩:=id hs
 have hTs:s.TypeIs (.ref sl) "slice":=⟨os,hos,hcs⟩
 unfold setItem
 with_reducible refine wpAny_holding ?_
 refine wpAny_bind (wpAny_sequenceKey hL.typeIs (by decide) ?_)
 refine wpAny_bind (wpAny_callSpecial?_slot (name:=Str.ofString "__setitem__") hL.typeIs slot_list_setitem
  (wpAny_call_entry slot_list_setitem hL.typeIs entry_list_setitem ?_ (args_list_setitem _ _ _)))
 show wpAny _ _ (Builtin.List.listSubscript? (.ref sl)>>=_) _ _ s
 refine wpAny_bind ?_
 unfold Builtin.List.listSubscript?
 refine wpAny_bind (wpAny_specialOf hTs slice_no_index (wpAny_pure ?_))
 show wpAny _ _ (typeOf (.ref sl)>>=_) _ _ s
 refine wpAny_bind (wpAny_typeOf hTs ?_)
 rw[if_neg (by decide),listSliceParts_eq]
 refine wpAny_bind (wpAny_bind (wpAny_field hos hds rfl (wpAny_bind (wpAny_listPart .none ?_))))
 rw[if_neg (show ¬((rawPart none==rawInt 0)=true) from Bool.false_ne_true)]
 refine wpAny_bind (wpAny_field hos hds rfl (wpAny_bind (wpAny_listPart pl ?_)))
 refine wpAny_bind (wpAny_field hos hds rfl (wpAny_bind (wpAny_listPart pu (wpAny_pure ?_))))
 show wpAny _ _ (if Builtin.List.listSameRef (.ref l) (.ref l2)=true then _ else _) _ _ s
 rw[if_neg (show ¬(Builtin.List.listSameRef (Value.ref l) (Value.ref l2)=true) from fun q=>hne (Tag.list.inj (ag (ha.symm.trans ((ao q:l=l2)▸hb)))))]
 refine wpAny_bind ?_
 unfold Builtin.List.listAllItems
 refine wpAny_bind (wpAny_typeOf hL2.typeIs ?_)
 try simp only[show((Value.type "list"== .type "list")||(Value.type "list"== .type "tuple"))=true from by decide,if_true]
 first
  |refine wpAny_bind (iX k1 (wpAny_pure ?_))
  |refine iX k1 ?_
 refine wpAny_bind (iX g1 ?_)
 show wpAny _ _ (sliceIndices (rawPart lo) (rawPart hi) (rawPart none) vs.length>>=_) _ _ s
 rw[sliceIndices_raw lo hi none _ (fun q=>Hy q.symm),sliceBounds_plain]
 refine wpAny_bind (wpAny_pure ?_)
 show wpAny _ _ (if((1:Int)==1)=true then _ else _) _ _ s
 rw[if_pos (by decide)]
 refine wpAny_bind (wpAny_rule ?_)
 show wpAny _ _ (if Builtin.List.listTooLong (vs.length+ws.length)=true then _ else _) _ _ s
 rw[if_neg (show ¬(Builtin.List.listTooLong (vs.length+ws.length)=true) from fun q=>Nat.not_lt.mpr hz1 (ao q))]
 have key:=qO vs ws a c
 have hu:=IsL.update g1 (fun xs=>xs.extract 0 (a:Int).toNat++(⟨ws⟩:Array Value)++xs.extract (max (a:Int) (c:Int)).toNat xs.size)
 have hs':=Heap.SameBut.update s.heap l (Obj.mapSeq (fun xs=>xs.extract 0 (a:Int).toNat++(⟨ws⟩:Array Value)++xs.extract (max (a:Int) (c:Int)).toNat xs.size))
 rw[key] at hu
 have fin:=b _ (cX ha hs') (R.iN ha hs' hu (((be.take g2 _).append k2).append (be.drop g2 _)) (by
  rw[(((be.take g2 _).append k2).append (be.drop g2 _)).length]
  exact af len (af (Nat.add_le_add (Nat.le_of_lt hz) (af (Nat.le_add_right _ _) (Nat.le_of_lt hz))) (by decide))))
 have sz:(⟨vs.take a++ws++vs.drop (max a c)⟩:Array Value).size<=2 ^ 24+1:=af len (af (Nat.add_le_add (Nat.le_of_lt hz) (af (Nat.le_add_right _ _) (Nat.le_of_lt hz))) (by decide))
 rw[←key] at sz
 subst ea ec
 refine wpAny_bind (wpAny_updateSeq g1 rfl ?_ hv sz)
 exact wpAny_bind (wpAny_letGo (wpAny_pure ⟨.none,rfl,wpAny_pure fin⟩))
end
set_option tactic.hygienic true
section
variable{C:Cx}{P:Pg}{sc:Scope}{T:Tm}{G:Mine.H}{env:Env}{ρ:au}{h:Heap}{A:Around}{s:Shared}{v:V}{rv:Value}{n:Nat}
theorem qA(ih:bX C P n){e lo hi k}(he:bZ P (n+1) ρ G (.slice e lo hi) v k){pe plo phi ps p}(hr:cE sc e pe=true)(hl:cE sc lo plo=true)(hh:cE sc hi phi=true)(ar:AR 2 A (n+1))(F:bI C sc T env ρ s.heap)(R:Rep C P T G s.heap)(V:VR T s.heap v rv)
  {Q E}(b:Em C P env sc T s k Q):wpAny (model C.prog C.w) A (assign (.Subscript pe (.Slice (some plo) (some phi) none ps) p) env rv) Q E s:=by
 dsimp only[mc] at he
 rw[arm_assign_Subscript]
 refine wpAny_bind (wpAny_holding (ih he hr ar.dn F R fun o G1 h1 ro T1 h1' tk1 x1 R1 V1=>wpAny_bind (wpAny_holding (wpAny_Slice ?_))))
 simp only[evalPart_none,evalPart_some]
 refine ih h1 hl ar.dn (F.mono x1) R1 fun i G2 h2 ri T2 h2' tk2 x2 R2 V2=>ih h2 hh ar.dn ((F.mono x1).mono x2) R2 fun u G3 h3 ru T3 h3' tk3 x3 R3 V3=>wpAny_pure ?_
 obtain⟨G4,h4,h5⟩:=db h3
 have x13:=(x1.trans x2).trans x3
 have Vo:=V1.mono (x2.trans x3)
 have Vl:=V2.mono x3
 have Vv:=V.mono x13
 have x0:Ext T3 T3 h3' (h3'.push {cls:= .type "slice",data:= .fields #[ri,ru, .none]}):=bp _
 have R0:Rep C P T3 G3 (h3'.push {cls:= .type "slice",data:= .fields #[ri,ru, .none]}):=R3.push _
 refine wpAny_bind (wpAny_standAt (wpAny_bind (wpAny_holding ?_)))
 refine wy h4 fun l el h6=>wy h6 fun j ej h7=>iD h7 (fun hc h7=>?_) fun _ e=>aS e
 subst el ej
 obtain⟨c1,hc1,h8⟩:=Option.bind_eq_some_iff.mp h7
 obtain⟨c2,hc2,h9⟩:=Option.bind_eq_some_iff.mp h8
 obtain⟨pl,Pl,e1⟩:=e7 hc1 Vl
 obtain⟨pu,Pu,e2⟩:=e7 hc2 V3
 have hS:(h3'.push {cls:= .type "slice",data:= .fields #[ri,ru, .none]}).IsSliceOf h3'.objs.size ri ru .none:=Heap.IsSliceOf.new ..
 generalize h3'.push {cls:= .type "slice",data:= .fields #[ri,ru, .none]}=hp at*
 refine Vo.eL (M:=fun ro=>wpAny _ _ (setItem ro _ rv) _ _ _) fun a ha=>Vv.eL (M:=fun rv=>wpAny _ _ (setItem (.ref a) _ rv) _ _ _) fun a2 ha2=>?_
 refine rM R0 ha ha2 hc.1 hS Pl Pu e1 e2 hc.2 fun h4' x4 R4=>wpAny_release ?_
 exact b _ _ h5 T3 h4' tk3 (((x13.trans x0).trans x4).toF F) (ag h9▸R4) (F.mono ((x13.trans x0).trans x4))
theorem vG(O:C.Ok P)(ih:bX C P n):iU C P (n+1):=by
 intro sc ρ G t v k he pt T env A s rv hr ar F R V Q E b
 rcases t with _|_|_|_|_|_
 case var x=>
  refine cZ (M:=GA C A env rv Q E s) hr fun c p h=>?_
  have e:=seq_eq (aa h).1
  rw[e]
  exact xH he (e▸(aa h).2) F R V b
 case attr e a=>
  refine k5 (M:=GA C A env rv Q E s) hr fun x c p h=>?_
  rw[seq_eq (aa h).1]
  exact uY O ih he (aa h).2 ar F R V b
 case sub e i=>
  refine nM (M:=GA C A env rv Q E s) hr fun x y p h1 h=>?_
  exact wA ih he h1 (aa h).1 (aa h).2 ar F R V b
 case slice e lo hi=>
  refine i0 (M:=GA C A env rv Q E s) hr fun x y z ps p h=>?_
  rcases y with _|y
  ·exact ft (aa (aa h).1).2
  ·rcases z with _|z
   ·exact ft (aa h).2
   ·exact qA ih he (aa (aa h).1).1 (aa (aa h).1).2 (aa h).2 ar F R V b
 case tup xs=>
  refine lM (M:=GA C A env rv Q E s) hr fun ps j p h=>?_
  exact yD he h ar.h F R V b
 case bad=>exact he.elim
end
section
variable{C:Cx}{P:Pg}{sc:Scope}{T T':Tm}{G:Mine.H}{env:Env}{ρ:au}{h h':Heap}{A:Around}{s:Shared}
theorem cy.free(x:cy env T T' h h'){b:Addr}{o:Obj}(hb:T b=none)(ho:h.get? b=some o):T' b=none:=by
 rcases q:T' b with _|t
 ·rfl
 ·exact(x.new b t q).elim (fun e=>aS (hb.symm.trans e)) fun e=>aS (e.1.symm.trans ho)
theorem cy.solid(F:bI C sc T env ρ h)(x:cy env T T' h h')(b:Addr)(o:Obj)(hb:T b=none)(ho:h.get? b=some o)(hs:pS o):T' b=none/\h'.get? b=some o:=⟨x.free hb ho,x.keep b o hb (fun w=>hs.2 (F.mild b o w ho)) ho⟩
theorem It.FD(F:bI C sc T env ρ h){it:Addr}{v:V}{k:Nat}(hT:T it=none)(hO:¬Own env it)(x:It T h it v k)(e:cy env T T' h h'):It T' h' it v k:=by
 induction x with
 |list ha hi=>exact .list (e.sub _ _ ha) (hi.imp fun _ q=>⟨e.keep _ _ hT hO q.1,q.2⟩)
 |tup ha ho2 hs hi=>exact ho2.elim fun n hn=>(e.solid F _ _ ha hn (gS (.inl rfl) rfl)).elim fun a b=> .tup a ⟨n,b⟩ (hs.g e.sub (e.solid F)) (hi.imp fun _ q=>⟨e.keep _ _ hT hO q.1,q.2⟩)
 |range hi=>exact .range (e.keep _ _ hT hO hi)
theorem rZ{pt:Expr}{it:Addr}{v:V}{k:Nat}{rv:Value}(hp:Nat.beq pt.ctorIdx 24=false)(I:It T s.heap it v k){Q:Unit->Shared->Prop}{E}(q:Q () s):wpAny (model C.prog C.w) A (letOwnedTupleGo pt (.ref it) rv) Q E s:=by
 have other:∀{c:String} {b:Bool} {m:Sem Unit},(["enumerate","zip","dict_itemiterator","dict_reverseitemiterator","odict_iterator","itertools.zip_longest","itertools.pairwise"].contains c)=false->wpAny (model C.prog C.w) A (if(["enumerate","zip","dict_itemiterator","dict_reverseitemiterator","odict_iterator","itertools.zip_longest","itertools.pairwise"].contains c&&b)=true then m else pure ()) Q E s:=fun h=>by
  rw[h,Bool.false_and,if_neg Bool.false_ne_true]
  exact wpAny_pure q
 rcases pt with _|_|_|_|_|_|_|_|_|_|_|_|_|_|_|_|_|_|_|_|_|_|_|_|_|_|_
 case List=>exact tf hp
 case Tuple ts tk tp=>
  have fin:∀a,wpAny (model C.prog C.w) A (letOwnedTupleGo (.Tuple ts tk tp) (.ref it) (.ref a)) Q E s:=fun a=>by
   induction I with
   |list ha hi=>exact wpAny_letOwnedTupleGo_listiter hi q
   |tup ha ho hs hi=>
    obtain⟨o,ho,hc,hd⟩:=hi
    unfold letOwnedTupleGo
    refine wpAny_bind (wpAny_load ho ?_)
    rw[hc,hd]
    exact other (by decide)
   |range hi=>
    unfold letOwnedTupleGo
    exact wpAny_bind (wpAny_load hi (other (by decide)))
  rcases rv with _|_|_|_|_|_|_|_|_|_|a<;>first|exact fin a|exact wpAny_pure q
 all_goals exact wpAny_pure q
theorem ko{t:Mine.T}{pt:Expr}(h:cT sc t pt=true)(hb:t≠ .bad):Nat.beq pt.ctorIdx 24=false:=by
 rcases pt with _|_|_|_|_|_|_|_|_|_|_|_|_|_|_|_|_|_|_|_|_|_|_|_|_|_|_
 case List=>rcases t with _|_|_|_|_|_<;>first|exact ft h|exact absurd rfl hb
 all_goals rfl
structure FI(C:Cx)(P:Pg)(sc:Scope)(env:Env)(T:Tm)(h0:Heap)(T':Tm)(ρ:au)(G:Mine.H)(h:Heap):Prop where
 x:cy env T T' h0 h
 F:bI C sc T' env ρ h
 R:Rep C P T' G h
theorem AP{n:Nat}(hasg:∀m,m<=n->iU C P m)(hexs:∀m,m<=n->ik C P m){t:Mine.T}{b:List S}{v:V}{kf:Fl->au->Mine.H->Prop}{pt:Expr}{pb:List Stmt}(ht:cT sc t pt=true)(hb:um sc b pb=true)
  {it:Addr}{k0:Nat}(he:dK P (n+1) ρ G t b v k0 kf)(ar:AR 1 A (n+1)){h0:Heap}{tk0:Nat}(x0:cy env T T' s.heap h0)(hnew:s.heap.get? it=none)(F:bI C sc T' env ρ h0)(R:Rep C P T' G h0)(I:It T' h0 it v k0)(hT:T' it=none)(hO:¬Own env it)(hbase:C.base.get? it=none)
  {R0:Result->Shared->Prop}(bk:CF C P env sc T s kf fun fl s'=>R0 (.ok fl) s'):codeAny (model C.prog C.w) A (.forLoop pt (.ref it) pb [] env) R0 {s with heap:=h0,toks:=tk0}:=by
 refine codeAny_forLoop_any (fun m s1=>m<=n+1/\∃T1 ρ1 G1 k h1 tk,s1={s with heap:=h1,toks:=tk}/\dK P m ρ1 G1 t b v k kf/\FI C P sc env T s.heap T1 ρ1 G1 h1/\It T1 h1 it v k/\T1 it=none)
  (fun m s1 hI=>?_) (n+1) ⟨ab _,T',ρ,G,k0,h0,tk0,rfl,he,⟨x0,F,R⟩,I,hT⟩
 obtain⟨hm,T1,ρ1,G1,k,h1,tk,rfl,he1,f,I1,hT1⟩:=hI
 rcases m with _|m
 ·exact he1.elim
 have hm:=bG hm
 have am:AR 0 A m:=ar.lower (aL (aL hm))
 obtain⟨r,hr,he2⟩:=db he1
 refine eX (s:={s with heap:=h1,toks:=tk}) f.R ar.h hT1 hbase I1 hr fun h2 tk2 X=>?_
 have hso:=I1.soft
 have F2:=f.F.but X hso hO
 have R2:=f.R.but X hso hT1 hbase
 have x2:cy env T T1 s.heap h2:=⟨f.x.sub,f.x.new,fun b o hb hw ho=>X b o (fun q=>aS (hnew.symm.trans (q▸ho:s.heap.get? it=some o))) (f.x.keep b o hb hw ho)⟩
 rcases r with _|w
 ·exact wpAny_execs_nil (bk _ _ _ he2 _ T1 h2 tk2 x2 R2 F2 rfl)
 ·intro rw_ V2 I2
  have htb:t≠ .bad:=fun q=>by
   rw[q] at he2
   rcases m with _|m<;>exact he2.elim
  refine rZ (ko ht htb) (s:={s with heap:=h2,toks:=tk2}) I2 (hasg m hm he2 ht (ar.lower (Nat.succ_le_succ (Nat.succ_le_succ hm))) F2 R2 V2 fun ρ3 G3 h3 T3 h3' tk3 x3 R3 F3=>?_)
  refine hexs m hm h3 hb am F3 R3 fun f4 ρ4 G4 h5 fl T4 h4' tk4 x4 R4 F4 hfl=>?_
  have x34:=x3.trans x4
  rcases f4 with _|v
  ·rw[hfl]
   exact⟨m,aE _,aL hm,T4,ρ4,G4,k+1,h4',tk4,rfl,h5,⟨x2.trans x34,F4,R4⟩,I2.FD F2 hT1 hO x34,I2.there.elim fun _ ho=>x34.free hT1 ho⟩
  ·obtain⟨rv,e,V⟩:=hfl
   exact e.symm▸bk _ _ _ h5 _ T4 h4' tk4 (x2.trans x34) R4 F4 ⟨rv,rfl,V⟩
theorem Bm{n:Nat}(htst:∀m,m<=n->dG C P m)(hexs:∀m,m<=n->ik C P m){t:Mine.E}{b:List S}{kf:Fl->au->Mine.H->Prop}{pt:Expr}{pb:List Stmt}(ht:cE sc t pt=true)(hb:um sc b pb=true)
  (he:fi P (n+1) ρ G t b kf)(ar:AR 1 A (n+1))(F:bI C sc T env ρ s.heap)(R:Rep C P T G s.heap)
  {R0:Result->Shared->Prop}(bk:CF C P env sc T s kf fun fl s'=>R0 (.ok fl) s'):codeAny (model C.prog C.w) A (.whileLoop pt pb [] env) R0 s:=by
 refine codeAny_whileLoop (fun m s1=>m<=n+1/\∃T1 ρ1 G1 h1 tk,s1={s with heap:=h1,toks:=tk}/\fi P m ρ1 G1 t b kf/\FI C P sc env T s.heap T1 ρ1 G1 h1)
  (fun m s1 hI=>?_) (n+1) ⟨ab _,T,ρ,G,s.heap,s.toks,rfl,he,cy.refl _ _ _,F,R⟩
 obtain⟨hm,T1,ρ1,G1,h1,tk,rfl,he1,f⟩:=hI
 rcases m with _|m
 ·exact he1.elim
 have hm:=bG hm
 refine htst m hm (show cC P m ρ1 G1 t fun c h=>fork c (aC P m ρ1 h b fun f ρ h=>goes f (fun v=>kf (.ret v) ρ h) (fi P m ρ h t b kf)) (kf .next ρ1 h) from he1) ht (ar.lower (Nat.succ_le_succ (Nat.succ_le_succ hm))) f.F f.R fun c G2 h2 T2 h2' tk2 x2 R2=>?_
 have F2:=f.F.mono x2
 have x12:=f.x.trans (x2.toF f.F)
 rcases c with _|_
 ·exact wpAny_execs_nil (bk _ _ _ h2 _ T2 h2' tk2 x12 R2 F2 rfl)
 ·refine hexs m hm h2 hb (ar.lower (aL (aL hm))) F2 R2 fun f4 ρ4 G4 h5 fl T4 h4' tk4 x4 R4 F4 hfl=>?_
  rcases f4 with _|v
  ·rw[hfl]
   exact⟨m,aE _,aL hm,T4,ρ4,G4,h4',tk4,rfl,h5,x12.trans x4,F4,R4⟩
  ·obtain⟨rv,e,V⟩:=hfl
   exact e.symm▸bk _ _ _ h5 _ T4 h4' tk4 (x12.trans x4) R4 F4 ⟨rv,rfl,V⟩
end
set_option tactic.hygienic false
section
variable{C:Cx}{P:Pg}{sc scc:Scope}{T T':Tm}{G:Mine.H}{env:Env}{ρ:au}{h h':Heap}{A:Around}{s:Shared}
theorem uB{pe:Expr}(hd:(Nat.beq pe.ctorIdx 9||Nat.beq pe.ctorIdx 10)=false)(pt:Expr)(line:Nat):
  swapsWith pe (some pt) line env=pure false\/(swapsWith pe (some pt) line env=pure true/\(∃elt gens scc p,pe= .ListComp elt gens scc p)):=by
 rcases pe with _|_|_|_|_|_|_|_|_|_|_|_|_|_|_|_|_|_|_|_|_|_|_|_|_|_|_
 case ListComp=>
  have hB:∀(a:Expr) (g:List Comprehension) (sx:Scope) (p:Pos),∃B:Bool,swapsWith (.ListComp a g sx p) (some pt) line env=pure B:=fun _ _ _ _=>by
   rcases pt with _|_|_|_|_|_|_|_|_|_|_|_|_|_|_|_|_|_|_|_|_|_|_|_|_|_|_<;>exact⟨_,rfl⟩
  obtain⟨B,hB⟩:=hB _ _ _ _
  rw[hB]
  rcases B with _|_
  ·exact .inl rfl
  ·exact .inr ⟨rfl,⟨_,_,_,_,rfl⟩⟩
 all_goals first|exact .inl rfl|exact tf hd
theorem DQ{e:Mine.E}{a g s1 p}(h:cE sc e (.ListComp a g s1 p)=true)(hb:e≠ .bad):∃elt x it ifs,e= .comp elt x it ifs:=by
 rcases e with _|_|_|_|_|_|_|_|_|_|_|_|_|_|_|_|_|_|_|_|_|_|_|_|_|_|_<;>first|exact ft h|exact⟨_,_,_,_,rfl⟩|exact absurd rfl hb
theorem Cj{e:Mine.E}{pe:Expr}(h:cE sc e pe=true)(hb:e≠ .bad):(Nat.beq pe.ctorIdx 9||Nat.beq pe.ctorIdx 10)=false:=by
 rcases pe with _|_|_|_|_|_|_|_|_|_|_|_|_|_|_|_|_|_|_|_|_|_|_|_|_|_|_
 case SetComp|DictComp=>rcases e with _|_|_|_|_|_|_|_|_|_|_|_|_|_|_|_|_|_|_|_|_|_|_|_|_|_|_<;>first|exact ft h|exact absurd rfl hb
 all_goals rfl
theorem tM(O:C.Ok P){n:Nat}(hev:∀m,m<=n->bX C P m)(htst:∀m,m<=n->dG C P m)(hasg:iU C P (n+1)){e:Mine.E}{t:Mine.T}{k:au->Mine.H->Prop}(he:aN P (n+1) ρ G e fun v h=>bZ P (n+1) ρ h t v k)
  {pelt:Expr}{gens:List Comprehension}{p:Pos}{pt:Expr}(hr:cE sc e (.ListComp pelt gens scc p)=true)(hb:e≠ .bad)(ht:cT sc t pt=true)
  (ar:AR 2 A (n+1))(F:bI C sc T env ρ s.heap)(R:Rep C P T G s.heap){Q:Unit->Shared->Prop}{E:Value->Shared->Prop}(b:Em C P env sc T s k Q):
  wpAny (model C.prog C.w) A (evalThenUse (.ListComp pelt gens scc p) env fun v=>assignAll v [assign pt env]) Q E s:=by
 obtain⟨elt,x,it,ifs,rfl⟩:=DQ hr hb
 obtain⟨y,c,px,pit,pifs,scc',p',heq,h⟩:=wS hr
 obtain⟨rfl,rfl,rfl,rfl⟩:=Expr.ListComp.inj heq
 obtain⟨h,h7⟩:=aa h
 obtain⟨h,h6⟩:=aa h
 obtain⟨h,h5⟩:=aa h
 obtain⟨h,h4⟩:=aa h
 obtain⟨h,h3⟩:=aa h
 obtain⟨h1,h2⟩:=aa h
 obtain rfl:=seq_eq h1
 show wpAny _ _ (do let _ ←comprehension (.ListComp _ [⟨.Name (nm _) _,_,_,0⟩] scc p) scc env _ (newList []) false (eval _ env) (some fun v=>assign pt env v)) _ _ s
 refine wpAny_bind ?_
 refine wpAny_mono (lZ (Q:=fun _ s'=>Q () s') O hev htst he (lT h2) h3 (ao h4) h5 h6 h7 ar F R fun v G1 ha T1 h1 D L h' tk T' m x1 x2 R2 V2 hn hL hLb hLs=>?_) (fun _ s' hq=>wpAny_pure hq) fun _ _ e=>e
 have F2:=F.mono (x1.trans x2)
 have hLo:¬Own env L:=fun w=>by
  obtain⟨o,ho⟩:=(F.mono x1).there L w
  exact aS (hLs.symm.trans ho)
 show wpAny _ _ (assign pt env (.ref D)) _ _ _
 refine hasg ha ht ar F2 R2 V2 fun ρ3 G3 hk T3 h3 tk3 x3 R3 F3=>?_
 obtain⟨o,es,ep,ho,hd,hn'⟩:=hn
 have ho3:=x3.keep L o hL hLo ho
 refine⟨m,⟨o,es,ep,ho3,hd,hn'⟩,fun h4 hs4=>?_⟩
 have hsf:gd h3 L:=⟨fun o' ho'=> .inr (.inl ⟨_,_,ag (ho3.symm.trans ho')▸hd⟩)⟩
 have hT3:T3 L=none:=x3.free hL ho
 refine b _ _ hk T3 h4 tk3 ?_ (R3.own hs4 hsf hT3 hLb) (F3.but hs4.extBut hsf hLo)
 have x13:=((x1.trans x2).toF F).trans x3
 refine⟨x13.sub,x13.new,fun c oc hc hw hoc=>?_⟩
 refine(hs4.2 c fun q=>?_).trans (x13.keep c oc hc hw hoc)
 exact aS (hLs.symm.trans (q▸x1.keep c oc hc hoc:h1.get? L=some oc))
end
section
variable{C:Cx}{P:Pg}{sc:Scope}{T:Tm}{G:Mine.H}{env:Env}{ρ:au}{h h':Heap}{A:Around}{s:Shared}
theorem o9{α:Type}[BEq α][LawfulBEq α]:∀(n:Nat) (l:List α),l.length<=n->l.eraseDups.length<=l.length
 |_,[],_=>ab _
 |n+1,a::l,h=>by
  rw[List.eraseDups_cons]
  have h1:=List.length_filter_le (fun b=> !b==a) l
  exact Nat.succ_le_succ (af (o9 n (l.filter fun b=> !b==a) (af h1 (bG h))) h1)
theorem jG{α:Type}[BEq α][LawfulBEq α]:∀(l:List α),l.eraseDups.length=l.length->l.Nodup
 |[],_=>List.Pairwise.nil
 |a::l,h=>by
  rw[List.eraseDups_cons] at h
  have h:=Nat.succ.inj h
  have h3:(l.filter fun b=> !b==a).length=l.length:=Nat.le_antisymm (List.length_filter_le _ l) (h▸o9 _ (l.filter fun b=> !b==a) (ab _))
  have h5:=List.length_filter_eq_length_iff.mp h3
  rw[List.filter_eq_self.mpr h5] at h
  exact List.nodup_cons.mpr ⟨fun hm=>ft ((congrArg not (beq_self_eq_true a)).symm.trans (h5 a hm)),jG l h⟩
noncomputable def nameAt(env:Env)(line:Nat):Expr->Option Str
 | .Name id pos=>if env.kindOf id==some .local&&pos.line==line then some id else none
 |_=>none
theorem mu{x:Nat}{xs:List Nat}{l:List Expr}(h:uZ sc (x::xs) l=true):∃c p ps,l= .Name (nm x) p::ps/\c=nm x/\isVar sc (nm x)=true/\uZ sc xs ps=true:=by
 obtain⟨pe,ps,e,hr⟩:=bC h
 obtain⟨c,p,e2,h1⟩:=ly (aa hr).1
 have ec:=seq_eq (aa h1).1
 exact⟨c,p,ps,by rw[e,e2,ec],ec,ec▸(aa h1).2,(aa hr).2⟩
theorem lX{line:Nat}:∀{xs:List Nat} {ps:List Expr},uZ sc xs ps=true->(ps.filterMap (nameAt env line)).length=ps.length->ps.filterMap (nameAt env line)=xs.map nm/\ps.length=xs.length
 |[],_,hr,_=>by rw[fq hr];exact⟨rfl,rfl⟩
 |x::xs,_,hr,e=>by
  obtain⟨c,p,ps,e1,_,_,hs⟩:=mu hr
  rw[e1,List.filterMap_cons] at e
  rw[e1,List.filterMap_cons]
  rcases q:nameAt env line (.Name (nm x) p) with _|z
  ·rw[q] at e
   exact absurd (e▸List.length_filterMap_le (nameAt env line) ps) (Nat.not_succ_le_self _)
  ·rw[q] at e
   have hz:nm x=z:=iD q (fun _ e=>ag e) fun _ e=>aS e
   obtain⟨e1,e2⟩:=lX hs (Nat.succ.inj e)
   exact⟨by rw[e1,←hz];rfl,congrArg Nat.succ e2⟩
theorem kY{α β:Type}{f:α->β}{l:List α}(h:(l.map f).Nodup):l.Nodup:=(List.pairwise_map.mp h).imp fun q e=>q (congrArg f e)
theorem ky:∀{xs:List Nat} {ps:List Expr},uZ sc xs ps=true->∀x∈xs,isVar sc (nm x)=true
 |[],_,_,x,hx=>nomatch hx
 |y::xs,_,hr,x,hx=>by
  obtain⟨c,p,ps,_,_,h3,hs⟩:=mu hr
  exact(List.mem_cons.mp hx).elim (fun e=>e▸h3) (ky hs x)
theorem yI{α:Type _}{c:Prop}[Decidable c]{a b z w:α}{R:Prop}(h1:a=z)(h2:¬c->b=z\/(R/\b=w)):(if c then a else b)=z\/(R/\(if c then a else b)=w):=
 if q:c then .inl ((if_pos q).trans h1) else(h2 q).imp (if_neg q).trans fun r=>⟨r.1,(if_neg q).trans r.2⟩
theorem lW{xs:List Nat}{ps es:List Expr}{k p k' p'}(hr:uZ sc xs ps=true)(ho:(es.all (constantsAlone 8))=false):
  swappedStores [.Tuple ps k p] (.Tuple es k' p') env=pure none\/((xs.length=2\/xs.length=3)/\xs.Nodup/\swappedStores [.Tuple ps k p] (.Tuple es k' p') env=pure (some (xs.map nm))):=by
 refine Or.imp id (fun q=>⟨q.1.1,q.1.2,q.2⟩) (?_:_\/(((xs.length=2\/xs.length=3)/\xs.Nodup)/\_))
 unfold swappedStores
 show(if(_:Bool)=true then _ else _)=_\/_/\(if(_:Bool)=true then _ else _)=_
 refine yI rfl fun h1=>?_
 show(if(_:Bool)=true then _ else _)=_\/_/\(if(_:Bool)=true then _ else _)=_
 refine yI rfl fun h2=>?_
 show(if(_:Bool)=true then _ else _)=_\/_/\(if(_:Bool)=true then _ else _)=_
 refine yI rfl fun h3=>?_
 show(if(_:Bool)=true then _ else _)=_\/_/\(if(_:Bool)=true then _ else _)=_
 refine yI rfl fun h4=>?_
 rw[if_neg (by rw[ho];exact Bool.false_ne_true)]
 have nb:∀{a b:Nat},(a != b)=false->a=b:=fun {a b} q=>beq_iff_eq.mp (by
  rcases z:a==b with _|_
  ·rw[show(a != b)= !(a==b) from rfl,z] at q;exact tf q
  ·rfl)
 have or0:∀{a b:Bool},¬((a||b)=true)->a=false/\b=false:=fun {a b} q=>Bool.or_eq_false_iff.mp (Bool.eq_false_iff.mpr q)
 have h11:=(or0 h1).1
 have h1:=(Bool.or_eq_false_iff.mp h11).1
 have key:∀f:Expr->Option Str,(∀x,f x=nameAt env ((ps.head?.map (·.pos.line)).getD 0) x)->(ps.filterMap f).length=ps.length->(ps.filterMap f).eraseDups.length=(ps.filterMap f).length->
   (((xs.length=2\/xs.length=3)/\xs.Nodup)/\(pure (some (ps.filterMap f)):Sem (Option (List Str)))=pure (some (xs.map nm))):=fun f hf e1 e2=>by
  rw[funext hf] at e1 e2 ⊢
  obtain⟨q1,q2⟩:=lX hr e1
  have q3:=jG _ e2
  rw[q1] at q3
  refine⟨⟨?_,kY q3⟩,by rw[q1]⟩
  rw[←q2]
  rcases z:(ps.length==2||ps.length==3) with _|_
  ·rw[z] at h1;exact tf h1
  ·exact((Bool.or_eq_true _ _).mp z).imp beq_iff_eq.mp beq_iff_eq.mp
 exact .inr (key _ (fun x=>by rcases x with _|_|_|_|_|_|_|_|_|_|_|_|_|_|_|_|_|_|_|_|_|_|_|_|_|_|_<;>rfl) (nb (or0 h3).1) (nb (or0 h3).2))
theorem qP{E:Value->Shared->Prop}:∀{xs:List Nat} {vs:List V} {rvs:List Value} {ρ ρ':au} {s:Shared},(∀x∈xs,isVar sc (nm x)=true)->cw ρ xs vs=some ρ'->be T s.heap vs rvs->bI C sc T env ρ s.heap->Rep C P T G s.heap->
  ∀{Q:Unit->Shared->Prop},(∀h' tk,cy env T T s.heap h'->bI C sc T env ρ' h'->Rep C P T G h'->Q () {s with heap:=h',toks:=tk})->
   wpAny (model C.prog C.w) A (assignInOrder ((xs.map nm).map fun n=>bindName env n) rvs) Q E s:=by
 intro xs
 induction xs with
 |nil=>
  intro vs rvs ρ ρ' s hr hu Vs F R Q q
  rcases vs with _|⟨v,vs⟩
  ·rw[show rvs=[] from Vs.inv]
   exact wpAny_pure (q s.heap s.toks (cy.refl _ _ _) (ag hu▸F) R)
  ·exact aS hu
 |cons x xs ih=>
  intro vs rvs ρ ρ' s hr hu Vs F R Q q
  rcases vs with _|⟨v,vs⟩
  ·exact aS hu
  ·refine Vs.eC (M:=fun rvs=>wpAny _ _ (assignInOrder ((((x::xs).map nm)).map fun n=>bindName env n) rvs) _ _ _) fun rv rvs V Vs=>?_
   show wpAny _ _ (do holding rvs (bindName env (nm x) rv);assignInOrder ((xs.map nm).map fun n=>bindName env n) rvs) _ _ _
   refine wpAny_bind (wpAny_holding (wpAny_bindName (store F R V (hr x bN) fun h' tk x' F' R' V' hown=>?_)))
   obtain⟨L,_,hsb,hsf,_⟩:=hown
   exact ih (s:={s with heap:=h',toks:=tk}) (fun y hy=>hr y (cH _ hy)) hu (Vs.heap fun z=>z.own hsb hsf) F' R' fun h2 tk2 x2 F2 R2=>q h2 tk2 (x'.trans x2) F2 R2
theorem gc{ρ:au}{x y:Nat}{v w:V}(h:x≠y):upd (upd ρ x v) y w=upd (upd ρ y w) x v:=by
 funext z
 by_cases z1:z=x
 ·subst z1;rw[eM,cR h,eM]
 ·rw[cR z1]
  by_cases z2:z=y
  ·subst z2;rw[eM,eM]
  ·rw[cR z2,cR z2,cR z1]
theorem oz{xs:List Nat}{vs:List V}{ρ ρ':au}(hl:xs.length=2\/xs.length=3)(hd:xs.Nodup)(h:cw ρ xs vs=some ρ'):cw ρ xs.reverse vs.reverse=some ρ':=by
 rcases xs with _|⟨x,_|⟨y,_|⟨u,_|⟨z,r⟩⟩⟩⟩
 ·exact absurd hl (show ¬(0=2\/0=3) by decide)
 ·exact absurd hl (show ¬(1=2\/1=3) by decide)
 ·rcases vs with _|⟨v,_|⟨w,_|⟨_,_⟩⟩⟩
  ·exact aS h
  ·exact aS h
  ·have h1:=(List.pairwise_cons.mp hd).1 y bN
   exact(congrArg some (gc h1).symm).trans h
  ·exact aS h
 ·rcases vs with _|⟨v,_|⟨w,_|⟨t,_|⟨_,_⟩⟩⟩⟩
  ·exact aS h
  ·exact aS h
  ·exact aS h
  ·have h1:=(List.pairwise_cons.mp hd).1
   have h3:=(List.pairwise_cons.mp (List.pairwise_cons.mp hd).2).1 u bN
   refine(congrArg some ?_).trans h
   show upd (upd (upd ρ u t) y w) x v=upd (upd (upd ρ x v) y w) u t
   rw[gc h3,gc (h1 u (cH _ bN)),gc (h1 y bN)]
  ·exact aS h
 ·exact hl.elim (fun q=>nomatch q) fun q=>nomatch q
end
section
variable(C:Cx)(P:Pg)
def C0(n:Nat):Prop:=∀{sc ρ G st k},mW P n ρ G st k->∀{ps T env A s},cS sc st ps=true->AR 1 A n->bI C sc T env ρ s.heap->Rep C P T G s.heap->
 ∀{Q E},CF C P env sc T s k Q->wpAny (model C.prog C.w) A (exec ps env) Q E s
variable{C:Cx}{P:Pg}{sc scc:Scope}{T:Tm}{G:Mine.H}{env:Env}{ρ:au}{h:Heap}{A:Around}{s:Shared}
theorem vL(pt pe:Expr)(p:Pos):exec (.Assign [pt] pe p) env=(do
  standAt p
  if ←swapsWith pe (some pt) p.line env then do
   evalThenUse pe env fun v=>assignAll v ((assignEach [pt] env).map (·.2))
   pure .next
  else do
   let v ←eval pe env
   assignStores env v (←swappedStores [pt] pe env) ((assignEach [pt] env).map (·.2))):=rfl
theorem uk{t:Mine.T}{pt:Expr}(hr:cT sc t pt=true)(ht:t≠ .bad):(assignEach [pt] env).map (·.2)=[assign pt env]:=by
 rcases pt with _|_|_|_|_|_|_|_|_|_|_|_|_|_|_|_|_|_|_|_|_|_|_|_|_|_|_
 case Starred=>rcases t with _|_|_|_|_|_<;>first|exact ft hr|exact absurd rfl ht
 all_goals rfl
theorem na{t:Mine.T}{pt pe:Expr}(hr:cT sc t pt=true)(ht:t≠ .bad)(ho:Mu pe=true):
  swappedStores [pt] pe env=pure none\/∃xs ps k p,t= .tup xs/\pt= .Tuple ps k p/\uZ sc xs ps=true/\(xs.length=2\/xs.length=3)/\xs.Nodup/\swappedStores [pt] pe env=pure (some (xs.map nm)):=by
 have hl:=ko hr ht
 rcases pt with _|_|_|_|_|_|_|_|_|_|_|_|_|_|_|_|_|_|_|_|_|_|_|_|_|_|_
 case List=>exact tf hl
 case Tuple=>
  rcases pe with _|_|_|_|_|_|_|_|_|_|_|_|_|_|_|_|_|_|_|_|_|_|_|_|_|_|_
  case Tuple=>
   rcases t with _|_|_|_|xs|_
   case tup=>
    obtain⟨ps,j,p,heq,h⟩:=DB hr
    obtain⟨rfl,rfl,rfl⟩:=Expr.Tuple.inj heq
    exact(lW (env:=env) h ((Bool.not_eq_true' _).mp ho)).imp id fun q=>⟨_,_,_,_,rfl,rfl,h,q⟩
   case bad=>exact absurd rfl ht
   all_goals exact ft hr
  all_goals exact .inl rfl
 all_goals exact .inl rfl
theorem uu(O:C.Ok P){n:Nat}(hev:∀m,m<=n->bX C P m)(htst:∀m,m<=n->dG C P m)(hasg:iU C P n){t:Mine.T}{e:Mine.E}{k:Fl->au->Mine.H->Prop}(he:mW P (n+1) ρ G (.asg t e) k){pt pe:Expr}{p:Pos}(ht:cT sc t pt=true)(hr:cE sc e pe=true)(ho:Mu pe=true)
  (htb:t≠ .bad)(ar:AR 1 A (n+1))(F:bI C sc T env ρ s.heap)(R:Rep C P T G s.heap){Q:Flow->Shared->Prop}{E}(b:CF C P env sc T s k Q):wpAny (model C.prog C.w) A (exec (.Assign [pt] pe p) env) Q E s:=by
 have he:aN P n ρ G e fun v h=>bZ P n ρ h t v fun ρ h=>k .next ρ h:=he
 have heb:e≠ .bad:=fun q=>Gv (q▸he:aN P n ρ G .bad _)
 have an:AR 2 A n:=ar.lower (ab _)
 rw[vL,uk ht htb]
 refine wpAny_bind (wpAny_standAt ?_)
 rcases uB (env:=env) (Cj hr heb) pt p.line with q|⟨q,elt,gens,scc,p',rfl⟩
 ·refine wpAny_bind (wpAny_of_eq q (wpAny_pure ?_))
  show wpAny _ _ (do
   let v ←eval pe env
   assignStores env v (←swappedStores [pt] pe env) [assign pt env]) _ _ _
  refine wpAny_bind (hev n (ab _) he hr an F R fun v G1 h2 rv T1 h1' tk1 x1 R1 V1=>?_)
  have F1:=F.mono x1
  rcases na (env:=env) ht htb ho with q2|⟨xs,ps,j,p',rfl,rfl,hv,hl,hd,q2⟩
  ·refine wpAny_bind (wpAny_of_eq q2 (wpAny_pure ?_))
   show wpAny _ _ (do assign pt env rv;pure Flow.next) _ _ _
   exact wpAny_bind (hasg h2 ht an F1 R1 V1 fun ρ2 G2 hk T2 h2' tk2 x2 R2 F2=>wpAny_pure (b _ _ _ hk _ T2 h2' tk2 ((x1.toF F).trans x2) R2 F2 rfl))
  ·refine wpAny_bind (wpAny_of_eq q2 (wpAny_pure ?_))
   rcases n with _|n
   ·exact h2.elim
   ·obtain⟨vs,q3,h3⟩:=db h2
    obtain⟨ρ3,hu,h4⟩:=db h3
    have hlen:(xs.map nm).length=vs.length:=by rw[ai,fH hu]
    show wpAny _ _ (do
     rule "assign.swapped-stores"
     let items ←unpackItems rv (xs.map nm).length none
     assignInOrder ((xs.map nm).reverse.map fun n=>bindName env n) items.reverse
     pure Flow.next) _ _ _
    rw[hlen]
    refine wpAny_bind (wpAny_rule (wpAny_bind (jX R1 ar.h q3 V1 fun rvs h2' tk2 x2 R2 Vs=>wpAny_bind ?_)))
    rw[←List.map_reverse]
    refine qP (fun x hx=>ky hv x (List.mem_reverse.mp hx)) (oz hl hd hu) Vs.reverse (F1.mono x2) R2 fun h3' tk3 x3 F3 R3=>?_
    exact wpAny_pure (b _ _ _ h4 _ T1 h3' tk3 (((x1.trans x2).toF F).trans x3) R3 F3 rfl)
 ·refine wpAny_bind (wpAny_of_eq q (wpAny_pure ?_))
  show wpAny _ _ (do
   evalThenUse (.ListComp elt gens scc p') env fun v=>assignAll v [assign pt env]
   pure Flow.next) _ _ _
  rcases n with _|n
  ·exact he.elim
  ·refine wpAny_bind (tM O (fun m hm=>hev m (aL hm)) (fun m hm=>htst m (aL hm)) hasg he hr heb ht an F R fun ρ2 G2 hk T2 h2' tk2 x2 R2 F2=>?_)
   exact wpAny_pure (b _ _ _ hk _ T2 h2' tk2 x2 R2 F2 rfl)
end
section
variable{C:Cx}{P:Pg}{sc:Scope}{T:Tm}{G G':Mine.H}{env:Env}{ρ:au}{h:Heap}{A:Around}{s:Shared}
theorem uH{n:Nat}(hev:∀m,m<=n->bX C P m)(hasg:∀m,m<=n->iU C P m)(hexs:∀m,m<=n->ik C P m){t:Mine.T}{it:Mine.E}{b:List S}{k:Fl->au->Mine.H->Prop}(he:mW P (n+1) ρ G (.for t it b) k){pt pit:Expr}{pb:List Stmt}{p:Pos}
  (hn:cu pit=true)(ht:cT sc t pt=true)(hi:cE sc it pit=true)(hb:um sc b pb=true)
  (ar:AR 1 A (n+1))(F:bI C sc T env ρ s.heap)(R:Rep C P T G s.heap){Q:Flow->Shared->Prop}{E}(bk:CF C P env sc T s k Q):wpAny (model C.prog C.w) A (exec (.For pt pit pb [] p) env) Q E s:=by
 refine wpAny_For (hev _ (ab _) (show aN P n ρ G it fun v h=>dK P n ρ h t b v 0 k from he) hi (ar.lower (ab _)) F R fun v G1 h2 rv T1 h1' tk1 x1 R1 V1=>?_) (gA hn)
 rcases n with _|n
 ·exact h2.elim
 ·obtain⟨r,hr,_⟩:=db (pF▸h2)
  refine fF R1 hr V1 fun ia h2' hia k I=>?_
  have F1:=F.mono x1
  have x2:Ext T1 T1 h1' h2':=cf R1 k
  have hsg:s.heap.get? ia=none:=by
   rcases q:s.heap.get? ia with _|o
   ·rfl
   ·rcases q2:T ia with _|tg
    ·exact aS ((dp hia).symm.trans (x1.keep ia o q2 q))
    ·exact aS ((R1.free hia).symm.trans (x1.sub _ _ q2))
  exact AP (tk0:=tk1) (fun m hm=>hasg m (aL hm)) (fun m hm=>hexs m (aL hm)) ht hb h2 (ar.lower (Nat.le_succ _)) ((x1.trans x2).toF F) hsg (F1.mono x2) (de R1 k) I (R1.free hia) (tl F1 hia) (R1.dj hia) bk
theorem rR(F:bI C sc T env ρ h):interactive env=false:=by
 unfold interactive
 rw[F.scope.kind]
 rfl
theorem xj{pe:Expr}(h:sg pe=true)(l:Nat):swapsWith pe none l env=pure false:=by
 rcases pe with _|_|_|_|_|_|_|_|_|_|_|_|_|_|_|_|_|_|_|_|_|_|_|_|_|_|_<;>first|rfl|exact ft h
theorem yS(O:C.Ok P){n:Nat}(hev:∀m,m<=n->bX C P m)(htst:∀m,m<=n->dG C P m)(hasg:∀m,m<=n->iU C P m)(hexs:∀m,m<=n->ik C P m):C0 C P (n+1):=by
 intro sc ρ G st k he ps T env A s hr ar F R Q E b
 have an:AR 2 A n:=ar.lower (ab _)
 rcases st with⟨t,e⟩|e|e|_|⟨t,x,y⟩|⟨t,x⟩|⟨t,it,x⟩|_|_
 ·refine rB (M:=GX C A env Q E s) hr fun ts pe p h=>?_
  obtain⟨h,h3⟩:=aa h
  obtain⟨pt,e2,h3⟩:=vE h3
  rw[e2]
  exact uu O hev htst (hasg n (ab _)) he h3 (aa h).2 (aa h).1 (fun q=>ft (show cT sc .bad pt=true from q▸h3)) ar F R b
 ·refine xY (M:=GX C A env Q E s) hr fun pe p h=>?_
  exact wpAny_Expr_any (hev n (ab _) (show aN P n ρ G e fun _ h=>k .next ρ h from he) (aa h).2 an F R fun v G1 hk rv T1 h1' tk1 x1 R1 V1=>b _ _ _ hk _ T1 h1' tk1 (x1.toF F) R1 (F.mono x1) rfl) (rR F) (xj (aa h).1 _)
 ·refine tV (M:=GX C A env Q E s) hr fun oe p h=>?_
  rcases oe with _|pe
  ·exact ft h
  ·exact wpAny_Return_some (hev n (ab _) (show aN P n ρ G e fun v h=>k (.ret v) ρ h from he) h an F R fun v G1 hk rv T1 h1' tk1 x1 R1 V1=>b _ _ _ hk _ T1 h1' tk1 (x1.toF F) R1 (F.mono x1) ⟨rv,rfl,V1⟩)
 ·refine tV (M:=GX C A env Q E s) hr fun oe p h=>?_
  rw[Option.isNone_iff_eq_none.mp h]
  exact wpAny_Return_none (b _ _ _ he _ T s.heap s.toks (cy.refl _ _ _) R F ⟨_,rfl, .none⟩)
 ·refine HP (M:=GX C A env Q E s) hr fun pt pa pb p h=>?_
  obtain⟨h,h3⟩:=aa h
  refine wpAny_If (htst n (ab _) (show cC P n ρ G t fun c h=>fork c (aC P n ρ h x k) (aC P n ρ h y k) from he) (aa h).1 an F R fun c G1 hc T1 h1' tk1 x1 R1=>?_)
  have bk:CF C P env _ T1 {s with heap:=h1',toks:=tk1} k Q:=fun f ρ' G' hk fl T2 h2' tk2 x2 R2 F2 hf=>b f ρ' G' hk fl T2 h2' tk2 ((x1.toF F).trans x2) R2 F2 hf
  have a0:AR 0 A n:=ar.lower (aL (Nat.le_succ _))
  rcases c with _|_
  ·exact hexs n (ab _) hc h3 a0 (F.mono x1) R1 bk
  ·exact hexs n (ab _) hc (aa h).2 a0 (F.mono x1) R1 bk
 ·refine Hn (M:=GX C A env Q E s) hr fun pt pa pz p h=>?_
  obtain⟨h,h3⟩:=aa h
  rw[fq (aa h).1]
  rcases n with _|n
  ·exact he.elim
  ·exact wpAny_While (Bm (fun m hm=>htst m (aL hm)) (fun m hm=>hexs m (aL hm)) (aa h).2 h3 (show fi P (n+1) ρ G t x k from he) (ar.lower (Nat.le_succ _)) F R b)
 ·refine GQ (M:=GX C A env Q E s) hr fun pt pi pa pz p h=>?_
  obtain⟨h,h5⟩:=aa h
  obtain⟨h,h4⟩:=aa h
  obtain⟨h,h3⟩:=aa h
  rw[fq (aa h).1]
  exact uH hev hasg hexs he (aa h).2 h3 h4 h5 ar F R b
 ·rcases ps with _|_|_|_|_|_|_|_|_|_|_|_|_|_|_|_|_|_|_|_|_|_|_|_|_|_|_|_<;>first|exact ft hr|exact wpAny_Pass (b _ _ _ he _ T s.heap s.toks (cy.refl _ _ _) R F rfl)
 ·exact he.elim
theorem tF{n:Nat}(hex:C0 C P n)(hexs:ik C P n):ik C P (n+1):=by
 intro sc ρ G ss k he pss T env A s hr ar F R Q E b
 rcases ss with _|⟨s1,ss⟩
 ·rw[fq hr]
  exact wpAny_execs_nil (b _ _ _ he _ T s.heap s.toks (cy.refl _ _ _) R F rfl)
 ·obtain⟨p1,pss,e1,h⟩:=bC hr
  rw[e1]
  refine wpAny_execs_cons (hex (show mW P n ρ G s1 fun f ρ h=>goes f (fun v=>k (.ret v) ρ h) (aC P n ρ h ss k) from he) (aa h).1 (ar.lower (ab _)) F R fun f1 ρ1 G1 hk fl T1 h1' tk1 x1 R1 F1 hf=>?_)
  rcases f1 with _|v
  ·exact(show fl= .next from hf).symm▸hexs hk (aa h).2 ar.dn F1 R1 fun f ρ' G' hk fl T2 h2' tk2 x2 R2 F2 hf=>b f ρ' G' hk fl T2 h2' tk2 (x1.trans x2) R2 F2 hf
  ·obtain⟨rv,e,V⟩:=hf
   exact e.symm▸b _ _ _ hk _ T1 h1' tk1 x1 R1 F1 ⟨rv,rfl,V⟩
structure zV(C:Cx)(P:Pg)(n:Nat):Prop where
 ev:bX C P n
 evs:dF C P n
 evB:pA C P n
 tst:dG C P n
 tsts:k8 C P n
 cal:ib C P n
 asg:iU C P n
 ex:C0 C P n
 exs:ik C P n
theorem all_zero:zV C P 0:=⟨fun he=>he.elim,fun he=>he.elim,fun he=>he.elim,fun he=>he.elim,fun he=>he.elim,fun he=>he.elim,fun he=>he.elim,fun he=>he.elim,fun he=>he.elim⟩
theorem oJ(O:C.Ok P):∀n,∀m,m<=n->zV C P m
 |0,m,h=>Nat.le_zero.mp h▸all_zero
 |n+1,m,h=>(Nat.lt_or_ge m (n+1)).elim (fun hl=>oJ O n m (Nat.lt_succ_iff.mp hl)) fun hl=>by
   rw[Nat.le_antisymm h hl]
   have ih:=oJ O n
   have i:=ih n (ab _)
   exact⟨yJ O (fun m hm=>(ih m hm).ev) (fun m hm=>(ih m hm).evs) i.evB (fun m hm=>(ih m hm).tst) fun m hm=>(ih m hm).cal,ug i.ev i.evs,su i.ev i.evB,vp (nv O) (fun m hm=>(ih m hm).ev) i.tst i.tsts,rG i.tst i.tsts,vz O i.exs,vG O i.ev,
    yS O (fun m hm=>(ih m hm).ev) (fun m hm=>(ih m hm).tst) (fun m hm=>(ih m hm).asg) (fun m hm=>(ih m hm).exs),tF i.ex i.exs⟩
theorem yn(O:C.Ok P)(n:Nat):ib C P n:=(oJ O n n (ab _)).cal
end
noncomputable def fdOf(Pp:Params)(fa:Nat):FuncData:=match(H.fl Pp)[fa]? with
 |some ⟨_,_, .func fd,_⟩=>fd
 |_=>default
noncomputable def ol:List Nat->Bool
 |[]=>true
 |x::xs=> !xs.contains x&&ol xs
theorem j3:∀{l:List Nat},ol l=true->l.Nodup
 |[],_=>List.Pairwise.nil
 |x::xs,h=>List.nodup_cons.mpr ⟨fun hm=>ft ((congrArg not (List.contains_iff_mem.mpr hm)).symm.trans (aa h).1),j3 (aa h).2⟩
noncomputable def isFn(k:FuncData->Bool)(d:Data):Bool:=if h:d.ctorIdx=7 then Data.func.elim (motive:=fun _=>Bool) d h k else false
theorem AD{k:FuncData->Bool}{M:Data->Prop}{d:Data}(h:isFn k d=true)(g:∀fd,k fd=true->M (.func fd)):M d:=
 if hc:d.ctorIdx=7 then Data.func.elim (motive:=fun d=>isFn k d=true->M d) d hc g h else ft ((dif_neg hc).symm.trans h)
noncomputable def AK(k:Array Value->Bool)(d:Data):Bool:=if h:d.ctorIdx=9 then Data.fields.elim (motive:=fun _=>Bool) d h k else false
theorem AL{k:Array Value->Bool}{M:Data->Prop}{d:Data}(h:AK k d=true)(g:∀vs,k vs=true->M (.fields vs)):M d:=
 if hc:d.ctorIdx=9 then Data.fields.elim (motive:=fun d=>AK k d=true->M d) d hc g h else ft ((dif_neg hc).symm.trans h)
noncomputable def Pd(k:List Stmt->Bool):FuncBody->Bool
 | .stmts b=>k b
 |_=>false
theorem E6{k:List Stmt->Bool}{b:FuncBody}(h:Pd k b=true):∃x,b= .stmts x/\k x=true:=by
 rcases b with x|x<;>first|exact ft h|exact⟨x,rfl,h⟩
noncomputable def IW(fd:FuncData)(F:Fn):Bool:=Pd (fun body=>um fd.scope F.body body&&fd.closure.isEmpty&&Nat.beq fd.globals mainGlobals&&Nat.beq fd.builtins builtinsNs&&(match fd.scope.kind with| .function=>true|_=>false)&&
   !fd.scope.isGenerator&& !fd.scope.isCoroutine&&ol F.ps&&F.ps.all (fun x=>isVar fd.scope (nm x))&&fd.scope.names.all (fun y=>match y.2 with| .free=>false|_=>true)) fd.body
noncomputable def Oz:Value->Addr->Bool
 | .ref c,d=>Nat.beq c d
 |_,_=>false
theorem Ii{v:Value}{d:Addr}(h:Oz v d=true):v= .ref d:=by
 rcases v with _|_|_|_|_|_|_|_|_|_|c<;>first|exact ft h|exact congrArg Value.ref (bA h)
noncomputable def Ng:Value->Str->Bool
 | .str s _,q=>seq s q
 |_,_=>false
theorem Iz{v:Value}{q:Str}(h:Ng v q=true):∃t,v= .str q t:=by
 rcases v with _|_|_|_|_|_|⟨s,t⟩|_|_|_|c<;>first|exact ft h|exact⟨t,congrArg (Value.str · t) (seq_eq h)⟩
noncomputable def zP(Pp:Params)(fa ca:Nat)(F:Fn):Bool:=xO (fun o=>isFn (fun fd=>IW fd F&&Oz fd.code ca&&xO (fun oc=>AK (fun vs=>xO (fun v=>Ng v fd.qualname) false vs.toList[1]?) oc.data) false (H.fl Pp)[ca]?) o.data) false (H.fl Pp)[fa]?
theorem xB{α:Type}{k:α->Bool}{o:Option α}(h:xO k false o=true):∃a,o=some a/\k a=true:=by
 rcases o with _|a
 ·exact ft h
 ·exact⟨a,rfl,h⟩
noncomputable def Binds(w:World)(fa:Nat)(F:Fn):Prop:=∀(s:Shared) (rvs:List Value),H.hJ w s.heap->rvs.length<=F.ps.length->F.ps.length - rvs.length<=F.ds.length->
   ∃dvs,(∀(T:Tm) (h:Heap),be T h F.ds dvs)/\BindsTo s (fdOf w.params fa) ⟨rvs,[]⟩ ((F.ps.map nm).zip (rvs++dvs.drop (F.ds.length - (F.ps.length - rvs.length))))
theorem qj.of{C:Cx}{P:Pg}{w:World}{F:Fn}{fa ca:Nat}(S:H.hJ w C.base)(h:zP w.params fa ca F=true)(hb:Binds w fa F):qj C P F fa:=by
 obtain⟨⟨c,d,dt,sl⟩,ho,h⟩:=xB h
 revert ho
 refine AD (M:=fun dt=>(H.fl w.params)[fa]?=some ⟨c,d,dt,sl⟩->qj C P F fa) h fun fd h ho=>?_
 obtain⟨⟨c2,d2,dt2,sl2⟩,ho2,h3⟩:=xB (aa h).2
 revert ho2
 refine AL (M:=fun dt=>(H.fl w.params)[ca]?=some ⟨c2,d2,dt,sl2⟩->qj C P F fa) h3 fun vs h3 ho2=>?_
 obtain⟨v,hv,h3⟩:=xB h3
 obtain⟨tk,e⟩:=Iz h3
 have hfd:fdOf w.params fa=fd:=by unfold fdOf;rw[ho]
 have hc:=Ii (aa (aa h).1).2
 have h1:=(aa (aa h).1).1
 obtain⟨body,hbody,h1⟩:=E6 h1
 obtain⟨h1,b10⟩:=aa h1
 obtain⟨h1,b9⟩:=aa h1
 obtain⟨h1,b8⟩:=aa h1
 obtain⟨h1,b7⟩:=aa h1
 obtain⟨h1,b6⟩:=aa h1
 obtain⟨h1,b5⟩:=aa h1
 obtain⟨h1,b4⟩:=aa h1
 obtain⟨h1,b3⟩:=aa h1
 obtain⟨b1,b2⟩:=aa h1
 refine⟨_,fd,body,S _ _ ho rfl,rfl,⟨ca,_,vs,tk,hc,S _ _ ho2 rfl,rfl,(Array.getElem?_toList (xs:=vs)).symm.trans (hv.trans (congrArg some e))⟩,hbody,b1,List.isEmpty_iff.mp b2,bA b3,bA b4,?_,(Bool.not_eq_true' _).mp b6,(Bool.not_eq_true' _).mp b7,j3 b8,fun y hy=>List.all_eq_true.mp b9 y hy,fun y hy e=>?_,fun s rvs hk h1 h2=>?_⟩
 ·generalize fd.scope.kind=kd at b5
  induction kd<;>first|rfl|exact ft b5
 ·have:=List.all_eq_true.mp b10 y hy
  rw[e] at this;exact ft this
 ·obtain⟨dvs,e1,e2⟩:=hb s rvs (H.i7 w _ _ S hk) h1 h2
  exact⟨dvs,e1,hfd▸e2⟩
theorem lP{w:World}{fa:Nat}{F:Fn}(hd:F.ds=[])(h:∀rvs:List Value,rvs.length=F.ps.length->bindArgs (fdOf w.params fa) ⟨rvs,[]⟩=pure ((F.ps.map nm).zip rvs)):Binds w fa F:=by
 intro s rvs _ h1 h2
 rw[hd] at h2 ⊢
 refine⟨[],fun T h=> .nil,?_⟩
 have hl:rvs.length=F.ps.length:=by simp at h2;lia
 rw[List.drop_nil,List.append_nil]
 exact .of_eq (h rvs hl)
theorem eZ{w:World}{fa:Nat}{F:Fn}{T0:Addr}{d:V}{v0:Value}{ot:Obj}(hds:F.ds=[d])(hv:∀(T:Tm) (h:Heap),VR T h d v0)(hT:(H.fl w.params)[T0]?=some ot)(hf:ot.isFreed=false)
  (full:∀S,∀rvs:List Value,rvs.length=F.ps.length->peek [(T0,ot)] S (bindArgs (fdOf w.params fa) ⟨rvs,[]⟩)=some ((F.ps.map nm).zip rvs))
  (less:∀S,∀rvs:List Value,rvs.length=F.ps.length - 1->peek [(T0,ot)] S (bindArgs (fdOf w.params fa) ⟨rvs,[]⟩)=some ((F.ps.map nm).zip (rvs++[v0])))(hp:F.ps.length≠0):Binds w fa F:=by
 intro s rvs S h1 h2
 rw[hds] at h2 ⊢
 refine⟨[v0],fun T h=> .cons (hv T h) .nil,?_⟩
 have hK:Frag.In [(T0,ot)] s.heap:=by
  intro a o e
  rw[List.lookup_cons] at e
  rcases q:a==T0 with _|_
  ·rw[q] at e;exact aS e
  ·rw[q] at e;rw[beq_iff_eq.mp q,←ag e];exact S _ _ hT hf
 intro M A E Q q
 simp only[List.length_singleton] at h2 q
 by_cases z:rvs.length=F.ps.length
 ·have:[v0].drop (1 - (F.ps.length - rvs.length))=[]:=by rw[z,Nat.sub_self];rfl
  rw[this,List.append_nil] at q
  exact(Looks.of_peek hK (full _ rvs z)).here q
 ·have z2:rvs.length=F.ps.length - 1:=by lia
  have:[v0].drop (1 - (F.ps.length - rvs.length))=[v0]:=by
   have:F.ps.length - rvs.length=1:=by lia
   rw[this];rfl
  rw[this] at q
  exact(Looks.of_peek hK (less _ rvs z2)).here q
theorem Qb{Q:List Value->Prop}(h:Q [])(rvs:List Value)(e:rvs.length=0):Q rvs:=List.length_eq_zero_iff.mp e▸h
theorem Ev{n:Nat}{Q:List Value->Prop}(h:∀a,∀rvs:List Value,rvs.length=n->Q (a::rvs))(rvs:List Value)(e:rvs.length=n+1):Q rvs:=by
 rcases rvs with _|⟨a,r⟩
 ·exact Nat.noConfusion e
 ·exact h a r (Nat.succ.inj e)
theorem PW{Q:List Value->Prop}(h:∀a,Q [a]):∀rvs:List Value,rvs.length=1->Q rvs:=Ev fun a=>Qb (Q:=fun r=>Q (a::r)) (h a)
theorem OW{Q:List Value->Prop}(h:∀a b,Q [a,b]):∀rvs:List Value,rvs.length=2->Q rvs:=Ev fun a=>PW (Q:=fun r=>Q (a::r)) (h a)
theorem Je{Q:List Value->Prop}(h:∀a b c,Q [a,b,c]):∀rvs:List Value,rvs.length=3->Q rvs:=Ev fun a=>OW (Q:=fun r=>Q (a::r)) (h a)
theorem I0{Q:List Value->Prop}(h:∀a b c d,Q [a,b,c,d]):∀rvs:List Value,rvs.length=4->Q rvs:=Ev fun a=>Je (Q:=fun r=>Q (a::r)) (h a)
theorem OG{Q:List Value->Prop}(h:∀a b c d e,Q [a,b,c,d,e]):∀rvs:List Value,rvs.length=5->Q rvs:=Ev fun a=>I0 (Q:=fun r=>Q (a::r)) (h a)
theorem QO{Q:List Value->Prop}(h:∀a b c d e f,Q [a,b,c,d,e,f]):∀rvs:List Value,rvs.length=6->Q rvs:=Ev fun a=>OG (Q:=fun r=>Q (a::r)) (h a)
noncomputable def fk(P:Params):Frag:=[(38,Mine.H.Ov P),(37,Mine.H.Nz P),(59,Mine.H.Nn P),(58,Mine.H.NN P),(288,Mine.H.HS P),(287,Mine.H.FN P),(316,Mine.H.Iu P),(315,Mine.H.GM P),(365,Mine.H.Gx P),(364,Mine.H.Hj P),(529,Mine.H.EQ P),(528,Mine.H.GJ P),(599,Mine.H.Hu P),(598,Mine.H.HM P),(740,Mine.H.Fp P),(739,Mine.H.Hg P),(930,Mine.H.EC P),(929,Mine.H.Ij P),(634,Mine.H.IH P),(633,Mine.H.Fa P),(35,Mine.H.Qc P),(56,Mine.H.PI P),(278,Mine.H.LM P),(285,Mine.H.Jm P),(313,Mine.H.K2 P),(334,Mine.H.LK P),(355,Mine.H.Mf P),(362,Mine.H.Kf P),(456,Mine.H.KR P),(463,Mine.H.Kb P),(477,Mine.H.Mg P),(484,Mine.H.LC P),(491,Mine.H.MA P),(498,Mine.H.KZ P),(505,Mine.H.L6 P),(547,Mine.H.JG P),(554,Mine.H.LJ P),(582,Mine.H.Ml P),(589,Mine.H.MD P),(596,Mine.H.KH P),(653,Mine.H.FX P),(688,Mine.H.Mi P),(737,Mine.H.MN P),(878,Mine.H.LT P),(885,Mine.H.ML P)]
noncomputable def vc:List (Nat×Addr):=[(179,38),(180,59),(152,288),(108,316),(156,365),(192,529),(199,599),(155,740),(153,930)]
noncomputable def gj:List (Nat×Addr):=[(3,70),(4,77),(5,84),(6,91),(7,98),(8,105),(9,112),(10,119),(11,126),(12,133),(13,140),(14,147),(15,154),(16,161),(17,168),(18,175),(19,182),(20,189),(21,196),(22,203),(23,210),(24,215),(25,222),(26,229),(27,236),(28,243),(29,250),(30,257),(31,264),(32,299),(33,376),(34,383),(35,390),(36,397),(37,404),(38,411),(39,418),(40,425),(41,430),(42,435),(43,442),(44,769),(45,776),(46,783),(47,790),(48,797),(49,804),(50,811),(51,818),(52,825),(53,832),(54,840),(55,848),(56,855),(57,863),(58,941),(59,946),(60,953),(61,960),(62,965),(63,970),(64,975),(1000,35),(1001,56),(1002,278),(1003,285),(1004,313),(1005,334),(1006,355),(1007,362),(1008,456),(1009,463),(1010,477),(1011,484),(1012,491),(1013,498),(1014,505),(1015,547),(1016,554),(1017,582),(1018,589),(1019,596),(1020,653),(1021,688),(1022,737),(1023,878),(1024,885)]
noncomputable def mp{α β:Type _}(f:α->β):List α->List β
 |[]=>[]
 |x::xs=>f x::mp f xs
theorem KD{α β:Type _}{f g:α->β}{l:List α}(h:l.map f=mp g l):∀x∈l,f x=g x:=by
 induction l with
 |nil=>exact fun _ h=>nomatch h
 |cons y ys ih=>exact fun x hx=>(List.mem_cons.mp hx).elim (fun e=>e▸(List.cons.inj h).1) (ih (List.cons.inj h).2 x)
theorem FV(rvs:List Value):(List.range rvs.length).map (fun i=>rvs[i]?.getD .none)=rvs:=by
 refine List.ext_getElem (by rw[ai,aM]) fun i h1 h2=>?_
 rw[List.getElem_map,List.getElem_range,List.getElem?_eq_getElem h2];rfl
noncomputable def adr(n:Nat):Nat:=(gj.lookup n).getD 0
noncomputable def plain(p:Nat×Fn):Bool:=p.2.ds.isEmpty
theorem ks(w:World):(Aa.all fun p=>xO (fun fa=>zP w.params fa (fa - 1) p.2) false (gj.lookup p.1))=true:=by kernel_rfl
theorem bs(w:World)(f:Nat->Value):(Aa.filter plain).map (fun p=>bindArgs (fdOf w.params (adr p.1)) ⟨(List.range p.2.ps.length).map f,[]⟩)=mp (fun p=>pure ((p.2.ps.map nm).zip ((List.range p.2.ps.length).map f))) (Aa.filter plain):=by kernel_rfl
theorem P7(w:World):Binds w 840 IY:=eZ (T0:=833) (ot:=H.FS w.params) (v0:= .bool false) rfl (fun _ _=> .bool) (by kernel_rfl) rfl (fun S=>I0 fun a b c d=>by kernel_rfl) (fun S=>Je fun a b c=>by kernel_rfl) (by decide)
theorem PG(w:World):Binds w 848 IV:=eZ (T0:=841) (ot:=H.IL w.params) (v0:= .bool false) rfl (fun _ _=> .bool) (by kernel_rfl) rfl (fun S=>Je fun a b c=>by kernel_rfl) (fun S=>OW fun a b=>by kernel_rfl) (by decide)
theorem PV(w:World):Binds w 863 IR:=eZ (T0:=856) (ot:=H.HW w.params) (v0:= .none) rfl (fun _ _=> .none) (by kernel_rfl) rfl (fun S=>OG fun a b c d e=>by kernel_rfl) (fun S=>I0 fun a b c d=>by kernel_rfl) (by decide)
theorem FA(w:World):Binds w 653 pU:=eZ (T0:=646) (ot:=H.HT w.params) (v0:= .int 8 1084) rfl (fun _ _=> .int) (by kernel_rfl) rfl (fun S=>I0 fun a b c d=>by kernel_rfl) (fun S=>Je fun a b c=>by kernel_rfl) (by decide)
theorem four:(Aa.filter fun p=> !plain p)=[(54,IY),(55,IV),(57,IR),(1020,pU)]:=by kernel_rfl
theorem A6{C:Cx}{w:World}(S:H.hJ w C.base)(p:Nat×Fn)(hp:p∈Aa):∃fa,gj.lookup p.1=some fa/\qj C P p.2 fa:=by
 obtain⟨fa,e,h⟩:=xB (List.all_eq_true.mp (ks w) p hp)
 refine⟨fa,e, .of S h ?_⟩
 rcases q:plain p with _|_
 ·have m:p∈Aa.filter fun p=> !plain p:=List.mem_filter.mpr ⟨hp,q▸rfl⟩
  rw[four] at m
  have ea:fa=adr p.1:=(congrArg (fun o=>Option.getD o 0) e).symm
  rw[ea]
  rcases List.mem_cons.mp m with rfl|m
  ·exact P7 w
  rcases List.mem_cons.mp m with rfl|m
  ·exact PG w
  rcases List.mem_cons.mp m with rfl|m
  ·exact PV w
  rcases List.mem_cons.mp m with rfl|m
  ·exact FA w
  ·exact nomatch m
 ·refine lP (List.isEmpty_iff.mp q) fun rvs hl=>?_
  have:=KD (bs w fun i=>rvs[i]?.getD .none) p (List.mem_filter.mpr ⟨hp,q⟩)
  rw[←hl,FV] at this
  rw[show fa=adr p.1 from(congrArg (fun o=>Option.getD o 0) e).symm]
  exact this
noncomputable def Ap(K:Frag)(ca:Addr):Bool:=match clsIn K ca with
 |some cd=>cd.hasDict
 |none=>false
noncomputable def vP(K:Frag)(ca:Addr)(l:List (Nat×Ty)):Bool:=l.all fun p=>(match findIn K (.ref ca) (nm p.1) with|some none=>true|_=>false)&&filled (nm p.1)&&decide (p.1<400)
noncomputable def wV(x:Option (Option Value))(fa:Addr):Bool:=match x with
 |some (some (.ref b))=>Nat.beq b fa
 |_=>false
noncomputable def wu(x:Option Value):Bool:=match x with
 |some (.type s)=>decide (s="function")
 |_=>false
noncomputable def u8(K:Frag)(ca:Addr)(c:Nat)(l:List (Nat×Nat)):Bool:=l.all fun p=>match gj.lookup p.2 with
 |some fa=>wV (findIn K (.ref ca) (nm p.1)) fa&&wu (typeIn K (.ref fa))&&((AU c).lookup p.1).isNone&&filled (nm p.1)
 |none=>false
noncomputable def uO(K:Frag)(ca:Addr)(f:Nat):Bool:=match gj.lookup f with
 |some fa=>wV (findIn K (.ref ca) "__init__") fa&&wu (typeIn K (.ref fa))
 |none=>false
theorem oX{x:Option (Option Value)}{fa:Addr}(h:wV x fa=true):x=some (some (.ref fa)):=by
 unfold wV at h
 split at h
 ·rw[bA h]
 ·cases h
theorem pj{x:Option Value}(h:wu x=true):x=some (.type "function"):=by
 unfold wu at h
 split at h
 ·rw[ao h]
 ·cases h
theorem br{α:Type}{l:List (Nat×α)}{k:Nat}{a:α}(h:l.lookup k=some a):(k,a)∈l:=by
 induction l with
 |nil=>cases h
 |cons p r ih=>
  obtain⟨b,c⟩:=p
  rw[List.lookup_cons] at h
  by_cases e:k=b
  ·subst e;simp at h;subst h;exact bN
  ·have:(k==b)=false:=by rw[beq_eq_false_iff_ne];exact e
   rw[this] at h;exact cH _ (ih h)
theorem vV{K:Frag}{c ca:Nat}(h:vP K ca (AU c)=true)(a:Nat)(ha:(P.ty c a).isSome=true):findIn K (.ref ca) (nm a)=some none/\filled (nm a)=true/\a<400:=by
 obtain⟨t,ht⟩:=Option.isSome_iff_exists.mp ha
 unfold vP at h
 have:=List.all_eq_true.mp h _ (br (show(AU c).lookup a=some t from ht))
 simp only[Bool.and_eq_true,decide_eq_true_eq] at this
 refine⟨?_,this.1.2,this.2⟩
 have h1:=this.1.1
 split at h1
 ·assumption
 ·cases h1
theorem yh{K:Frag}{c ca:Nat}{l:List (Nat×Nat)}(hl:(pI.lookup c).getD []=l)(h:u8 K ca c l=true)(m f:Nat)(hm:tL c m=some f):
  ∃fa,gj.lookup f=some fa/\findIn K (.ref ca) (nm m)=some (some (.ref fa))/\typeIn K (.ref fa)=some (.type "function")/\P.ty c m=none/\filled (nm m)=true:=by
 unfold tL at hm
 cases q:pI.lookup c with
 |none=>rw[q] at hm;cases hm
 |some l'=>
  rw[q] at hm hl
  have hl:l'=l:=hl
  subst hl
  have hm:l'.lookup m=some f:=hm
  have hmem:(m,f)∈l':=br hm
  unfold u8 at h
  have:=List.all_eq_true.mp h _ hmem
  cases q2:gj.lookup f with
  |none=>simp only[q2] at this;cases this
  |some fa=>
   simp only[q2,Bool.and_eq_true] at this
   exact⟨fa,rfl,oX this.1.1.1,pj this.1.1.2,Option.isNone_iff_eq_none.mp this.1.2,this.2⟩
theorem yN{K:Frag}{ca f:Nat}(h:uO K ca f=true):∃fa,gj.lookup f=some fa/\findIn K (.ref ca) "__init__"=some (some (.ref fa))/\typeIn K (.ref fa)=some (.type "function"):=by
 unfold uO at h
 cases q2:gj.lookup f with
 |none=>simp only[q2] at h;cases h
 |some fa=>
  simp only[q2,Bool.and_eq_true] at h
  exact⟨fa,rfl,oX h.1,pj h.2⟩
noncomputable def dQ(prog:Program)(w:World)(base:Heap)(mg mb:Str->Option Value):Cx:=⟨prog,w,base,mg,mb,fk w.params,fun c=>vc.lookup c,fun f=>gj.lookup f⟩
theorem dZ{prog:Program}{w:World}{base:Heap}{mg mb:Str->Option Value}{c ca f:Nat}{ml:List (Nat×Nat)}(h0:Ap (fk w.params) ca=true)(h1:findIn (fk w.params) (.ref ca) "__getattribute__"=some (some (.builtin "object.__getattribute__")))
  (h2:findIn (fk w.params) (.ref ca) "__getattr__"=some none)(h3:findIn (fk w.params) (.ref ca) "__setattr__"=some (some (.builtin "object.__setattr__")))(h4:plainOver (fk w.params) ca=true)(h5:makesIn (fk w.params) ca=true)
  (h6:vP (fk w.params) ca (AU c)=true)(hm:(pI.lookup c).getD []=ml)(h7:u8 (fk w.params) ca c ml=true)(hi:jZ c=some f)(h8:uO (fk w.params) ca f=true):d9 (dQ prog w base mg mb) P c ca:=by
 refine⟨?_,h1,h2,h3,h4,h5,vV h6,yh hm h7,fun f' hf=>?_⟩
 ·unfold Ap at h0
  cases q:clsIn (fk w.params) ca with
  |none=>rw[q] at h0;cases h0
  |some cd=>rw[q] at h0;exact⟨cd,q,h0⟩
 ·have hf:jZ c=some f':=hf
  rw[hi] at hf;cases hf
  exact yN h8
section
variable{prog:Program}{w:World}{base:Heap}{mg mb:Str->Option Value}
theorem LD:d9 (dQ prog w base mg mb) P 179 38:=dZ (by kernel_rfl) (by kernel_rfl) (by kernel_rfl) (by kernel_rfl) (by kernel_rfl) (by kernel_rfl) (by kernel_rfl) rfl (by kernel_rfl) rfl (by kernel_rfl)
theorem J0:d9 (dQ prog w base mg mb) P 180 59:=dZ (by kernel_rfl) (by kernel_rfl) (by kernel_rfl) (by kernel_rfl) (by kernel_rfl) (by kernel_rfl) (by kernel_rfl) rfl (by kernel_rfl) rfl (by kernel_rfl)
theorem J1:d9 (dQ prog w base mg mb) P 152 288:=dZ (by kernel_rfl) (by kernel_rfl) (by kernel_rfl) (by kernel_rfl) (by kernel_rfl) (by kernel_rfl) (by kernel_rfl) rfl (by kernel_rfl) rfl (by kernel_rfl)
theorem Jr:d9 (dQ prog w base mg mb) P 108 316:=dZ (by kernel_rfl) (by kernel_rfl) (by kernel_rfl) (by kernel_rfl) (by kernel_rfl) (by kernel_rfl) (by kernel_rfl) rfl (by kernel_rfl) rfl (by kernel_rfl)
theorem Jo:d9 (dQ prog w base mg mb) P 156 365:=dZ (by kernel_rfl) (by kernel_rfl) (by kernel_rfl) (by kernel_rfl) (by kernel_rfl) (by kernel_rfl) (by kernel_rfl) rfl (by kernel_rfl) rfl (by kernel_rfl)
theorem MB:d9 (dQ prog w base mg mb) P 192 529:=dZ (by kernel_rfl) (by kernel_rfl) (by kernel_rfl) (by kernel_rfl) (by kernel_rfl) (by kernel_rfl) (by kernel_rfl) rfl (by kernel_rfl) rfl (by kernel_rfl)
theorem Lz:d9 (dQ prog w base mg mb) P 199 599:=dZ (by kernel_rfl) (by kernel_rfl) (by kernel_rfl) (by kernel_rfl) (by kernel_rfl) (by kernel_rfl) (by kernel_rfl) rfl (by kernel_rfl) rfl (by kernel_rfl)
theorem JA:d9 (dQ prog w base mg mb) P 155 740:=dZ (by kernel_rfl) (by kernel_rfl) (by kernel_rfl) (by kernel_rfl) (by kernel_rfl) (by kernel_rfl) (by kernel_rfl) rfl (by kernel_rfl) rfl (by kernel_rfl)
theorem Kk:d9 (dQ prog w base mg mb) P 153 930:=dZ (by kernel_rfl) (by kernel_rfl) (by kernel_rfl) (by kernel_rfl) (by kernel_rfl) (by kernel_rfl) (by kernel_rfl) rfl (by kernel_rfl) rfl (by kernel_rfl)
theorem wY:∀p∈vc,d9 (dQ prog w base mg mb) P p.1 p.2:=by
 unfold vc
 simp only[List.forall_mem_cons]
 exact⟨LD,J0,J1,Jr,Jo,MB,Lz,JA,Kk,fun _ h=>nomatch h⟩
end
noncomputable def xe(Pp:Params):Array DictEntry:=match Mine.H.o3 Pp with
 |⟨_,_, .dict es _,_⟩=>es
 |_=> #[]
noncomputable def xP(x:Option Value)(fa:Addr):Bool:=match x with
 |some (.ref b)=>Nat.beq b fa
 |_=>false
theorem pG{x:Option Value}{fa:Addr}(h:xP x fa=true):x=some (.ref fa):=by
 unfold xP at h
 split at h
 ·rw[bA h]
 ·cases h
theorem g1(Pp:Params):(zF.all fun p=>match vc.lookup p.1 with|some ca=>xP (nsFind (xe Pp) (nm p.1)) ca|none=>false)=true:=by kernel_rfl
theorem g2(Pp:Params):(Aa.all fun p=>if p.1<1000 then match gj.lookup p.1 with|some fa=>xP (nsFind (xe Pp) (nm p.1)) fa|none=>false else true)=true:=by kernel_rfl
theorem g3(Pp:Params):nsFind (xe Pp) (nm 117)=some (.int 4194304 1246):=by kernel_rfl
theorem g4(Pp:Params):nsFind (xe Pp) (nm 216)=some (.ref 864):=by kernel_rfl
theorem g5(Pp:Params):([Bi.len, .min, .max, .abs, .range, .list, .sorted].all fun b=>(nsFind (xe Pp) (kI b)).isNone)=true:=by kernel_rfl
theorem g6(Pp:Params):((nsFind (xe Pp) k6).isNone&&(nsFind (xe Pp) gr).isNone)=true:=by kernel_rfl
theorem g7(Pp:Params):(H.fl Pp)[864]?=some ⟨.type "tuple",none, .seq ⟨[.str (nm 100) 1392, .str (nm 183) 1393, .str (nm 185) 1394, .str (nm 110) 1395, .str (nm 186) 1396]⟩ 0, #[]⟩:=by kernel_rfl
theorem g8(Pp:Params):∃o,(H.fl Pp)[sysModules]?=some o/\o.isFreed=false:=⟨H.o1 Pp,by kernel_rfl,by kernel_rfl⟩
theorem Qg(Pp:Params):(gj.all fun p=>match(H.fl Pp)[p.2]? with|some ⟨_,_, .func _,_⟩=>true|_=>false)=true:=by kernel_rfl
theorem g9(Pp:Params):(H.fl Pp)[mainGlobals]?=some (H.o3 Pp):=by kernel_rfl
theorem Oq(Pp:Params):H.o3 Pp=⟨(H.o3 Pp).cls,(H.o3 Pp).dict, .dict (xe Pp) 85,(H.o3 Pp).slots⟩:=by kernel_rfl
set_option tactic.hygienic true
theorem B8(Pp:Params):(fk Pp).map (fun p=>(H.fl Pp)[p.1]?)=(fk Pp).map (fun p=>some p.2):=by kernel_rfl
theorem BJ(Pp:Params):(fk Pp).all (fun p=> !p.2.isFreed)=true:=by kernel_rfl
section
variable{prog:Program}{w:World}{base:Heap}{mg mb:Str->Option Value}
theorem yr(S:H.hJ w base):(fk w.params).In base:=by
 have key:∀p∈fk w.params,base.get? p.1=some p.2:=fun p hp=>by
  have h1:(H.fl w.params)[p.1]?=some p.2:=List.map_inj_left.mp (B8 w.params) p hp
  have h2:=List.all_eq_true.mp (BJ w.params) p hp
  exact S _ _ h1 (by simpa using h2)
 intro a o e
 exact key (a,o) (br e)
theorem kH(S:H.hJ w base)(g:base.Ns mainGlobals mg)(x:Str):mg x=nsFind (xe w.params) x:=by
 obtain⟨o,es,ep,ho,hd,_,hf⟩:=g
 have h1:=S _ _ (g9 w.params) (by rw[Oq w.params];rfl)
 rw[ho] at h1
 obtain rfl:=ag h1
 rw[Oq w.params] at hd
 cases hd
 exact(hf x).symm
theorem EO(S:H.hJ w base)(p:Nat×Addr)(hp:p∈gj):∃o fd,base.get? p.2=some o/\o.data= .func fd:=by
 have:=List.all_eq_true.mp (Qg w.params) p hp
 split at this
 ·rename_i c d fd sl ho
  exact⟨_,fd,S _ _ ho rfl,rfl⟩
 ·cases this
theorem Fc(S:H.hJ w base)(g:base.Ns mainGlobals mg)(b:base.Ns builtinsNs mb)(lim:base.NoLimit)(hb:∀x:Str,x≠"__name__"->mb x=bootBuiltins x):(dQ prog w base mg mb).Ok P where
 g:=g
 b:=b
 lim:=lim
 xE:=yr S
 cls c ca h:=wY (c,ca) (br h)
 clsG c hi:=by
  obtain⟨f,h⟩:=Option.isSome_iff_exists.mp hi
  have:=List.all_eq_true.mp (g1 w.params) (c,f) (br h)
  rcases q:vc.lookup c with _|ca
  ·simp only[q] at this;exact nomatch this
  ·simp only[q] at this
   exact⟨ca,q,(kH S g _).trans (pG this)⟩
 fn f F h:=A6 S (f,F) (br h)
 fnG f hi hl:=by
  obtain⟨F,h⟩:=Option.isSome_iff_exists.mp hi
  have:=List.all_eq_true.mp (g2 w.params) (f,F) (br h)
  simp only[if_pos hl] at this
  rcases q:gj.lookup f with _|fa
  ·simp only[q] at this;exact nomatch this
  ·simp only[q] at this
   exact⟨fa,q,(kH S g _).trans (pG this),EO S (f,fa) (br q)⟩
 IW f fa h:=EO S (f,fa) (br h)
 cst x v h:=by
  have hm:=kH S g
  have h:Dh x=some v:=h
  unfold Dh at h
  split at h
  ·obtain rfl:=ag h
   exact⟨_,(hm _).trans (g3 _),fun T h _ _=> .int⟩
  ·obtain rfl:=ag h
   refine⟨_,(hm _).trans (g4 _),fun T h hT hk=>?_⟩
   have ho:=S _ _ (g7 w.params) rfl
   exact .tup (hT _ _ ho) ⟨_,hk _ _ ho⟩ (.cons .str (.cons .str (.cons .str (.cons .str (.cons .str .nil))))) (by unfold cap;decide)
  ·exact nomatch h
 bltG b:=by
  have:=List.all_eq_true.mp (g5 w.params) b (by cases b<;>simp)
  exact(kH S g _).trans (Option.isNone_iff_eq_none.mp this)
 isi:=by
  have:=g6 w.params
  simp only[Bool.and_eq_true] at this
  exact⟨(kH S g _).trans (Option.isNone_iff_eq_none.mp this.1),(kH S g _).trans (Option.isNone_iff_eq_none.mp this.2)⟩
 mb:=hb
 mods:=by
  obtain⟨o,h1,h2⟩:=g8 w.params
  exact⟨o,S _ _ h1 h2⟩
 all c a h:=by
  obtain⟨t,ht⟩:=Option.isSome_iff_exists.mp h
  exact List.mem_map.mpr ⟨_,br (show(AU c).lookup a=some t from ht),rfl⟩
end
set_option tactic.hygienic false
noncomputable def Gz:Mine.H:=⟨fun _ _ _=>0,fun _ _ _=>false,fun _ _ _=>none,fun _ _ _=>0,fun _ _ _=> .none,[],0,fun _=>[],0,fun _=>(fun _=>none,true),0⟩
def lB:Prop:=∀xs:List Int,xs.length<=63->∃n,n<=1290/\aD P n Gz 64 [.fro (xs.map .int)] fun v _=>v= .bool true
theorem items_int{R:WRecords}:∀{xs:List WData},WShape.hasItems R xs .int=true->∃ds:List Int,xs=ds.map .int
 |[],_=>⟨[],rfl⟩
 |x::xs,h=>by
  simp only[WShape.hasItems,Bool.and_eq_true] at h
  obtain⟨i,rfl⟩:=hasW_int h.1
  obtain⟨ds,rfl⟩:=items_int h.2
  exact⟨i::ds,rfl⟩
theorem s8{args:List WData}(h:PySem.Challenge.rw_pq0318_01.row.toRowW.claim.pre args=true):∃ds:List Int,args=[.list (ds.map .int)]/\ds.length<=63:=by
 obtain⟨h1,h2⟩:=pre_splitW h
 obtain⟨d,r,rfl,h3,h4⟩:=hasAllW_cons (e:= .list .int) (es:=[]) h1
 have:=hasAllW_nil h4
 subst this
 obtain⟨xs,rfl,h5⟩:=hasW_list h3
 obtain⟨ds,rfl⟩:=items_int h5
 refine⟨ds,rfl,?_⟩
 have h2:(WTm.and (.not (.lt (.lit (.int 63)) (.len (.arg 0)))) (.lit (.bool true))).holds [] {args:=[.list (ds.map .int)]}=true:=h2
 unfold WTm.holds at h2
 simp[WTm.value] at h2
 by_cases hc:ds.length<=63
 ·exact hc
 ·exfalso
  have h3:(63:Int)<(ds.length:Int):=by omega
  have h4:less? (WData.int 63) (WData.int ↑ds.length)=some true:=by
   show some (decide ((63:Int)<(ds.length:Int)))=some true
   simp[h3]
  rw[h4] at h2
  simp at h2
section
variable{R:WRecords}{cl:Str->Option Addr}{h:Heap}
noncomputable def QD:WData->Option Int
 | .int i=>some i
 |_=>none
noncomputable def Qx:WData->Option (List WData)
 | .list l=>some l
 |_=>none
theorem rI{v:Value}{d:WData}{as:List Addr}{i:Int}(r:ReadsW R cl h v d as):QD d=some i->∃t,v= .int i t:=by
 rcases r with _|_|⟨i,t⟩|_|_|_|_|_|_|_|_|_|_
 all_goals first|exact aS|exact fun e=>⟨t,congrArg (Value.int · t) (ag e)⟩
def LI(R:WRecords)(cl:Str->Option Addr)(h:Heap)(ds:List WData)(v:Value):Prop:=∃a o vs n bs,v= .ref a/\h.get? a=some o/\o.cls= .type "list"/\o.data= .seq vs n/\ReadsAllW R cl h vs.toList ds bs
theorem rL{v:Value}{d:WData}{as:List Addr}{ds:List WData}(r:ReadsW R cl h v d as):Qx d=some ds->LI R cl h ds v:=by
 rcases r with _|_|_|_| @⟨a,o,vs,n,xs,as,h1,h2,h3,h4⟩|_|_|_|_|_|_|_|_
 all_goals first|exact aS|exact fun e=>⟨a,o,vs,n,as,rfl,h1,h2,h3,ag e▸h4⟩
theorem rA{vs:List Value}{ws:List WData}{as:List Addr}(r:ReadsAllW R cl h vs ws as):(vs=[]/\ws=[])\/∃v us d ds a b,vs=v::us/\ws=d::ds/\ReadsW R cl h v d a/\ReadsAllW R cl h us ds b:=by
 rcases r with _|⟨r1,r2⟩
 ·exact .inl ⟨rfl,rfl⟩
 ·exact .inr ⟨_,_,_,_,_,_,rfl,rfl,r1,r2⟩
theorem rC{vs:List Value}{d:WData}{ds:List WData}{as:List Addr}(r:ReadsAllW R cl h vs (d::ds) as):∃v us a b,vs=v::us/\ReadsW R cl h v d a/\ReadsAllW R cl h us ds b:=by
 rcases rA r with⟨_,e⟩|⟨v,us,d',ds',a,b,e1,e2,r1,r2⟩
 ·exact absurd e (List.cons_ne_nil _ _)
 ·obtain⟨e3,e4⟩:=List.cons.inj e2
  exact⟨v,us,a,b,e1,e3▸r1,e4▸r2⟩
theorem yp{T:Tm}{ds:List Int}:∀{vs:List Value} {as:List Addr},ReadsAllW R cl h vs (ds.map .int) as->be T h (ds.map .int) vs:=by
 induction ds with
 |nil=>
  intro vs as r
  rcases rA r with⟨e,_⟩|⟨v,us,d',ds',a,b,e1,e2,r1,r2⟩
  ·exact e▸ .nil
  ·exact absurd e2 (List.cons_ne_nil _ _).symm
 |cons d ds ih=>
  intro vs as r
  obtain⟨v,us,a,b,e,r1,r2⟩:=rC r
  obtain⟨t,e2⟩:=rI r1 rfl
  exact e▸e2▸ .cons .int (ih r2)
end
theorem qT{R:WRecords}{cl:Str->Option Addr}{h:Heap}{vals:List Value}{ds:List WData}{as:List Addr}(r:ReadsAllW R cl h vals [.list ds] as):∃v,vals=[v]/\LI R cl h ds v:=by
 obtain⟨v,us,a,b,e,r1,r2⟩:=rC r
 rcases rA r2 with⟨e3,_⟩|⟨v,us,d',ds',a,b,e1,e2,_⟩
 ·exact⟨v,e3▸e,rL r1 rfl⟩
 ·exact absurd e2 (List.cons_ne_nil _ _).symm
theorem xN(L:lB):WalkO H.qF H.lo (fun _ _=>True) H.hJ PySem.Challenge.rw_pq0318_01.row.toRowW H.iz [] fun f vs=>PySem.call f vs:=by
 intro w s₀ s₁ mg mb G Y a o pm cd doc dV kV ho hd hcd hDf hmg hgens args vals as hpre hlay hread hwell hlow
 obtain⟨ds,rfl,hlen⟩:=s8 hpre
 obtain⟨v1,rfl,a1,o1,vs,n1,bs,rfl,h1,h2,h3,h4⟩:=qT hread
 have O:=Fc (prog:=PySem.Challenge.rw_pq0318_01.row.toRowW.prog) Y G.T.g G.T.b G.T.nolimit G.T.builtins
 obtain⟨fa,hfa,hmg',_⟩:=O.fnG 64 rfl (by decide)
 have hname:H.iz.name=nm 64:=by kernel_rfl
 rw[hname] at hmg
 have hmg':mg (nm 64)=some (.ref fa):=hmg'
 rw[hmg] at hmg'
 cases hmg'
 obtain⟨n,hn,hrun⟩:=L ds hlen
 refine wpAny_call ?_
 have R0:Rep (dQ PySem.Challenge.rw_pq0318_01.row.toRowW.prog w s₁.heap mg mb) P (fun _=>none) Gz s₁.heap:=by
  refine⟨fun _ _ e=>e,?_,?_,?_⟩
  ·intro _ _ e;cases e
  ·intro _ _ e;cases e
  ·intro _ _ _ e;cases e
 refine yn O n hrun hfa (T:=fun _=>none) ⟨by show 2*301+n+1<=1900;omega,by show 4+2*n+2*1<=8900;omega,rfl⟩ R0
  (.cons (.fro rfl ⟨o1,h1,h2,n1,by rw[h3]⟩ (yp h4) (by rw[ai];unfold cap;omega)) .nil) ?_
 intro v G' hk rv T' h' tk x R' V
 subst hk
 cases V
 exact⟨.inl ⟨_, .bool true,[],rfl,fun cls=>rfl, .bool _,by kernel_rfl,fun _=>⟨List.Pairwise.nil,fun a ha=>by cases ha⟩⟩, .of_keep R'.keep,rfl, .of_eq hgens⟩
theorem holds_of(L:lB):PySem.Challenge.rw_pq0318_01.Holds:=H.head (xN L)
end Mine
end
section
namespace Mine.Ab
set_option tactic.hygienic false
set_option genInjectivity false
inductive AV where
 |none|nd (s:Nat)|tr|b (v:Bool)|i (z:Int)|any|at_|many|BI
 |n (e:Bool) (st s:Nat)
 |lst (j:Nat)|tup (l:List AV)
section
variable{β:Type}
noncomputable def rW(v:AV)(k:Nat->β)(z:β):β:=match v with
 | .nd s=>k s
 |_=>z
noncomputable def dN(v:AV)(k:Bool->Nat->Nat->β)(z:β):β:=match v with
 | .n e st s=>k e st s
 |_=>z
noncomputable def dI(v:AV)(k:Int->β)(z:β):β:=match v with
 | .i n=>k n
 |_=>z
noncomputable def dB(v:AV)(k:Bool->β)(z:β):β:=match v with
 | .b n=>k n
 |_=>z
noncomputable def vm(v:AV)(k:Nat->β)(z:β):β:=match v with
 | .lst n=>k n
 |_=>z
noncomputable def FT(v:AV)(k:List AV->β)(z:β):β:=match v with
 | .tup n=>k n
 |_=>z
noncomputable def l1{α:Type}(vs:List α)(k:α->β)(z:β):β:=match vs with
 |[x]=>k x
 |_=>z
noncomputable def l2{α:Type}(vs:List α)(k:α->α->β)(z:β):β:=match vs with
 |[x,y]=>k x y
 |_=>z
noncomputable def pick(a:Nat)(z:β):List (Nat×β)->β
 |[]=>z
 |(b,x)::r=>bif Nat.beq a b then x else pick a z r
end
noncomputable def isNone:AV->Bool| .none=>true|_=>false
noncomputable def Ec:AV->Bool| .tr=>true|_=>false
noncomputable def isAny:AV->Bool| .any=>true|_=>false
noncomputable def isAt:AV->Bool| .at_=>true|_=>false
noncomputable def gG:AV->Bool| .many=>true|_=>false
noncomputable def uS:AV->Bool| .BI=>true|_=>false
structure St where
 k:Nat
 x:Nat
 root:Option Nat
 L:Nat->Option Nat
 R:Nat->Option Nat
 U:Nat->Option Nat
 C:Nat->Bool
 z:Nat->Bool
 mm:Nat->Nat->Bool
 em:Nat->Nat->Bool
 me:Nat->Bool
 sb:Nat->Nat
 se:Nat->Nat
 qs:List (Nat×Nat×Bool)
 nl:Nat
 ls:Nat->List AV
abbrev Env:=Nat->Option AV
inductive qN where|next|ret (v:AV)
noncomputable def up1{α:Type}(f:Nat->α)(s:Nat)(v:α):Nat->α:=fun t=>bif Nat.beq t s then v else f t
noncomputable def dO:Nat->(Nat->Bool)->Bool
 |0,_=>true
 |n+1,p=>p n&&dO n p
noncomputable def Cv:Nat->(Nat->Bool)->Bool
 |0,_=>false
 |n+1,p=>p n||Cv n p
noncomputable def oN(o:Option Nat)(s:Nat):Bool:=match o with
 |none=>false
 |some t=>Nat.beq t s
noncomputable def wK:Option Nat->Option Nat->Bool
 |none,none=>true
 |some s,some t=>Nat.beq s t
 |_,_=>false
noncomputable def jW{α:Type}(x:Option α)(k:α->Bool):Bool:=match x with
 |some a=>k a
 |none=>false
noncomputable def qU:Option Nat->AV
 |none=> .none
 |some s=> .nd s
noncomputable def St.wL(A:St)(s:Nat)(q:Option Nat):St:={A with L:=up1 A.L s q}
noncomputable def St.wR(A:St)(s:Nat)(q:Option Nat):St:={A with R:=up1 A.R s q}
noncomputable def St.wU(A:St)(s:Nat)(q:Option Nat):St:={A with U:=up1 A.U s q}
noncomputable def St.wC(A:St)(s:Nat)(c:Bool):St:={A with C:=up1 A.C s c}
noncomputable def St.wB(A:St)(s st:Nat):St:={A with sb:=up1 A.sb s st}
noncomputable def St.wE(A:St)(s st:Nat):St:={A with se:=up1 A.se s st,em:=up1 A.em s fun _=>false,me:=up1 A.me s false}
noncomputable def St.za(A:St)(q:Option Nat):St:={A with root:=q}
noncomputable def St.wQ(A:St)(l:List (Nat×Nat×Bool)):St:={A with qs:=l}
noncomputable def ez(A:St)(s:Nat):Bool:=match A.U s with
 |none=>true
 |some p=>A.z p
noncomputable def eb(b c:Bool):Bool:=bif b then c else !c
noncomputable def zl(A:St)(s:Nat):Bool:=Nat.ble (s+1) A.k&&(match A.L s,A.R s with|some a,some b=> !Nat.beq a b|_,_=>true)&&dO A.k fun t=>eb (oN (A.U t) s) (oN (A.L s) t||oN (A.R s) t)
noncomputable def kid(A:St)(s:Nat):Bool:=Nat.ble (s+1) A.k&&(match A.L s with|some c=>oN (A.U c) s|none=>true)&&(match A.R s with|some c=>oN (A.U c) s|none=>true)
noncomputable def hd(A:St)(s:Nat):Option St:=bif A.z s&&ez A s&&Nat.ble (s+1) A.k then some A else bif zl A s&& !oN (A.U s) s then some {A with z:=up1 A.z s (ez A s)} else none
noncomputable def iT:List (Nat×Nat×Bool)->Nat->Nat->Option Bool
 |[],_,_=>none
 |(q,s,b)::r,p,t=>bif Nat.beq q p&&Nat.beq s t then some b else iT r p t
noncomputable def kn(A:St)(q s:Nat)(v:Bool):Bool:=match iT A.qs q s with
 |some b=>eb b v
 |none=>false
noncomputable def ir(A:St)(q:Nat)(v:Bool):Nat->Bool
 |0=>kn A q 0 v
 |s+1=>kn A q (s+1) v||ir A q v s
noncomputable def rP(A:St)(q:Nat)(v:Bool)(s:Nat):Nat->Bool
 |0=>false
 |f+1=>kn A q s v||rP A q v (s+1) f
noncomputable def infer(A:St)(q s:Nat):Option Bool:=match q with
 |1=>bif ir A 1 false s||ir A 5 true s then some false else bif rP A 1 true s (A.x - s) then some true else none
 |5=>bif ir A 5 true s then some true else bif rP A 5 false s (A.x - s)||rP A 1 true s (A.x - s) then some false else none
 |3=>bif ir A 1 false s then some true else none
 |4=>bif ir A 1 false s then some true else none
 |6=>bif ir A 1 false s then some true else none
 |_=>none
noncomputable def ask(A:St)(q s:Nat)(k:Bool->St->Bool):Bool:=Nat.ble (s+1) A.k&&match iT A.qs q s with
 |some b=>k b A
 |none=>match(bif Nat.ble (s+1) A.x then infer A q s else none) with
  |some b=>k b (A.wQ ((q,s,b)::A.qs))
  |none=>k true (A.wQ ((q,s,true)::A.qs))&&k false (A.wQ ((q,s,false)::A.qs))
noncomputable def facts(A:St)(q s:Nat):Nat->List (Nat×Nat×Bool)
 |0=>A.qs
 |t+1=>bif A.em t s&&Nat.beq (A.se t) 0 then(q,t,false)::facts A q s t else facts A q s t
noncomputable def Dp(A:St)(o:Cm)(s:Nat)(k:Bool->St->Bool):Bool:=A.z s&&Nat.ble (s+1) A.k&&match o with
 | .lt=>k true (A.wQ (facts A 2 s A.k))&&k false A
 | .ge=>k false (A.wQ (facts A 2 s A.k))&&k true A
 | .gt=>k false (A.wQ (facts A 3 s A.k))&&k true A
 |_=>false
noncomputable def OI(A:St)(o:AV)(a:Nat)(k:AV->Bool):Bool:=rW o (fun s=>pick a false [(71,k (qU (A.L s))),(72,k (qU (A.R s))),(74,k (qU (A.U s))),(10,k (.b (A.C s))),(67,A.z s&&k (.n false (A.sb s) s)),(68,A.z s&&k (.n true (A.se s) s))])
 (Ec o&&pick a false [(79,k (qU A.root)),(83,k .any)])
noncomputable def qM(v:AV)(k:Option Nat->Option St):Option St:=rW v (fun s=>k (some s)) (bif isNone v then k none else none)
noncomputable def O9(A:St):Option Nat->Bool
 |none=>true
 |some p=>A.z p
noncomputable def Az(c:Bool)(A:St):Option St:=bif c then some A else none
noncomputable def K3(A:St)(o:AV)(a:Nat)(v:AV):Option St:=rW o (fun s=>pick a none [(71,qM v fun q=>some (A.wL s q)),(72,qM v fun q=>some (A.wR s q)),(74,qM v fun q=>Az (ez A s&&O9 A q) (A.wU s q)),
  (10,dB v (fun c=>some (A.wC s c)) none),(67,dN v (fun e st t=>Az (!e&&Nat.beq s t&&A.z s) (A.wB s st)) none),(68,dN v (fun e st t=>Az (e&&Nat.beq s t&&A.z s) (A.wE s st)) none),
  (66,dI v (fun z=>Az (decide (z=0)&&A.z s&&ez A s) A) none)])
 (bif Ec o then pick a none [(79,qM v fun q=>some (A.za q)),(83,Az (isAny v) A)] else none)
noncomputable def ch(o:Option Nat)(f:Nat->Bool)(z:Bool):Bool:=match o with
 |none=>z
 |some c=>f c
noncomputable def z9(A:St)(s:Nat):Option St:=bif kid A s then some {A with
  me:=up1 A.me s false
  mm:=fun u t=>bif Nat.beq t s then Nat.beq u s||ch (A.L s) (fun c=>Nat.beq u c||A.mm u c) false||ch (A.R s) (fun c=>Nat.beq u c||A.mm u c) false
   else bif Nat.beq u s then A.em s t&&ch (A.L s) (fun c=>A.mm c t) true&&ch (A.R s) (fun c=>A.mm c t) true else A.mm u t
  em:=fun u t=>bif Nat.beq t s then Nat.beq u s||ch (A.L s) (fun c=>A.em u c) false||ch (A.R s) (fun c=>A.em u c) false else A.em u t} else none
noncomputable def rY(A:St)(s y:Nat):Option St:=bif A.z s&&A.z y&&Nat.ble (s+1) A.k&&Nat.ble (y+1) A.k then some {A with
  me:=up1 A.me s false
  mm:=fun u t=>bif Nat.beq t s then Nat.beq u s||A.mm u s||(Nat.beq u y&&A.me y) else bif Nat.beq u s then A.mm s t&&A.em y t else A.mm u t
  em:=fun u t=>bif Nat.beq t s then Nat.beq u y||A.em u s else A.em u t} else none
noncomputable def Gw(A:St)(s:Nat):Option St:=bif A.z s&&Nat.ble (s+1) A.k then some {A with
  me:=up1 A.me s true
  mm:=fun u t=>bif Nat.beq t s then Nat.beq u s else bif Nat.beq u s then A.em s t else A.mm u t
  em:=fun u t=>bif Nat.beq t s then Nat.beq u s else A.em u t} else none
noncomputable def under(A:St)(c:Nat):Nat->Nat->Bool
 |0,_=>false
 |f+1,t=>Nat.beq t c||ch (A.U t) (under A c f) false
noncomputable def ic(A:St)(t:Nat):Bool:=ch A.root (fun r=>under A r 5 t) false
noncomputable def jw(A:St)(c:Nat)(st:Nat):Option St:=
 bif Nat.ble (c+1) A.k&&under A c 5 c&&(dO A.k fun t=>(bif under A c 5 t then Nat.beq (A.sb t) 0&&Nat.beq (A.se t) 0&&(Nat.beq t c||ch (A.U t) (under A c 5) false) else !ch (A.U t) (under A c 5) false))&& !ch (A.U c) (under A c 5) false
 then some {A with
  z:=fun t=>A.z t&& !under A c 5 t
  sb:=fun t=>bif under A c 5 t then st else A.sb t
  se:=fun t=>bif under A c 5 t then st else A.se t
  mm:=fun u t=>A.mm u t&&eb (under A c 5 u) (under A c 5 t)
  em:=fun u t=>A.em u t&&eb (under A c 5 u) (under A c 5 t)} else none
noncomputable def Jp(A:St)(p:Nat):Bool:=zl A p&&A.em p p&&dO A.k fun t=> !oN (A.U t) p||A.mm t p
noncomputable def AC(A:St)(s:Nat):Option St:=
 bif ic A s&&ch A.root (fun r=>wK (A.U r) none) true&&(dO A.k fun p=> !ic A p||Nat.beq p s||Jp A p)&&(dO A.k fun p=> !ic A p||(zl A p&&ch (A.U p) (ic A) true&&(dO A.k fun t=> !oN (A.U t) p||ic A t)))
 then some {A with me:=fun _=>false,mm:=fun u t=>ic A t&&ic A u&&under A t 5 u,em:=fun u t=>ic A t&&ic A u&&under A t 5 u} else none
noncomputable def zU(n:Nat):Bool:=Nat.beq n 0
noncomputable def num(st:Nat)(x y:AV):Option AV:=dN x (fun e st0 s=>bif zU st0&&gG y then some (.n e st s) else none) none
noncomputable def ED(o:Op)(x y:AV):Option AV:=match o with
 | .add=>bif isAny x then dI y (fun _=>some .any) none else bif isAt x&&gG y then some .BI else num 1 x y
 | .sub=>bif isAny x then dI y (fun _=>some .any) none else num 2 x y
 |_=>none
noncomputable def KT(x y:AV):Option Bool:=rW x (fun s=>rW y (fun t=>some (Nat.beq s t)) (bif isNone y then some false else none)) (bif isNone x then rW y (fun _=>some false) (bif isNone y then some true else none) else none)
noncomputable def qh(A:St)(o:Cm)(x y:AV)(k:Bool->St->Bool):Bool:=match o with
 | .is=>jW (KT x y) fun b=>k b A
 | .isNot=>jW (KT x y) fun b=>k (!b) A
 | .le=>dN x (fun e st s=> !e&&zU st&&dN y (fun e' st' t=> !e'&&zU st'&&Nat.beq s A.x&&ask A 0 t k) (isAt y&&ask A 1 s k)) (gG x&&dI y (fun z=>decide (z=0)&&k false A) false)
 | .gt=>dN x (fun e st s=>zU st&&bif e then isAt y&&ask A 3 s k else bif isAt y then ask A 1 s (fun b A=>k (!b) A) else uS y&&ask A 5 s k) (dI x (fun a=>dI y (fun b=>k (decide (a>b)) A) false) false)
 | .ge=>dN x (fun e st s=>zU st&&e&&isAt y&&ask A 2 s k) false
 |_=>false
noncomputable def EV(A:St)(b:Bi)(vs:List AV):Option AV:=match b with
 | .len=>l1 vs (fun x=>vm x (fun j=>bif Nat.ble (j+1) A.nl then some (.i (A.ls j).length) else none) none) none
 | .max=>l2 vs (fun x y=>dN y (fun e st s=>bif isAt x&&Nat.beq st 2 then some (.n e 3 s) else none) none) none
 |_=>none
noncomputable def St.newL(A:St)(vs:List AV):St:={A with nl:=A.nl+1,ls:=up1 A.ls A.nl vs}
noncomputable def St.ax(A:St)(j:Nat)(vs:List AV):St:={A with ls:=up1 A.ls j vs}
noncomputable def zb(A:St)(j m:Nat)(vs:List AV)(k:AV->St->Bool):Bool:=Nat.ble (j+1) A.nl&&match vs with
 |[]=>Nat.beq m 1&&jW (A.ls j).getLast? fun v=>k v (A.ax j (A.ls j).dropLast)
 |v::r=>r.isEmpty&&Nat.beq m 0&&Nat.ble (A.ls j).length 1000&&k .none (A.ax j (A.ls j++[v]))
noncomputable def vq(ps:List Nat)(vs:List AV):Option Env:=bif Nat.beq ps.length vs.length then some fun x=>(ps.zip vs).lookup x else none
noncomputable def zB(A:St)(it:AV)(j:Nat):Option (Option AV):=vm it (fun i=>bif Nat.ble (i+1) A.nl then some (A.ls i)[j]? else none) (FT it (fun l=>some l[j]?) none)
noncomputable def Kr(v:Option AV)(k:Nat->Bool):Bool:=jW v fun v=>rW v k false
noncomputable def QI(v:Option AV)(k:Nat->Option St):Option St:=v.bind fun v=>rW v k none
noncomputable def C4(e:E)(k:Nat->Option St):Option St:=match e with
 | .var x=>k x
 |_=>none
noncomputable def mV(a:Nat)(e:E)(k:E->Option St):Option St:=match e with
 | .attr e b=>bif Nat.beq b a then k e else none
 |_=>none
noncomputable def Eu(ρ:Env)(e:E)(k:Nat->Option St):Option St:=C4 e fun y=>QI (ρ y) k
noncomputable def eB(b:Bool)(x:Option St):Option St:=bif b then x else none
noncomputable def xV(e:E):Option E:=match e with
 | .attr e b=>bif Nat.beq b 69 then some e else none
 |_=>none
noncomputable def jz(ρ:Env)(A:St)(s:Nat)(e:E):Option St:=match e with
 | .call f es=>l1 es (fun e=>Eu ρ e fun t=>eB (Nat.beq f 5&&Nat.beq s t) (z9 A s)) none
 | .blt b es=>(match b with
  | .max=>l2 es (fun x y=>mV 69 x fun x=>Eu ρ x fun t=>mV 68 y fun y=>Eu ρ y fun u=>eB (Nat.beq s t) (rY A s u)) none
  |_=>none)
 | .attr e b=>Eu ρ e fun t=>eB (Nat.beq b 68&&Nat.beq s t) (Gw A s)
 |_=>none
noncomputable def jr(ρ:Env)(A:St)(s:Nat)(e:E):Option St:=match e with
 | .bop o x y=>mV 66 x fun x=>mV 72 x fun x=>Eu ρ x fun t=>C4 y fun w=>(ρ w).bind fun v=>eB (gG v&&Nat.beq s t) ((A.R s).bind fun c=>match o with
  | .add=>jw A c 1
  | .sub=>jw A c 2
  |_=>none)
 |_=>none
noncomputable def pY(t:T):Option E:=match t with
 | .attr e a=>bif Nat.beq a 69 then some e else none
 |_=>none
noncomputable def pO(t:T):Option E:=match t with
 | .attr e a=>bif Nat.beq a 66 then(match e with
  | .attr e b=>bif Nat.beq b 72 then some e else none
  |_=>none) else none
 |_=>none
noncomputable def m9(ρ:Env)(e:E)(k:Nat->Bool):Bool:=match e with
 | .var y=>Kr (ρ y) k
 |_=>false
noncomputable def C5(ρ:Env)(e:E):Bool:=match e with
 | .var y=>jW (ρ y) isAt
 |_=>false
noncomputable def grow(A:St)(vs:List AV)(k:Bool->St->Bool):Bool:=match vs with
 |v::r=>rW v (fun s=>l2 r (fun x y=>isAt x&&dB y (fun c=>A.z s&&Nat.beq (A.se s) 0&&ask A (bif c then 4 else 6) s k) false) false) false
 |[]=>false
structure Am where
 ev:Env->St->E->(AV->St->Bool)->Bool
 evs:Env->St->List E->(List AV->St->Bool)->Bool
 evB:Env->St->Bool->List E->(AV->St->Bool)->Bool
 tst:Env->St->E->(Bool->St->Bool)->Bool
 tsts:Env->St->Bool->List E->(Bool->St->Bool)->Bool
 cal:St->Nat->List AV->(AV->St->Bool)->Bool
 ex:Env->St->S->(qN->Env->St->Bool)->Bool
 exs:Env->St->List S->(qN->Env->St->Bool)->Bool
 whl:Env->St->E->List S->(qN->Env->St->Bool)->Bool
 frl:Env->St->Nat->List S->AV->Nat->(qN->Env->St->Bool)->Bool
noncomputable def vh(v:AV)(k:Bool->Bool):Bool:=dB v k false
noncomputable def wc(ρ:Env)(x:Nat)(v:AV):Env:=fun y=>bif Nat.beq y x then some v else ρ y
noncomputable def oV(f:qN)(k:AV->Bool)(a:Bool):Bool:=match f with
 | .next=>a
 | .ret v=>k v
noncomputable def Gn(z:Am):Am where
 ev ρ A e k:=match e with
  | .none=>k .none A
  | .bool b=>k (.b b) A
  | .int i=>k (.i i) A
  | .var x=>jW (ρ x) fun v=>k v A
  | .attr e a=>z.ev ρ A e fun o A=>OI A o a fun v=>k v A
  | .bop o a b=>z.ev ρ A a fun x A=>z.ev ρ A b fun y A=>jW (ED o x y) fun v=>k v A
  | .not e=>z.ev ρ A e fun x A=>vh x fun b=>k (.b (!b)) A
  | .bool2 c es=>z.evB ρ A c es k
  | .cmp a o b=>match xV a with
   |some a=>C5 ρ b&&m9 ρ a fun s=>Dp A o s fun r A=>k (.b r) A
   |none=>z.ev ρ A a fun x A=>z.ev ρ A b fun y A=>qh A o x y fun r A=>k (.b r) A
  | .ite t a b=>z.tst ρ A t fun c A=>bif c then z.ev ρ A a k else z.ev ρ A b k
  | .list es=>z.evs ρ A es fun vs A=>k (.lst A.nl) (A.newL vs)
  | .tup es=>z.evs ρ A es fun vs A=>k (.tup vs) A
  | .rev e=>z.ev ρ A e fun o A=>vm o (fun j=>Nat.ble (j+1) A.nl&&k (.lst A.nl) (A.newL (A.ls j).reverse)) false
  | .call f args=>z.evs ρ A args fun vs A=>z.cal A f vs k
  | .meth e m args=>z.ev ρ A e fun o A=>vm o (fun j=>(Nat.beq m 0||Nat.beq m 1)&&z.evs ρ A args fun vs A=>zb A j m vs k) false
  | .blt b args=>z.evs ρ A args fun vs A=>jW (EV A b vs) fun v=>k v A
  |_=>false
 evs ρ A es k:=match es with
  |[]=>k [] A
  |e::r=>z.ev ρ A e fun v A=>z.evs ρ A r fun vs A=>k (v::vs) A
 evB ρ A c es k:=match es with
  |[]=>false
  |[e]=>z.ev ρ A e k
  |e::r=>z.ev ρ A e fun v A=>vh v fun b=>bif eb b c then z.evB ρ A c r k else k v A
 tst ρ A e k:=match e with
  | .not x=>z.tst ρ A x fun b A=>k (!b) A
  | .bool2 c es=>z.tsts ρ A c es k
  | .ite t a b=>z.tst ρ A t fun c A=>bif c then z.tst ρ A a k else z.tst ρ A b k
  |e=>z.ev ρ A e fun v A=>vh v fun b=>k b A
 tsts ρ A c es k:=match es with
  |[]=>k c A
  |e::r=>z.tst ρ A e fun b A=>bif eb b c then z.tsts ρ A c r k else k b A
 cal A f vs k:=bif Nat.beq f 3 then l1 vs (fun v=>rW v (fun s=>jW (hd A s) fun A=>k .none A) false) false
  else bif Nat.beq f 6 then l1 vs (fun v=>rW v (fun s=>jW (AC A s) fun A=>k .none A) false) false
  else bif Nat.beq f 23 then grow A vs fun b A=>k (.b b) A
  else jW (GY f) fun F=>jW (vq F.ps vs) fun ρ=>z.exs ρ A F.body fun r _ A=>oV r (fun v=>k v A) (k .none A)
 ex ρ A s k:=match s with
  | .asg t e=>match pY t with
   |some x=>m9 ρ x fun s=>jW (jz ρ A s e) fun A=>k .next ρ A
   |none=>match pO t with
    |some x=>m9 ρ x fun s=>jW (jr ρ A s e) fun A=>k .next ρ A
    |none=>z.ev ρ A e fun v A=>match t with
     | .var x=>k .next (wc ρ x v) A
     | .attr e1 a=>z.ev ρ A e1 fun o A=>jW (K3 A o a v) fun A=>k .next ρ A
     |_=>false
  | .expr e=>z.ev ρ A e fun _ A=>k .next ρ A
  | .ret e=>z.ev ρ A e fun v A=>k (.ret v) ρ A
  | .ret0=>k (.ret .none) ρ A
  | .ite t a b=>z.tst ρ A t fun c A=>bif c then z.exs ρ A a k else z.exs ρ A b k
  | .while t b=>z.whl ρ A t b k
  | .for t it b=>match t with
   | .var x=>z.ev ρ A it fun v A=>z.frl ρ A x b v 0 k
   |_=>false
  |_=>false
 exs ρ A ss k:=match ss with
  |[]=>k .next ρ A
  |s::r=>z.ex ρ A s fun f ρ A=>oV f (fun v=>k (.ret v) ρ A) (z.exs ρ A r k)
 whl ρ A t b k:=z.tst ρ A t fun c A=>bif c then(z.exs ρ A b fun f ρ A=>oV f (fun v=>k (.ret v) ρ A) (z.whl ρ A t b k)) else k .next ρ A
 frl ρ A x b it j k:=jW (zB A it j) fun r=>match r with
  |none=>k .next ρ A
  |some v=>z.exs (wc ρ x v) A b fun f ρ A=>oV f (fun v=>k (.ret v) ρ A) (z.frl ρ A x b it (j+1) k)
noncomputable def am:Nat->Am
 |0=>⟨fun _ _ _ _=>false,fun _ _ _ _=>false,fun _ _ _ _ _=>false,fun _ _ _ _=>false,fun _ _ _ _ _=>false,fun _ _ _ _=>false,fun _ _ _ _=>false,fun _ _ _ _=>false,fun _ _ _ _ _=>false,fun _ _ _ _ _ _ _=>false⟩
 |n+1=>Gn (am n)
noncomputable def at_{α:Type}(l:List (Option α))(s:Nat):Option α:=(l[s]?).getD none
noncomputable def parent(L R:List (Option Nat))(t:Nat):Nat->Option Nat
 |0=>none
 |s+1=>bif oN (at_ L s) t||oN (at_ R s) t then some s else parent L R t s
noncomputable def shapes:List (Nat×Option Nat×List (Option Nat)×List (Option Nat)×List Bool):=[
 (0,none,[],[],[]),
 (1,some 0,[],[],[]),
 (2,some 0,[],[some 1],[false,true]),
 (2,some 1,[none,some 0],[],[true]),
 (3,some 1,[none,some 0],[none,some 2],[true,false,true]),
 (3,some 1,[none,some 0],[none,some 2],[]),
 (4,some 2,[none,some 0,some 1],[none,none,some 3],[true]),
 (4,some 2,[none,none,some 0],[some 1,none,some 3],[false,true]),
 (4,some 1,[none,some 0,none,some 2],[none,some 3],[false,false,true]),
 (4,some 1,[none,some 0],[none,some 2,some 3],[false,false,false,true])]
noncomputable def start(sh:Nat×Option Nat×List (Option Nat)×List (Option Nat)×List Bool)(k:Nat)(c:Bool):St:=
 let U:=fun t=>parent sh.2.2.1 sh.2.2.2.1 t sh.1
 let A:St:=⟨k,sh.1,sh.2.1,at_ sh.2.2.1,at_ sh.2.2.2.1,U,fun s=>cond (Nat.beq s sh.1) c ((sh.2.2.2.2[s]?).getD false),fun s=>Nat.beq s sh.1,fun _ _=>false,fun _ _=>false,fun _=>false,fun _=>0,fun _=>0,[],0,fun _=>[]⟩
 {A with mm:=fun u t=>ic A t&&ic A u&&under A t 5 u,em:=fun u t=>ic A t&&ic A u&&under A t 5 u}
noncomputable def B9(A:St):Nat->Option Nat->List Nat
 |0,_=>[]
 |_,none=>[]
 |f+1,some s=>B9 A f (A.L s)++s::B9 A f (A.R s)
noncomputable def aR:List Nat->Nat->Nat
 |[],_=>0
 |a::_,0=>a
 |_::r,n+1=>aR r n
noncomputable def vM(io:List Nat)(o:Option Nat):Option Nat:=match o with
 |none=>none
 |some s=>some (aR io s)
noncomputable def same(A B:St)(io:List Nat)(n:Nat):Bool:=wK A.root (vM io B.root)&&dO n fun s=>
 wK (A.L (aR io s)) (vM io (B.L s))&&wK (A.R (aR io s)) (vM io (B.R s))&&wK (A.U (aR io s)) (vM io (B.U s))&&eb (A.C (aR io s)) (B.C s)&&
 dO n fun t=>(!B.mm s t||A.mm (aR io s) (aR io t))&&(!B.em s t||A.em (aR io s) (aR io t))
noncomputable def anyS(n:Nat)(p:St->Bool):Bool:=shapes.any fun sh=>Nat.beq sh.1 n&&p (start sh n false)
noncomputable def upto:Nat->List Nat
 |0=>[]
 |n+1=>upto n++[n]
noncomputable def Di(io:List Nat)(n k:Nat)(p:Nat->Bool):Bool:=(dO n fun s=>Nat.ble (aR io s+1) k&&p (aR io s)&&dO n fun t=>Nat.beq s t|| !Nat.beq (aR io s) (aR io t))&&dO k fun t=> !p t||Cv n fun s=>Nat.beq (aR io s) t
noncomputable def ME(A:St)(io:List Nat)(m n:Nat):Bool:=dO m fun s=>bif Nat.beq (aR io s) n then kn A 0 (aR io (s+1)) true else bif Nat.beq (aR io (s+1)) n then kn A 0 (aR io s) false else Nat.ble (aR io s) (aR io (s+1))&&Nat.ble (aR io (s+1)+1) n
noncomputable def zero(A:St):Bool:=dO A.k fun s=>zU (A.sb s)&&zU (A.se s)
noncomputable def HL(n:Nat)(A:St):Bool:=
 let io:=B9 A 6 A.root
 Di io (n+1) (n+1) (fun _=>true)&&ME A io n n&&zero A&&anyS (n+1) fun B=>same A B io (n+1)
noncomputable def AT(c:Bool):Bool:=shapes.all fun sh=> !Nat.ble sh.1 3||(am 100).cal (start sh (sh.1+1) c) 13 [.tr, .nd sh.1] fun _ A=>HL sh.1 A
noncomputable def Dc(n x:Nat)(A:St):Bool:=
 let io:=B9 A 6 A.root
 Di io (n - 1) n (fun t=> !Nat.beq t x)&&ME A io (n - 2) n&&zero A&&A.z x&&(match A.L x,A.R x,A.U x with|none,none,none=>true|_,_,_=>false)&&anyS (n - 1) fun B=>same A B io (n - 1)
noncomputable def Ix:Bool:=shapes.all fun sh=>dO sh.1 fun x=>(am 100).cal (start sh sh.1 false) 16 [.tr, .nd x] fun _ A=>Dc sh.1 x A
noncomputable def tZ(s:Nat):List AV->Bool
 |[]=>false
 | .nd t::r=>Nat.beq s t||tZ s r
 |_::r=>tZ s r
noncomputable def BZ(a:Nat):List AV->Bool
 |[]=>true
 | .nd t::r=>Nat.ble a t&&BZ (t+1) r
 |_::r=>false
noncomputable def Lq(B:St)(n:Nat)(v:AV)(A:St):Bool:=match v with
 | .lst j=>Nat.ble (j+1) A.nl&&BZ 0 (A.ls j)&&(dO n fun s=>bif tZ s (A.ls j) then A.z s&&kn A 1 s true&&kn A 2 s true else ir A 1 false s||kn A 2 s false)&&zero A&&same A B (upto n) n
 |_=>false
noncomputable def Qt:Bool:=shapes.all fun sh=>(am 100).cal (start sh sh.1 false) 21 [.tr, .at_, .at_] fun v A=>Lq (start sh sh.1 false) sh.1 v A
noncomputable def PR:Bool:=shapes.all fun sh=>dO sh.1 fun x=>(am 100).cal (start sh sh.1 false) 4 [.nd x] fun _ A=>A.z x&&zero A&&same A (start sh sh.1 false) (upto sh.1) sh.1
noncomputable def L7(c:Bool)(B:St)(n:Nat)(A:St):Bool:=(dO n fun s=>
  (match A.sb s with|0=>rP A 1 true s n||kn A 2 s false|1=>ir A 1 false s|_=>false)&&
  (match A.se s with|0=>kn A (bif c then 4 else 6) s false||kn A 2 s false|1=>kn A (bif c then 4 else 6) s true||ir A 1 false s|_=>false))&&same A B (upto n) n
noncomputable def JL(c:Bool):Bool:=shapes.all fun sh=>(am 100).cal (start sh sh.1 false) 25 [.tr, .at_, .many, .b c] fun _ A=>L7 c (start sh sh.1 false) sh.1 A
noncomputable def Mk(B:St)(n:Nat)(A:St):Bool:=(dO n fun s=>
  (match A.sb s with|0=>rP A 1 true s n||kn A 3 s false|2=>ir A 5 true s|3=>ir A 1 false s|_=>false)&&
  (match A.se s with|0=>kn A 3 s false|2=>ir A 5 true s|3=>kn A 3 s true||ir A 1 false s|_=>false))&&same A B (upto n) n
noncomputable def QE:Bool:=shapes.all fun sh=>(am 100).cal (start sh sh.1 false) 26 [.tr, .at_, .many] fun _ A=>Mk (start sh sh.1 false) sh.1 A
noncomputable def vR(n:Nat):Option Nat->Bool
 |none=>true
 |some t=>Nat.ble (t+1) n
noncomputable def JT:Bool:=shapes.all fun sh=>vR sh.1 sh.2.1&&(dO sh.1 fun s=>vR sh.1 (at_ sh.2.2.1 s)&&vR sh.1 (at_ sh.2.2.2.1 s)&&vR sh.1 (parent sh.2.2.1 sh.2.2.2.1 s sh.1))&&wK (at_ sh.2.2.1 sh.1) none&&wK (at_ sh.2.2.2.1 sh.1) none&&wK (parent sh.2.2.1 sh.2.2.2.1 sh.1 sh.1) none
structure Gm where
 id:Nat->Nat
 tr:Nat
 k:Nat
 x:Nat
 b0:Nat->Int
 e0:Nat->Int
 rr:Nat->Bool
 mark:Int
 many:Int
 nl0:Nat
 G0:H
 inj:∀s t,s<k->t<k->id s=id t->s=t
 mpos:0<many
 le:∀s,s<x->b0 s<=e0 s
 ord:∀s t,s<=t->t<x->b0 s<=b0 t
 xk:x<=k
noncomputable def Gm.sv(Γ:Gm)(st:Nat)(v:Int):Int:=match st with
 |0=>v
 |1=>v+Γ.many
 |2=>v - Γ.many
 |_=>if Γ.mark<v - Γ.many then v - Γ.many else Γ.mark
noncomputable def Gm.val(Γ:Gm)(e:Bool)(s:Nat):Int:=match e with
 |true=>Γ.e0 s
 |false=>Γ.b0 s
noncomputable def bn(Γ:Gm):AV->V->Prop:=AV.rec (motive_1:=fun _=>V->Prop) (motive_2:=fun _=>List V->Prop)
 (fun w=>w= .none\/w= .ref 179 none) (fun s w=>s<Γ.k/\w= .ref 179 (some (Γ.id s))) (fun w=>w= .ref 180 (some Γ.tr)) (fun v w=>w= .bool v) (fun z w=>w= .int z) (fun w=>∃z,w= .int z) (fun w=>w= .int Γ.mark) (fun w=>w= .int Γ.many) (fun w=>w= .int (Γ.mark+Γ.many)) (fun e st s w=>w= .int (Γ.sv st (Γ.val e s))) (fun j w=>w= .list (Γ.nl0+j)) (fun _ l w=>∃ws,w= .tup ws/\l ws) (fun w=>w=[]) (fun _ _ v l w=>∃u us,w=u::us/\v u/\l us)
noncomputable def bv(Γ:Gm):List AV->List V->Prop:=AV.rec_1 (motive_1:=fun _=>V->Prop) (motive_2:=fun _=>List V->Prop)
 (fun w=>w= .none\/w= .ref 179 none) (fun s w=>s<Γ.k/\w= .ref 179 (some (Γ.id s))) (fun w=>w= .ref 180 (some Γ.tr)) (fun v w=>w= .bool v) (fun z w=>w= .int z) (fun w=>∃z,w= .int z) (fun w=>w= .int Γ.mark) (fun w=>w= .int Γ.many) (fun w=>w= .int (Γ.mark+Γ.many)) (fun e st s w=>w= .int (Γ.sv st (Γ.val e s))) (fun j w=>w= .list (Γ.nl0+j)) (fun _ l w=>∃ws,w= .tup ws/\l ws) (fun w=>w=[]) (fun _ _ v l w=>∃u us,w=u::us/\v u/\l us)
section
variable{Γ:Gm}
theorem bn.none:bn Γ .none .none:= .inl rfl
theorem bn.nil:bn Γ .none (.ref 179 Option.none):= .inr rfl
theorem bn.nd{s}(h:s<Γ.k):bn Γ (.nd s) (.ref 179 (some (Γ.id s))):=⟨h,rfl⟩
theorem bn.tr:bn Γ .tr (.ref 180 (some Γ.tr)):=rfl
theorem bn.b{v}:bn Γ (.b v) (.bool v):=rfl
theorem bn.i{z}:bn Γ (.i z) (.int z):=rfl
theorem bn.any{z}:bn Γ .any (.int z):=⟨z,rfl⟩
theorem bn.at_:bn Γ .at_ (.int Γ.mark):=rfl
theorem bn.many:bn Γ .many (.int Γ.many):=rfl
theorem bn.BI:bn Γ .BI (.int (Γ.mark+Γ.many)):=rfl
theorem bn.n{e st s}:bn Γ (.n e st s) (.int (Γ.sv st (Γ.val e s))):=rfl
theorem bn.lst{j}:bn Γ (.lst j) (.list (Γ.nl0+j)):=rfl
theorem bn.tup{l ws}(h:bv Γ l ws):bn Γ (.tup l) (.tup ws):=show ∃u,V.tup ws= .tup u/\bv Γ l u from⟨ws,rfl,h⟩
theorem bv.nil:bv Γ [] []:=rfl
theorem bv.cons{v w l ws}(h:bn Γ v w)(t:bv Γ l ws):bv Γ (v::l) (w::ws):=show ∃u us,w::ws=u::us/\bn Γ v u/\bv Γ l us from⟨w,ws,rfl,h,t⟩
end
noncomputable def Ep(A:St)(E:Nat->Int)(s:Nat):Int:=match A.U s with
 |none=>0
 |some p=>E p
noncomputable def d6(Γ:Gm)(q s:Nat):Bool:=match q with
 |0=>decide (Γ.b0 Γ.x<=Γ.b0 s)
 |1=>decide (Γ.b0 s<=Γ.mark)
 |2=>decide (Γ.e0 s>=Γ.mark)
 |3=>decide (Γ.e0 s>Γ.mark)
 |4=>decide (Γ.e0 s>Γ.mark)||decide (Γ.e0 s=Γ.mark)
 |5=>decide (Γ.b0 s>Γ.mark+Γ.many)
 |_=>decide (Γ.e0 s>Γ.mark)||(decide (Γ.e0 s=Γ.mark)&&Γ.rr s)
def tS(Γ:Gm)(c i:Nat):Prop:=(c=179/\∃s,s<Γ.k/\i=Γ.id s)\/(c=180/\i=Γ.tr)
structure Lk(Γ:Gm)(A:St)(G:H):Prop where
 root:G.Q 79 180 Γ.tr=A.root.map Γ.id
 rk:∀t,A.root=some t->t<Γ.k
 L:∀s,s<Γ.k->G.Q 71 179 (Γ.id s)=(A.L s).map Γ.id
 R:∀s,s<Γ.k->G.Q 72 179 (Γ.id s)=(A.R s).map Γ.id
 U:∀s,s<Γ.k->G.Q 74 179 (Γ.id s)=(A.U s).map Γ.id
 Lk:∀s,s<Γ.k->∀t,A.L s=some t->t<Γ.k
 Rk:∀s,s<Γ.k->∀t,A.R s=some t->t<Γ.k
 Uk:∀s,s<Γ.k->∀t,A.U s=some t->t<Γ.k
 C:∀s,s<Γ.k->G.B 10 179 (Γ.id s)=A.C s
noncomputable def iO(Γ:Gm)(A:St)(s:Nat):Int:=Γ.sv (A.se s) (Γ.e0 s)
structure Nm(Γ:Gm)(A:St)(E m:Nat->Int)(G:H):Prop where
 b:∀s,s<Γ.k->G.I 67 179 (Γ.id s)=Γ.sv (A.sb s) (Γ.b0 s) - E s
 e:∀s,s<Γ.k->G.I 68 179 (Γ.id s)=iO Γ A s - E s
 m:∀s,s<Γ.k->G.I 69 179 (Γ.id s)=m s - E s
 o:∀s,s<Γ.k->G.I 66 179 (Γ.id s)=E s - Ep A E s
structure Ft(Γ:Gm)(A:St)(E m:Nat->Int):Prop where
 z:∀s,s<Γ.k->A.z s=true->E s=0
 mm:∀s t,s<Γ.k->t<Γ.k->A.mm s t=true->m s<=m t
 em:∀s t,s<Γ.k->t<Γ.k->A.em s t=true->iO Γ A s<=m t
 me:∀s,s<Γ.k->A.me s=true->m s<=iO Γ A s
 qs:∀q s b,(q,s,b)∈A.qs->s<Γ.k/\d6 Γ q s=b
structure Ls(Γ:Gm)(A:St)(G:H):Prop where
 nl:G.nl=Γ.nl0+A.nl
 ls:∀j,j<A.nl->bv Γ (A.ls j) (G.lst (Γ.nl0+j))
 old:∀j,j<Γ.nl0->G.lst j=Γ.G0.lst j
structure Fr(Γ:Gm)(G:H):Prop where
 raw:G.raw=[]
 I:∀a c i,¬tS Γ c i->G.I a c i=Γ.G0.I a c i
 B:∀a c i,¬tS Γ c i->G.B a c i=Γ.G0.B a c i
 Q:∀a c i,¬tS Γ c i->G.Q a c i=Γ.G0.Q a c i
 I97:∀i,G.I 97 179 i=Γ.G0.I 97 179 i
 B91:∀i,G.B 91 179 i=Γ.G0.B 91 179 i
 B92:∀i,G.B 92 179 i=Γ.G0.B 92 179 i
 rr:∀s,s<Γ.k->Γ.G0.B 92 179 (Γ.id s)=Γ.rr s
 N:G.N=Γ.G0.N
 F:G.F=Γ.G0.F
 ni:G.ni=Γ.G0.ni
 dct:G.dct=Γ.G0.dct
 nd:G.nd=Γ.G0.nd
structure Rel(Γ:Gm)(A:St)(G:H):Prop where
 k:A.k=Γ.k
 x:A.x=Γ.x
 l:Lk Γ A G
 s:Ls Γ A G
 f:Fr Γ G
 n:∃E m,Nm Γ A E m G/\Ft Γ A E m
theorem dJ{c x y:Bool}(h:cond c x y=true):(c=true/\x=true)\/(c=false/\y=true):=by
 rcases c with _|_
 ·exact .inr ⟨rfl,h⟩
 ·exact .inl ⟨rfl,h⟩
theorem aO{α:Type}{c:Bool}{x:Option α}{r:α}(h:(cond c x none)=some r):c=true/\x=some r:=by
 rcases c with _|_
 ·exact aS h
 ·exact⟨rfl,h⟩
theorem aa{a b:Bool}(h:(a&&b)=true):a=true/\b=true:=Bool.and_eq_true_iff.mp h
theorem fI{a b:Bool}(h:(a||b)=true):a=true\/b=true:=Bool.or_eq_true_iff.mp h
theorem cU{α:Type}{x:Option α}{k:α->Bool}(h:jW x k=true):∃a,x=some a/\k a=true:=by
 rcases x with _|a
 ·exact ft h
 ·exact⟨a,rfl,h⟩
theorem aF{a b:Nat}(h:Nat.beq a b=true):a=b:=bA h
theorem Fi{a b:Nat}(h:Nat.beq a b=false):a≠b:=fun e=>by subst e;rw[Nat.beq_refl] at h;exact nomatch h
theorem gm{a b:Nat}(h:a≠b):Nat.beq a b=false:=by
 cases q:Nat.beq a b
 ·rfl
 ·exact absurd (aF q) h
theorem cc{a b:Nat}(h:Nat.ble (a+1) b=true):a<b:=bP h
theorem bj{p:Nat->Bool}{n:Nat}:dO n p=true->∀t,t<n->p t=true:=by
 induction n with
 |zero=>exact fun _ t ht=>absurd ht (Nat.not_lt_zero t)
 |succ n ih=>
  intro h t ht
  obtain⟨h1,h2⟩:=aa h
  rcases Nat.lt_or_ge t n with q|q
  ·exact ih h2 t q
  ·rw[Nat.le_antisymm (bD ht) q];exact h1
theorem o6{o:Option Nat}{s:Nat}(h:oN o s=true):o=some s:=by
 rcases o with _|t
 ·exact ft h
 ·rw[aF h]
theorem mn{s:Nat}:oN (some s) s=true:=Nat.beq_refl s
theorem ay{α:Type}{f:Nat->α}{s:Nat}{v:α}:up1 f s v s=v:=by unfold up1;rw[Nat.beq_refl];rfl
theorem aB{α:Type}{f:Nat->α}{s t:Nat}{v:α}(h:t≠s):up1 f s v t=f t:=by unfold up1;rw[gm h];rfl
theorem lQ{α:Type}{f:Nat->Nat->Nat->α}{a c i:Nat}{v:α}:iH f a c i v a c i=v:=by unfold iH;simp only[Nat.beq_refl];rfl
theorem iw{α:Type}{f:Nat->Nat->Nat->α}{a c i a' c' i':Nat}{v:α}(h:a'≠a):iH f a c i v a' c' i'=f a' c' i':=by unfold iH;rw[gm h];rfl
theorem Ah{α:Type}{f:Nat->Nat->Nat->α}{a c i a' c' i':Nat}{v:α}(h:c'≠c):iH f a c i v a' c' i'=f a' c' i':=by
 unfold iH;rw[gm h];cases Nat.beq a' a<;>rfl
theorem uF{α:Type}{f:Nat->Nat->Nat->α}{a c i a' c' i':Nat}{v:α}(h:i'≠i):iH f a c i v a' c' i'=f a' c' i':=by
 unfold iH;rw[gm h];cases Nat.beq a' a<;>cases Nat.beq c' c<;>rfl
theorem nU{α:Type}{Γ:Gm}{f:Nat->Nat->Nat->α}{a s t:Nat}{v:α}(hs:s<Γ.k)(ht:t<Γ.k):iH f a 179 (Γ.id s) v a 179 (Γ.id t)=up1 (fun t=>f a 179 (Γ.id t)) s v t:=by
 by_cases q:t=s
 ·subst q;rw[lQ,ay]
 ·rw[uF fun e=>q (Γ.inj _ _ ht hs e),aB q]
theorem vn{α:Type}{Γ:Gm}{f:Nat->Nat->Nat->α}{a c i a' c' i':Nat}{v:α}(h:tS Γ c i)(h':¬tS Γ c' i'):iH f a c i v a' c' i'=f a' c' i':=by
 by_cases q:c'=c/\i'=i
 ·rw[q.1,q.2] at h';exact absurd h h'
 ·by_cases q2:c'=c
  ·exact uF fun e=>q ⟨q2,e⟩
  ·exact Ah q2
theorem dC{Γ:Gm}{s:Nat}(h:s<Γ.k):tS Γ 179 (Γ.id s):= .inl ⟨rfl,s,h,rfl⟩
theorem zL{Γ:Gm}:tS Γ 180 Γ.tr:= .inr ⟨rfl,rfl⟩
section
variable{Γ:Gm}{A A':St}{G:H}{a c i s:Nat}
theorem Fr.sI{x:Int}(f:Fr Γ G)(h:tS Γ c i)(ha:a≠97):Fr Γ (G.sI a c i x):=
 ⟨by show bL a c i G.raw=[];rw[f.raw];rfl,fun _ _ _ n=>(vn h n).trans (f.I _ _ _ n),f.B,f.Q,fun _=>(iw ha.symm).trans (f.I97 _),f.B91,f.B92,f.rr,f.N,f.F,f.ni,f.dct,f.nd⟩
theorem Fr.sB{x:Bool}(f:Fr Γ G)(h:tS Γ c i)(h1:a≠91)(h2:a≠92):Fr Γ (G.sB a c i x):=
 ⟨by show bL a c i G.raw=[];rw[f.raw];rfl,f.I,fun _ _ _ n=>(vn h n).trans (f.B _ _ _ n),f.Q,f.I97,fun _=>(iw h1.symm).trans (f.B91 _),fun _=>(iw h2.symm).trans (f.B92 _),f.rr,f.N,f.F,f.ni,f.dct,f.nd⟩
theorem Fr.sQ{x:Option Nat}(f:Fr Γ G)(h:tS Γ c i):Fr Γ (G.sQ a c i x):=
 ⟨by show bL a c i G.raw=[];rw[f.raw];rfl,f.I,f.B,fun _ _ _ n=>(vn h n).trans (f.Q _ _ _ n),f.I97,f.B91,f.B92,f.rr,f.N,f.F,f.ni,f.dct,f.nd⟩
theorem gO{x:Option Nat}{a' c' i':Nat}(h:a'≠a):(G.sQ a c i x).Q a' c' i'=G.Q a' c' i':=iw h
theorem bw{x:Int}{a' c' i':Nat}(h:a'≠a):(G.sI a c i x).I a' c' i'=G.I a' c' i':=iw h
theorem vH{x:Option Nat}{t:Nat}(hs:s<Γ.k)(ht:t<Γ.k):(G.sQ a 179 (Γ.id s) x).Q a 179 (Γ.id t)=up1 (fun t=>G.Q a 179 (Γ.id t)) s x t:=nU hs ht
theorem fA{x:Int}{t:Nat}(hs:s<Γ.k)(ht:t<Γ.k):(G.sI a 179 (Γ.id s) x).I a 179 (Γ.id t)=up1 (fun t=>G.I a 179 (Γ.id t)) s x t:=nU hs ht
theorem Go{x:Bool}{t:Nat}(hs:s<Γ.k)(ht:t<Γ.k):(G.sB a 179 (Γ.id s) x).B a 179 (Γ.id t)=up1 (fun t=>G.B a 179 (Γ.id t)) s x t:=nU hs ht
theorem yM{o:Option Nat}(h:∀t,o=some t->t<Γ.k):bn Γ (qU o) (.ref 179 (o.map Γ.id)):=by
 rcases o with _|t
 ·exact .nil
 ·exact .nd (h t rfl)
theorem eH{β:Type}{v:AV}{k:Nat->β}{z r:β}(h:rW v k z=r):(∃s,v= .nd s/\k s=r)\/z=r:=by
 rcases v with _|_|_|_|_|_|_|_|_|_|_|_<;>first|exact .inr h|exact .inl ⟨_,rfl,h⟩
theorem np{β:Type}{v:AV}{k:Bool->Nat->Nat->β}{z r:β}(h:dN v k z=r):(∃e st s,v= .n e st s/\k e st s=r)\/z=r:=by
 rcases v with _|_|_|_|_|_|_|_|_|_|_|_<;>first|exact .inr h|exact .inl ⟨_,_,_,rfl,h⟩
theorem uN{β:Type}{v:AV}{k:Int->β}{z r:β}(h:dI v k z=r):(∃s,v= .i s/\k s=r)\/z=r:=by
 rcases v with _|_|_|_|_|_|_|_|_|_|_|_<;>first|exact .inr h|exact .inl ⟨_,rfl,h⟩
theorem Bk{β:Type}{v:AV}{k:Bool->β}{z r:β}(h:dB v k z=r):(∃s,v= .b s/\k s=r)\/z=r:=by
 rcases v with _|_|_|_|_|_|_|_|_|_|_|_<;>first|exact .inr h|exact .inl ⟨_,rfl,h⟩
theorem kN{β:Type}{v:AV}{k:Nat->β}{z r:β}(h:vm v k z=r):(∃s,v= .lst s/\k s=r)\/z=r:=by
 rcases v with _|_|_|_|_|_|_|_|_|_|_|_<;>first|exact .inr h|exact .inl ⟨_,rfl,h⟩
theorem DG{β:Type}{v:AV}{k:List AV->β}{z r:β}(h:FT v k z=r):(∃s,v= .tup s/\k s=r)\/z=r:=by
 rcases v with _|_|_|_|_|_|_|_|_|_|_|_<;>first|exact .inr h|exact .inl ⟨_,rfl,h⟩
theorem vE{α β:Type}{vs:List α}{k:α->β}{z r:β}(h:l1 vs k z=r):(∃x,vs=[x]/\k x=r)\/z=r:=by
 rcases vs with _|⟨x,_|_⟩
 ·exact .inr h
 ·exact .inl ⟨x,rfl,h⟩
 ·exact .inr h
theorem A8{α β:Type}{vs:List α}{k:α->α->β}{z r:β}(h:l2 vs k z=r):(∃x y,vs=[x,y]/\k x y=r)\/z=r:=by
 rcases vs with _|⟨x,_|⟨y,_|_⟩⟩
 ·exact .inr h
 ·exact .inr h
 ·exact .inl ⟨x,y,rfl,h⟩
 ·exact .inr h
theorem gn{v:AV}(h:isNone v=true):v= .none:=by
 rcases v with _|_|_|_|_|_|_|_|_|_|_|_<;>first|rfl|exact ft h
theorem uR{v:AV}(h:Ec v=true):v= .tr:=by
 rcases v with _|_|_|_|_|_|_|_|_|_|_|_<;>first|rfl|exact ft h
theorem qc{v:AV}(h:isAny v=true):v= .any:=by
 rcases v with _|_|_|_|_|_|_|_|_|_|_|_<;>first|rfl|exact ft h
theorem eE{v:AV}(h:isAt v=true):v= .at_:=by
 rcases v with _|_|_|_|_|_|_|_|_|_|_|_<;>first|rfl|exact ft h
theorem gx{v:AV}(h:gG v=true):v= .many:=by
 rcases v with _|_|_|_|_|_|_|_|_|_|_|_<;>first|rfl|exact ft h
theorem yT{v:AV}(h:uS v=true):v= .BI:=by
 rcases v with _|_|_|_|_|_|_|_|_|_|_|_<;>first|rfl|exact ft h
section
variable{w:V}
theorem ke(h:bn Γ .none w):w= .none\/w= .ref 179 none:=h
theorem ux(h:bn Γ (.nd s) w):s<Γ.k/\w= .ref 179 (some (Γ.id s)):=h
theorem NX(h:bn Γ .tr w):w= .ref 180 (some Γ.tr):=h
theorem vB{b:Bool}(h:bn Γ (.b b) w):w= .bool b:=h
theorem vI{b:Int}(h:bn Γ (.i b) w):w= .int b:=h
theorem Gi(h:bn Γ .any w):∃z,w= .int z:=h
theorem Ae(h:bn Γ .at_ w):w= .int Γ.mark:=h
theorem o8(h:bn Γ .many w):w= .int Γ.many:=h
theorem J8(h:bn Γ .BI w):w= .int (Γ.mark+Γ.many):=h
theorem vN{e:Bool}{st s:Nat}(h:bn Γ (.n e st s) w):w= .int (Γ.sv st (Γ.val e s)):=h
theorem vQ{j:Nat}(h:bn Γ (.lst j) w):w= .list (Γ.nl0+j):=h
theorem KQ{l:List AV}(h:bn Γ (.tup l) w):∃ws,w= .tup ws/\bv Γ l ws:=h
theorem hZ{ws:List V}(h:bv Γ [] ws):ws=[]:=h
theorem df{v:AV}{l:List AV}{ws:List V}(h:bv Γ (v::l) ws):∃u us,ws=u::us/\bn Γ v u/\bv Γ l us:=h
end
theorem AE{v:AV}{w:V}{k:Option Nat->Option St}(h:qM v k=some A')(r:bn Γ v w):∃q:Option Nat,k q=some A'/\(∀t,q=some t->t<Γ.k)/\∀G:H,∀a c i,∀d,d=179->H.set G (.ptr d) a c i w=some (G.sQ a c i (q.map Γ.id)):=by
 rcases eH h with⟨s,rfl,h⟩|h
 ·obtain⟨hs,rfl⟩:=ux r
  refine⟨_,h,fun _ e=>?_,fun G a c i d e=>?_⟩
  ·obtain rfl:=ag e;exact hs
  ·subst e;rfl
 ·obtain⟨h1,h2⟩:=aO h
  rw[gn h1] at r
  refine⟨none,h2,fun _ e=>(nomatch e),fun G a c i d e=>?_⟩
  subst e
  rcases ke r with rfl|rfl<;>rfl
theorem kr{c:Bool}(h:Az c A=some A'):c=true/\A=A':=by
 obtain⟨h1,h2⟩:=aO h
 obtain rfl:=ag h2
 exact⟨h1,rfl⟩
theorem kT{t:Ty}(hr:G.raw=[])(h:P.ty c a=some t):rT P G (.ref c (some i)) a=some (G.get t a c i):=by
 unfold rT
 dsimp only
 rw[h,hr]
 rfl
theorem nG{t:Ty}{v:V}(h:P.ty c a=some t):pH P G (.ref c (some i)) a v=G.set t a c i v:=by
 unfold pH
 dsimp only
 rw[h]
end
section
variable{Γ:Gm}{A A':St}{G:H}{q s:Nat}
theorem oZ{b:Bool}{l:List (Nat×Nat×Bool)}:iT l q s=some b->(q,s,b)∈l:=by
 induction l with
 |nil=>exact aS
 |cons x r ih=>
  intro h
  have h:(bif Nat.beq x.1 q&&Nat.beq x.2.1 s then some x.2.2 else iT r q s)=some b:=h
  rcases e:Nat.beq x.1 q&&Nat.beq x.2.1 s with _|_
  ·rw[e] at h;exact cH _ (ih h)
  ·rw[e] at h
   obtain⟨h1,h2⟩:=aa e
   rw[←aF h1,←aF h2,←ag h];exact bN
theorem Rel.kq(R:Rel Γ A G){b:Bool}(h:(q,s,b)∈A.qs):s<Γ.k/\d6 Γ q s=b:=by
 obtain⟨E,m,_,f⟩:=R.n
 exact f.qs _ _ _ h
theorem yv{b c:Bool}(h:eb b c=true):b=c:=by
 rcases b with _|_<;>rcases c with _|_<;>first|rfl|exact ft h
theorem fL(R:Rel Γ A G){v:Bool}(h:kn A q s v=true):s<Γ.k/\d6 Γ q s=v:=by
 delta kn at h
 rcases e:iT A.qs q s with _|b
 ·rw[e] at h;exact ft h
 ·rw[e] at h;rw[←yv h];exact R.kq (oZ e)
theorem zC(R:Rel Γ A G){v:Bool}{s:Nat}:ir A q v s=true->∃t,t<=s/\d6 Γ q t=v:=by
 induction s with
 |zero=>exact fun h=>⟨0,ab _,(fL R h).2⟩
 |succ s ih=>exact fun h=>(fI h).elim (fun h=>⟨_,ab _,(fL R h).2⟩) fun h=>(ih h).imp fun t w=>⟨aL w.1,w.2⟩
theorem zX(R:Rel Γ A G){v:Bool}{f:Nat}:∀{s:Nat},rP A q v s f=true->∃t,s<=t/\t<s+f/\d6 Γ q t=v:=by
 induction f with
 |zero=>exact fun h=>ft h
 |succ f ih=>exact fun {s} h=>(fI h).elim (fun h=>⟨_,ab _,Nat.lt_add_of_pos_right (Nat.succ_pos f),(fL R h).2⟩) fun h=>(ih h).imp fun t w=>⟨aI w.1,Nat.add_succ s f▸Nat.succ_add s f▸w.2.1,w.2.2⟩
theorem late(R:Rel Γ A G)(hs:s<Γ.x)(h:ir A 1 false s=true):Γ.mark<Γ.b0 s:=by
 obtain⟨t,h1,h2⟩:=zC R h
 exact aT (Int.not_le.mp (bT h2)) (Γ.ord t s h1 hs)
theorem later(R:Rel Γ A G)(hs:s<Γ.x)(h:ir A 5 true s=true):Γ.mark+Γ.many<Γ.b0 s:=by
 obtain⟨t,h1,h2⟩:=zC R h
 exact aT (ao (p:=Γ.b0 t>Γ.mark+Γ.many) h2) (Γ.ord t s h1 hs)
theorem early(R:Rel Γ A G){f:Nat}(hf:s+f<=Γ.x)(h:rP A 1 true s f=true):Γ.b0 s<=Γ.mark:=by
 obtain⟨t,h1,h2,h3⟩:=zX R h
 exact ak (Γ.ord s t h1 (ae h2 hf)) (ao (p:=Γ.b0 t<=Γ.mark) h3)
theorem FJ{x:Int}(h:x<=Γ.mark):¬Γ.mark+Γ.many<x:=fun w=>Int.lt_irrefl _ (aT (Int.lt_trans (Int.lt_add_of_pos_right _ Γ.mpos) w) h)
section
variable{b:Bool}
theorem K5(R:Rel Γ A G)(hs:s<Γ.x)(hf:s+(A.x - s)<=Γ.x)(h:(bif ir A 1 false s||ir A 5 true s then some false else bif rP A 1 true s (A.x - s) then some true else none)=some b):d6 Γ 1 s=b:=by
 rcases e1:ir A 1 false s||ir A 5 true s with _|_
 ·rw[e1] at h
  obtain⟨h1,h2⟩:=aO h
  exact ag h2▸aK (early R hf h1)
 ·rw[e1] at h
  exact ag h▸bB fun w=>(fI e1).elim (fun e=>Int.not_le.mpr (late R hs e) w) fun e=>FJ w (later R hs e)
theorem JE(R:Rel Γ A G)(hs:s<Γ.x)(hf:s+(A.x - s)<=Γ.x)(h:(bif ir A 5 true s then some true else bif rP A 5 false s (A.x - s)||rP A 1 true s (A.x - s) then some false else none)=some b):d6 Γ 5 s=b:=by
 rcases e1:ir A 5 true s with _|_
 ·rw[e1] at h
  obtain⟨h1,h2⟩:=aO h
  refine ag h2▸bB fun w=>(fI h1).elim (fun e=>?_) fun e=>FJ (early R hf e) w
  obtain⟨t,h1,h2,h3⟩:=zX R e
  exact bT h3 (aT w (Γ.ord s t h1 (ae h2 hf)))
 ·rw[e1] at h
  exact ag h▸aK (later R hs e1)
theorem rJ(R:Rel Γ A G)(hs:s<Γ.x)(h:(bif ir A 1 false s then some true else none)=some b):decide (Γ.e0 s>Γ.mark)=true/\true=b:=by
 obtain⟨h1,h2⟩:=aO h
 exact⟨aK (aT (late R hs h1) (Γ.le s hs)),ag h2⟩
end
theorem yK(R:Rel Γ A G)(hs:s<A.x){b:Bool}(h:infer A q s=some b):d6 Γ q s=b:=by
 have hs':s<Γ.x:=R.x▸hs
 have hf:s+(A.x - s)<=Γ.x:=(Nat.add_sub_of_le (Nat.le_of_lt hs)).trans R.x▸ab _
 rcases q with _|_|_|_|_|_|_|q
 ·exact aS h
 ·exact K5 R hs' hf h
 ·exact aS h
 ·exact(rJ R hs' h).1.trans (rJ R hs' h).2
 ·exact(congrArg (· ||_) (rJ R hs' h).1).trans (rJ R hs' h).2
 ·exact JE R hs' hf h
 ·exact(congrArg (· ||_) (rJ R hs' h).1).trans (rJ R hs' h).2
 ·exact aS h
theorem Rel.addQ(R:Rel Γ A G){l:List (Nat×Nat×Bool)}(h:∀q s b,(q,s,b)∈l->s<Γ.k/\d6 Γ q s=b):Rel Γ (A.wQ l) G:=by
 obtain⟨E,m,n,f⟩:=R.n
 exact⟨R.k,R.x,⟨R.l.root,R.l.rk,R.l.L,R.l.R,R.l.U,R.l.Lk,R.l.Rk,R.l.Uk,R.l.C⟩,⟨R.s.nl,R.s.ls,R.s.old⟩,R.f,E,m,⟨n.b,n.e,n.m,n.o⟩,⟨f.z,f.mm,f.em,f.me,h⟩⟩
theorem Rel.uW(R:Rel Γ A G){b:Bool}(hs:s<Γ.k)(h:d6 Γ q s=b):Rel Γ (A.wQ ((q,s,b)::A.qs)) G:=
 R.addQ fun q' s' b' hm=>by
  rcases List.mem_cons.mp hm with e|e
  ·exact(congrArg (fun x=>x.2.1) e:s'=s)▸(congrArg (fun x=>x.1) e:q'=q)▸(congrArg (fun x=>x.2.2) e:b'=b)▸⟨hs,h⟩
  ·exact R.kq e
theorem uG(R:Rel Γ A G){k:Bool->St->Bool}(h:ask A q s k=true):s<Γ.k/\∃A',k (d6 Γ q s) A'=true/\Rel Γ A' G:=by
 obtain⟨h1,h2⟩:=aa h
 have hs:s<Γ.k:=R.k▸cc h1
 refine⟨hs,?_⟩
 rcases e:iT A.qs q s with _|b
 ·rw[e] at h2
  dsimp only at h2
  rcases e2:(bif Nat.ble (s+1) A.x then infer A q s else none) with _|b
  ·rw[e2] at h2
   obtain⟨h3,h4⟩:=aa h2
   rcases e5:d6 Γ q s with _|_
   ·exact⟨_,h4,R.uW hs e5⟩
   ·exact⟨_,h3,R.uW hs e5⟩
  ·rw[e2] at h2
   obtain⟨e3,e4⟩:=aO e2
   have:=yK R (cc e3) e4
   rw[this]
   exact⟨_,h2,R.uW hs this⟩
 ·rw[e] at h2;rw[(R.kq (oZ e)).2];exact⟨A,h2,R⟩
theorem oY(R:Rel Γ A G)(h:∀t,t<Γ.k->A.em t s=true->A.se t=0->d6 Γ q t=false)(n:Nat):n<=Γ.k->∀p t b,(p,t,b)∈facts A q s n->t<Γ.k/\d6 Γ p t=b:=by
 induction n with
 |zero=>exact fun _ p t b hm=>R.kq hm
 |succ n ih=>
  intro hn p t b hm
  have hm:(p,t,b)∈(bif A.em n s&&Nat.beq (A.se n) 0 then(q,n,false)::facts A q s n else facts A q s n):=hm
  rcases e:A.em n s&&Nat.beq (A.se n) 0 with _|_
  ·rw[e] at hm;exact ih (aI hn) p t b hm
  ·rw[e] at hm
   rcases List.mem_cons.mp hm with e1|e1
   ·obtain⟨e2,e3⟩:=aa e
    have e4:=congrArg (fun x=>x.2.1) e1
    have e5:=congrArg (fun x=>x.1) e1
    have e6:=congrArg (fun x=>x.2.2) e1
    dsimp only at e4 e5 e6
    rw[e4,e5,e6]
    exact⟨hn,h n hn e2 (aF e3)⟩
   ·exact ih (aI hn) p t b e1
theorem DD{p:Prop}[Decidable p]{c:Option Bool}{k:Bool->St->Bool}{A1 A2:St}(e:c=some (decide p))(h1:k true A1=true)(h2:k false A2=true)(f:p->Rel Γ A1 G)(g:¬p->Rel Γ A2 G):∃b A',c=some b/\k b A'=true/\Rel Γ A' G:=by
 by_cases q:p
 ·exact⟨true,A1,e.trans (congrArg some (aK q)),h1,f q⟩
 ·exact⟨false,A2,e.trans (congrArg some (bB q)),h2,g q⟩
theorem AF(R:Rel Γ A G){o:Cm}{k:Bool->St->Bool}(h:Dp A o s k=true):s<Γ.k/\∃b A',kg G o (.int (G.I 69 179 (Γ.id s))) (.int Γ.mark)=some b/\k b A'=true/\Rel Γ A' G:=by
 obtain⟨h0,h2⟩:=aa h
 obtain⟨hz,h1⟩:=aa h0
 have hs:s<Γ.k:=R.k▸cc h1
 refine⟨hs,?_⟩
 obtain⟨E,m,n,f⟩:=R.n
 have hm:G.I 69 179 (Γ.id s)=m s:=by rw[n.m s hs,f.z s hs hz];exact Int.sub_zero _
 rw[hm]
 have em:∀t,t<Γ.k->A.em t s=true->A.se t=0->Γ.e0 t<=m s:=fun t ht h1 h2=>by
  have this:Γ.sv (A.se t) (Γ.e0 t)<=m s:=f.em t s ht hs h1
  rw[h2] at this
  exact this
 have kk:A.k<=Γ.k:=Nat.le_of_eq R.k
 have lo:m s<Γ.mark->Rel Γ (A.wQ (facts A 2 s A.k)) G:=fun hl=>R.addQ (oY (q:=2) R (fun t ht h1 h2=>bB fun w=>Int.not_le.mpr hl (ak w (em t ht h1 h2))) A.k kk)
 have lo2:m s<=Γ.mark->Rel Γ (A.wQ (facts A 3 s A.k)) G:=fun hl=>R.addQ (oY (q:=3) R (fun t ht h1 h2=>bB fun w=>Int.not_le.mpr w (ak (em t ht h1 h2) hl)) A.k kk)
 clear em hm f n h h0 hz h1
 revert h2
 induction o with
 |lt=>exact fun h2=>DD rfl (aa h2).1 (aa h2).2 lo fun _=>R
 |gt=>exact fun h2=>DD rfl (aa h2).2 (aa h2).1 (fun _=>R) fun q=>lo2 (Int.not_lt.mp q)
 |ge=>exact fun h2=>DD rfl (aa h2).2 (aa h2).1 (fun _=>R) fun q=>lo (Int.not_le.mp q)
 |_=>exact fun h2=>ft h2
end
theorem EX:P.ty 179 71=some (.ptr 179):=by kernel_rfl
theorem H0:P.ty 179 72=some (.ptr 179):=by kernel_rfl
theorem Ha:P.ty 179 74=some (.ptr 179):=by kernel_rfl
theorem IB:P.ty 179 10=some .bool:=by kernel_rfl
theorem xJ:P.ty 179 67=some .int:=by kernel_rfl
theorem yw:P.ty 179 68=some .int:=by kernel_rfl
theorem MK:P.ty 179 69=some .int:=by kernel_rfl
theorem Gq:P.ty 179 66=some .int:=by kernel_rfl
theorem Ig:P.ty 180 79=some (.ptr 179):=by kernel_rfl
theorem Gg:P.ty 180 83=some .int:=by kernel_rfl
section
variable{Γ:Gm}{A A':St}{G:H}{s:Nat}{q:Option Nat}
theorem tA(R:Rel Γ A G){E m:Nat->Int}(f:Ft Γ A E m)(hs:s<Γ.k)(h:ez A s=true):Ep A E s=0:=by
 unfold ez at h
 unfold Ep
 rcases e:A.U s with _|p
 ·rfl
 ·rw[e] at h;exact f.z p (R.l.Uk s hs p e) h
theorem lF{o x:Option Nat}(e:x=o.map Γ.id)(h:∀t,o=some t->t<Γ.k):bn Γ (qU o) (.ref 179 x):=e▸yM h
theorem Qo{b c:Bool}(e:c=b):bn Γ (.b b) (.bool c):=e▸ .b
theorem NA{e:Bool}{st:Nat}{x:Int}(h:x=Γ.sv st (Γ.val e s)):bn Γ (.n e st s) (.int x):=h▸ .n
theorem ff{p:Prop}(h:false=true):p:=nomatch h
theorem fo{α:Type}{a:α}{p:Prop}(h:(none:Option α)=some a):p:=nomatch h
theorem pr{α β:Type}{a b:α}{x y:β}(h:(a,x)=(b,y)):a=b/\x=y:=⟨congrArg Prod.fst h,congrArg Prod.snd h⟩
theorem iL{β:Type}{a:Nat}{z r:β}{M:Nat->Prop}{l:List (Nat×β)}:pick a z l=r->l.foldr (fun p q=>(p.2=r->M p.1)/\q) True->(z=r->M a)->M a:=by
 induction l with
 |nil=>exact fun h _ g=>g h
 |cons p l ih=>
  intro h f g
  have h:(bif Nat.beq a p.1 then p.2 else pick a z l)=r:=h
  rcases e:Nat.beq a p.1 with _|_
  ·rw[e] at h;exact ih h f.2 g
  ·rw[e] at h;exact aF e▸f.1 h
theorem Fu(R:Rel Γ A G){o:AV}{w:V}{a:Nat}{k:AV->Bool}(V:bn Γ o w)(h:OI A o a k=true):∃v u,rT P G w a=some u/\k v=true/\bn Γ v u:=by
 obtain⟨E,m,n,f⟩:=R.n
 rcases eH h with⟨s,rfl,h⟩|h
 ·obtain⟨hs,rfl⟩:=ux V
  have h67:A.z s=true->G.I 67 179 (Γ.id s)=Γ.sv (A.sb s) (Γ.b0 s):=fun hz=>by rw[n.b s hs,f.z s hs hz];exact Int.sub_zero _
  have h68:A.z s=true->G.I 68 179 (Γ.id s)=Γ.sv (A.se s) (Γ.e0 s):=fun hz=>by rw[n.e s hs,f.z s hs hz];exact Int.sub_zero _
  exact iL (M:=fun a=>∃v u,rT P G (.ref 179 (some (Γ.id s))) a=some u/\k v=true/\bn Γ v u) h
   ⟨fun e=>⟨_,_,kT R.f.raw EX,e,lF (R.l.L s hs) (R.l.Lk s hs)⟩,fun e=>⟨_,_,kT R.f.raw H0,e,lF (R.l.R s hs) (R.l.Rk s hs)⟩,fun e=>⟨_,_,kT R.f.raw Ha,e,lF (R.l.U s hs) (R.l.Uk s hs)⟩,
    fun e=>⟨_,_,kT R.f.raw IB,e,Qo (R.l.C s hs)⟩,fun e=>⟨_,_,kT R.f.raw xJ,(aa e).2,NA (h67 (aa e).1)⟩,fun e=>⟨_,_,kT R.f.raw yw,(aa e).2,NA (h68 (aa e).1)⟩,trivial⟩ ff
 ·obtain⟨h1,h⟩:=aa h
  rw[uR h1] at V
  rw[NX V]
  exact iL (M:=fun a=>∃v u,rT P G (.ref 180 (some Γ.tr)) a=some u/\k v=true/\bn Γ v u) h
   ⟨fun e=>⟨_,_,kT R.f.raw Ig,e,lF R.l.root R.l.rk⟩,fun e=>⟨_,_,kT R.f.raw Gg,e, .any⟩,trivial⟩ ff
theorem KX{f:Nat->Option Nat}{g:Nat->Option Nat}(h:∀t,t<Γ.k->f t=(g t).map Γ.id)(t:Nat)(ht:t<Γ.k):up1 f s (q.map Γ.id) t=(up1 g s q t).map Γ.id:=by
 by_cases e:t=s
 ·subst e;rw[ay,ay]
 ·rw[aB e,aB e];exact h t ht
theorem MU{g:Nat->Option Nat}(h:∀t,t<Γ.k->∀u,g t=some u->u<Γ.k)(hq:∀u,q=some u->u<Γ.k)(t:Nat)(ht:t<Γ.k)(u:Nat)(hu:up1 g s q t=some u):u<Γ.k:=by
 by_cases e:t=s
 ·subst e;rw[ay] at hu;exact hq u hu
 ·rw[aB e] at hu;exact h t ht u hu
theorem Rel.sL(R:Rel Γ A G)(hs:s<Γ.k)(hq:∀t,q=some t->t<Γ.k):Rel Γ (A.wL s q) (G.sQ 71 179 (Γ.id s) (q.map Γ.id)):=by
 obtain⟨E,m,n,f⟩:=R.n
 exact⟨R.k,R.x,⟨(gO (by decide)).trans R.l.root,R.l.rk,fun t ht=>(vH hs ht).trans (KX R.l.L t ht),fun t ht=>(gO (by decide)).trans (R.l.R t ht),fun t ht=>(gO (by decide)).trans (R.l.U t ht),MU R.l.Lk hq,R.l.Rk,R.l.Uk,R.l.C⟩,
  ⟨R.s.nl,R.s.ls,R.s.old⟩,R.f.sQ (dC hs),E,m,⟨n.b,n.e,n.m,n.o⟩,⟨f.z,f.mm,f.em,f.me,f.qs⟩⟩
theorem Rel.sR(R:Rel Γ A G)(hs:s<Γ.k)(hq:∀t,q=some t->t<Γ.k):Rel Γ (A.wR s q) (G.sQ 72 179 (Γ.id s) (q.map Γ.id)):=by
 obtain⟨E,m,n,f⟩:=R.n
 exact⟨R.k,R.x,⟨(gO (by decide)).trans R.l.root,R.l.rk,fun t ht=>(gO (by decide)).trans (R.l.L t ht),fun t ht=>(vH hs ht).trans (KX R.l.R t ht),fun t ht=>(gO (by decide)).trans (R.l.U t ht),R.l.Lk,MU R.l.Rk hq,R.l.Uk,R.l.C⟩,
  ⟨R.s.nl,R.s.ls,R.s.old⟩,R.f.sQ (dC hs),E,m,⟨n.b,n.e,n.m,n.o⟩,⟨f.z,f.mm,f.em,f.me,f.qs⟩⟩
theorem Rel.Hl(R:Rel Γ A G)(hq:∀t,q=some t->t<Γ.k):Rel Γ (A.za q) (G.sQ 79 180 Γ.tr (q.map Γ.id)):=by
 obtain⟨E,m,n,f⟩:=R.n
 exact⟨R.k,R.x,⟨lQ (a:=79) (c:=180),hq,fun t ht=>(gO (by decide)).trans (R.l.L t ht),fun t ht=>(gO (by decide)).trans (R.l.R t ht),fun t ht=>(gO (by decide)).trans (R.l.U t ht),R.l.Lk,R.l.Rk,R.l.Uk,R.l.C⟩,
  ⟨R.s.nl,R.s.ls,R.s.old⟩,R.f.sQ zL,E,m,⟨n.b,n.e,n.m,n.o⟩,⟨f.z,f.mm,f.em,f.me,f.qs⟩⟩
theorem Rel.sU(R:Rel Γ A G)(hs:s<Γ.k)(hq:∀t,q=some t->t<Γ.k)(h1:ez A s=true)(h2:O9 A q=true):Rel Γ (A.wU s q) (G.sQ 74 179 (Γ.id s) (q.map Γ.id)):=by
 obtain⟨E,m,n,f⟩:=R.n
 refine⟨R.k,R.x,⟨(gO (by decide)).trans R.l.root,R.l.rk,fun t ht=>(gO (by decide)).trans (R.l.L t ht),fun t ht=>(gO (by decide)).trans (R.l.R t ht),fun t ht=>(vH hs ht).trans (KX R.l.U t ht),R.l.Lk,R.l.Rk,MU R.l.Uk hq,R.l.C⟩,
  ⟨R.s.nl,R.s.ls,R.s.old⟩,R.f.sQ (dC hs),E,m,⟨n.b,n.e,n.m,fun t ht=>(n.o t ht).trans ?_⟩,⟨f.z,f.mm,f.em,f.me,f.qs⟩⟩
 by_cases e:t=s
 ·subst e
  rw[tA R f hs h1]
  have:Ep (A.wU t q) E t=0:=by
   unfold Ep
   dsimp only[St.wU]
   rw[ay]
   rcases q with _|p
   ·rfl
   ·exact f.z p (hq p rfl) h2
  rw[this]
 ·have:Ep (A.wU s q) E t=Ep A E t:=by
   unfold Ep
   dsimp only[St.wU]
   rw[aB e]
  rw[this]
theorem Rel.sC(R:Rel Γ A G){c:Bool}(hs:s<Γ.k):Rel Γ (A.wC s c) (G.sB 10 179 (Γ.id s) c):=by
 obtain⟨E,m,n,f⟩:=R.n
 refine⟨R.k,R.x,⟨R.l.root,R.l.rk,R.l.L,R.l.R,R.l.U,R.l.Lk,R.l.Rk,R.l.Uk,fun t ht=>(Go hs ht).trans ?_⟩,
  ⟨R.s.nl,R.s.ls,R.s.old⟩,R.f.sB (dC hs) (by decide) (by decide),E,m,⟨n.b,n.e,n.m,n.o⟩,⟨f.z,f.mm,f.em,f.me,f.qs⟩⟩
 by_cases e:t=s
 ·subst e;rw[ay];exact ay.symm
 ·rw[aB e];exact(R.l.C t ht).trans (aB e).symm
theorem Rel.links(R:Rel Γ A G){a c i:Nat}{x:Int}:Lk Γ A (G.sI a c i x):=⟨R.l.root,R.l.rk,R.l.L,R.l.R,R.l.U,R.l.Lk,R.l.Rk,R.l.Uk,R.l.C⟩
theorem Rel.P8(R:Rel Γ A G){st:Nat}(hs:s<Γ.k)(hz:A.z s=true):Rel Γ (A.wB s st) (G.sI 67 179 (Γ.id s) (Γ.sv st (Γ.b0 s))):=by
 obtain⟨E,m,n,f⟩:=R.n
 refine⟨R.k,R.x,⟨R.l.root,R.l.rk,R.l.L,R.l.R,R.l.U,R.l.Lk,R.l.Rk,R.l.Uk,R.l.C⟩,⟨R.s.nl,R.s.ls,R.s.old⟩,R.f.sI (dC hs) (by decide),E,m,
  ⟨fun t ht=>(fA hs ht).trans ?_,fun t ht=>(bw (by decide)).trans (n.e t ht),fun t ht=>(bw (by decide)).trans (n.m t ht),fun t ht=>(bw (by decide)).trans (n.o t ht)⟩,⟨f.z,f.mm,f.em,f.me,f.qs⟩⟩
 show _=Γ.sv (up1 A.sb s st t) _ - E t
 by_cases e:t=s
 ·subst e;rw[ay,ay,f.z t hs hz,Int.sub_zero]
 ·rw[aB e,aB e];exact n.b t ht
theorem Rel.QN(R:Rel Γ A G){st:Nat}(hs:s<Γ.k)(hz:A.z s=true):Rel Γ (A.wE s st) (G.sI 68 179 (Γ.id s) (Γ.sv st (Γ.e0 s))):=by
 obtain⟨E,m,n,f⟩:=R.n
 have ev:∀t,t≠s->iO Γ (A.wE s st) t=iO Γ A t:=fun t e=>by
  unfold iO
  dsimp only[St.wE]
  rw[aB e]
 refine⟨R.k,R.x,⟨R.l.root,R.l.rk,R.l.L,R.l.R,R.l.U,R.l.Lk,R.l.Rk,R.l.Uk,R.l.C⟩,⟨R.s.nl,R.s.ls,R.s.old⟩,R.f.sI (dC hs) (by decide),E,m,
  ⟨fun t ht=>(bw (by decide)).trans (n.b t ht),fun t ht=>(fA hs ht).trans ?_,fun t ht=>(bw (by decide)).trans (n.m t ht),fun t ht=>(bw (by decide)).trans (n.o t ht)⟩,⟨f.z,f.mm,fun u t hu ht h=>?_,fun u hu h=>?_,f.qs⟩⟩
 ·by_cases e:t=s
  ·subst e;unfold iO;dsimp only[St.wE];rw[ay,ay,f.z t hs hz,Int.sub_zero]
  ·rw[aB e,ev t e];exact n.e t ht
 ·by_cases e:u=s
  ·subst e;dsimp only[St.wE] at h;rw[ay] at h;exact nomatch h
  ·dsimp only[St.wE] at h;rw[aB e] at h;rw[ev u e];exact f.em u t hu ht h
 ·by_cases e:u=s
  ·subst e;dsimp only[St.wE] at h;rw[ay] at h;exact nomatch h
  ·dsimp only[St.wE] at h;rw[aB e] at h;rw[ev u e];exact f.me u hu h
theorem Rel.QK(R:Rel Γ A G)(hs:s<Γ.k)(hz:A.z s=true)(h1:ez A s=true):Rel Γ A (G.sI 66 179 (Γ.id s) 0):=by
 obtain⟨E,m,n,f⟩:=R.n
 refine⟨R.k,R.x,R.links,⟨R.s.nl,R.s.ls,R.s.old⟩,R.f.sI (dC hs) (by decide),E,m,
  ⟨fun t ht=>(bw (by decide)).trans (n.b t ht),fun t ht=>(bw (by decide)).trans (n.e t ht),fun t ht=>(bw (by decide)).trans (n.m t ht),fun t ht=>(fA hs ht).trans ?_⟩,f⟩
 by_cases e:t=s
 ·subst e;rw[ay,f.z t hs hz,tA R f hs h1];rfl
 ·exact(aB e)▸n.o t ht
theorem Rel.Qv(R:Rel Γ A G){x:Int}:Rel Γ A (G.sI 83 180 Γ.tr x):=by
 obtain⟨E,m,n,f⟩:=R.n
 exact⟨R.k,R.x,R.links,⟨R.s.nl,R.s.ls,R.s.old⟩,R.f.sI zL (by decide),E,m,
  ⟨fun t ht=>(bw (by decide)).trans (n.b t ht),fun t ht=>(bw (by decide)).trans (n.e t ht),fun t ht=>(bw (by decide)).trans (n.m t ht),fun t ht=>(bw (by decide)).trans (n.o t ht)⟩,f⟩
theorem ji{α β:Type}{f:α->β}{o:Option α}{b:β}(h:o.map f=some b):∃a,o=some a/\f a=b:=by
 rcases o with _|a
 ·cases h
 ·obtain rfl:=ag h;exact⟨a,rfl,rfl⟩
noncomputable def Wr(Γ:Gm)(A':St)(G:H)(c i:Nat)(u:V)(a:Nat):Prop:=∃G',pH P G (.ref c (some i)) a u=some G'/\Rel Γ A' G'
section
variable{v:AV}{u:V}{c i a:Nat}
theorem IO{k:Option Nat->Option St}(e:qM v k=some A')(W:bn Γ v u)(t:P.ty c a=some (.ptr 179))(g:∀q,k q=some A'->(∀t,q=some t->t<Γ.k)->Rel Γ A' (G.sQ a c i (q.map Γ.id))):Wr Γ A' G c i u a:=by
 obtain⟨q,h1,h2,h3⟩:=AE e W
 exact⟨_,(nG t).trans (h3 _ _ _ _ _ rfl),g q h1 h2⟩
theorem LV{k:Bool->St}(e:dB v (fun c=>some (k c)) none=some A')(W:bn Γ v u)(t:P.ty c a=some .bool)(g:∀b,Rel Γ (k b) (G.sB a c i b)):Wr Γ A' G c i u a:=by
 rcases Bk e with⟨b,hv,h1⟩|h1
 ·rw[hv] at W
  rw[vB W,←ag h1]
  exact⟨_,nG t,g b⟩
 ·exact fo h1
theorem M6{p:Bool->Nat->Bool}{k:Nat->St}(e:dN v (fun e st t=>Az (p e t) (k st)) none=some A')(W:bn Γ v u)(t:P.ty c a=some .int)(g:∀e st s,p e s=true->Rel Γ (k st) (G.sI a c i (Γ.sv st (Γ.val e s)))):Wr Γ A' G c i u a:=by
 rcases np e with⟨b,st,s,hv,h1⟩|h1
 ·rw[hv] at W
  obtain⟨h2,h3⟩:=kr h1
  rw[vN W,←h3]
  exact⟨_,nG t,g _ _ _ h2⟩
 ·exact fo h1
theorem Qa{p:Int->Bool}(e:dI v (fun z=>Az (p z) A) none=some A')(W:bn Γ v u)(t:P.ty c a=some .int)(g:∀z,p z=true->Rel Γ A (G.sI a c i z)):Wr Γ A' G c i u a:=by
 rcases uN e with⟨z,hv,h1⟩|h1
 ·rw[hv] at W
  obtain⟨h2,h3⟩:=kr h1
  rw[vI W,←h3]
  exact⟨_,nG t,g _ h2⟩
 ·exact fo h1
end
theorem PK(R:Rel Γ A G)(hs:s<Γ.k){e:Bool}{st t:Nat}(h:(!e&&Nat.beq s t&&A.z s)=true):Rel Γ (A.wB s st) (G.sI 67 179 (Γ.id s) (Γ.sv st (Γ.val e t))):=by
 obtain⟨h4,h7⟩:=aa h
 obtain⟨h5,h6⟩:=aa h4
 rw[←aF h6,(Bool.not_eq_true' _).mp h5]
 exact R.P8 hs h7
theorem Jz(R:Rel Γ A G)(hs:s<Γ.k){e:Bool}{st t:Nat}(h:(e&&Nat.beq s t&&A.z s)=true):Rel Γ (A.wE s st) (G.sI 68 179 (Γ.id s) (Γ.sv st (Γ.val e t))):=by
 obtain⟨h4,h7⟩:=aa h
 obtain⟨h5,h6⟩:=aa h4
 rw[←aF h6,h5]
 exact R.QN hs h7
theorem Qw(R:Rel Γ A G)(hs:s<Γ.k){z:Int}(h:(decide (z=0)&&A.z s&&ez A s)=true):Rel Γ A (G.sI 66 179 (Γ.id s) z):=by
 obtain⟨h4,h7⟩:=aa h
 obtain⟨h5,h6⟩:=aa h4
 rw[ao h5]
 exact R.QK hs h6 h7
theorem HE(R:Rel Γ A G){o v:AV}{w u:V}{a:Nat}(V:bn Γ o w)(W:bn Γ v u)(h:K3 A o a v=some A'):∃G',pH P G w a u=some G'/\Rel Γ A' G':=by
 rcases eH h with⟨s,e,h⟩|h
 ·rw[e] at V
  obtain⟨hs,e⟩:=ux V
  rw[e]
  exact iL h
   ⟨fun e=>IO e W EX fun q h1 h2=>ag h1▸R.sL hs h2,fun e=>IO e W H0 fun q h1 h2=>ag h1▸R.sR hs h2,
    fun e=>IO e W Ha fun q h1 h2=>(kr h1).2▸R.sU hs h2 (aa (kr h1).1).1 (aa (kr h1).1).2,fun e=>LV e W IB fun b=>R.sC hs,fun e=>M6 e W xJ fun e st t h=>PK R hs h,fun e=>M6 e W yw fun e st t h=>Jz R hs h,
    fun e=>Qa e W Gq fun z h=>Qw R hs h,trivial⟩ fo
 ·obtain⟨h1,h⟩:=aO h
  rw[uR h1] at V
  rw[NX V]
  exact iL h ⟨fun e=>IO e W Ig fun q h1 h2=>ag h1▸R.Hl h2,fun e=>by
   obtain⟨h4,h5⟩:=kr e
   rw[qc h4] at W
   obtain⟨z,hz⟩:=Gi W
   rw[hz,←h5]
   exact⟨_,nG Gg,R.Qv⟩,trivial⟩ fo
end
section
variable{Γ:Gm}{A A':St}{G:H}{s:Nat}{q:Option Nat}
theorem Hs{st:Nat}{x y v:AV}{a b:V}(X:bn Γ x a)(Y:bn Γ y b)(h:num st x y=some v):∃u,a= .int u/\b= .int Γ.many/\∃e s,v= .n e st s/\u=Γ.val e s:=by
 rcases np h with⟨e,st0,s,hx,h1⟩|h1
 ·subst hx
  obtain⟨h2,h3⟩:=aO h1
  obtain⟨h4,h5⟩:=aa h2
  rw[gx h5] at Y
  rw[aF h4] at X
  exact⟨_,vN X,o8 Y,e,s,(ag h3).symm,rfl⟩
 ·exact fo h1
theorem Fy{x y v:AV}{a b:V}(X:bn Γ x a)(Y:bn Γ y b)(h1:isAny x=true)(h2:dI y (fun _=>some AV.any) none=some v):∃p q,a= .int p/\b= .int q/\v= .any:=by
 rw[qc h1] at X
 obtain⟨z,hz⟩:=Gi X
 rcases uN h2 with⟨w,hx,h3⟩|h3
 ·subst hx
  exact⟨z,w,hz,vI Y,(ag h3).symm⟩
 ·exact fo h3
theorem GD{p:Op}{x y v:AV}{a b:V}{w:Option AV}(X:bn Γ x a)(Y:bn Γ y b)(h:cond (isAny x) (dI y (fun _=>some AV.any) none) w=some v)(e1:∀p' q,∃z,lN G p (.int p') (.int q)=some (.int z,G))(g:w=some v->∃u,lN G p a b=some (u,G)/\bn Γ v u):∃u,lN G p a b=some (u,G)/\bn Γ v u:=by
 rcases e:isAny x with _|_
 ·rw[e] at h;exact g h
 ·rw[e] at h
  obtain⟨p,q,h1,h2,h3⟩:=Fy X Y e h
  rw[h1,h2,h3]
  exact(e1 p q).elim fun z w=>⟨_,w, .any⟩
theorem HF{p:Op}{st:Nat}{x y v:AV}{a b:V}(X:bn Γ x a)(Y:bn Γ y b)(h:num st x y=some v)(e1:∀u,lN G p (.int u) (.int Γ.many)=some (.int (Γ.sv st u),G)):∃u,lN G p a b=some (u,G)/\bn Γ v u:=by
 obtain⟨u,h1,h2,e,s,h3,h4⟩:=Hs X Y h
 rw[h1,h2,h3,h4]
 exact⟨_,e1 _, .n⟩
theorem Cl{o:Op}{x y v:AV}{a b:V}(X:bn Γ x a)(Y:bn Γ y b):ED o x y=some v->∃u,lN G o a b=some (u,G)/\bn Γ v u:=by
 induction o with
 |add=>
  exact fun h=>GD X Y h (fun p q=>⟨_,rfl⟩) fun h=>by
   rcases e2:isAt x&&gG y with _|_
   ·rw[e2] at h;exact HF X Y h fun _=>rfl
   ·rw[e2] at h
    obtain⟨h1,h2⟩:=aa e2
    rw[eE h1] at X
    rw[gx h2] at Y
    rw[Ae X,o8 Y,←ag h]
    exact⟨_,rfl, .BI⟩
 |sub=>exact fun h=>GD X Y h (fun p q=>⟨_,rfl⟩) fun h=>HF X Y h fun _=>rfl
 |_=>exact fo
theorem Pb{b:V}{c:Nat}{q:Option Nat}(Y:b= .none\/b= .ref 179 none):Ct (.ref c q) b=some q.isNone:=by
 rcases Y with h|h
 ·rw[h];rfl
 ·rw[h];cases q<;>rfl
theorem zM{x y:AV}{a b:V}{r:Bool}(X:bn Γ x a)(Y:bn Γ y b)(h:KT x y=some r):Ct a b=some r:=by
 rcases eH h with⟨s,hx,h1⟩|h1
 ·rw[hx] at X
  obtain⟨hs,ha⟩:=ux X
  rcases eH h1 with⟨t,hy,h2⟩|h2
  ·rw[hy] at Y
   obtain⟨ht,hb⟩:=ux Y
   rw[ha,hb,←ag h2]
   show some (Nat.beq 179 179&&Nat.beq (Γ.id s) (Γ.id t))=_
   by_cases e:s=t
   ·subst e;rw[Nat.beq_refl,Nat.beq_refl,Nat.beq_refl];rfl
   ·rw[gm e,gm fun q=>e (Γ.inj _ _ hs ht q)];rfl
  ·obtain⟨h3,h4⟩:=aO h2
   rw[gn h3] at Y
   rw[ha,Pb (ke Y),←ag h4];rfl
 ·obtain⟨h2,h3⟩:=aO h1
  rw[gn h2] at X
  rcases eH h3 with⟨t,hy,h4⟩|h4
  ·rw[hy] at Y
   obtain⟨ht,hb⟩:=ux Y
   rw[hb,←ag h4]
   rcases ke X with ha|ha<;>(rw[ha];rfl)
  ·obtain⟨h5,h6⟩:=aO h4
   rw[gn h5] at Y
   rw[←ag h6]
   rcases ke X with ha|ha
   ·rcases ke Y with hb|hb<;>(rw[ha,hb];rfl)
   ·rw[ha];exact Pb (ke Y)
def Cg(Γ:Gm)(G:H)(o:Cm)(k:Bool->St->Bool)(a b:V):Prop:=∃r A',kg G o a b=some r/\k r A'=true/\Rel Γ A' G
section
variable{o:Cm}{x y:AV}{a b:V}{k:Bool->St->Bool}{e:Bool}{t st n:Nat}
theorem tt(R:Rel Γ A G)(h:ask A n s k=true)(e:kg G o a b=some (d6 Γ n s)):Cg Γ G o k a b:=
 (uG R h).2.elim fun A' w=>⟨_,A',e,w⟩
theorem Bt(R:Rel Γ A G)(Y:bn Γ y b)(h:dN y (fun e' st' t=> !e'&&zU st'&&Nat.beq s A.x&&ask A 0 t k) (isAt y&&ask A 1 s k)=true):Cg Γ G .le k (.int (Γ.b0 s)) b:=by
 rcases np h with⟨e,st,t,hy,h6⟩|h6
 ·obtain⟨h7,h8⟩:=aa h6
  obtain⟨h9,h10⟩:=aa h7
  obtain⟨h11,h12⟩:=aa h9
  rw[hy,aF h12,(Bool.not_eq_true' _).mp h11] at Y
  rw[vN Y,aF h10,R.x]
  exact tt R h8 rfl
 ·obtain⟨h7,h8⟩:=aa h6
  rw[eE h7] at Y
  rw[Ae Y]
  exact tt R h8 rfl
theorem HV(R:Rel Γ A G)(X:bn Γ x a)(Y:bn Γ y b)(h:qh A .le x y k=true):Cg Γ G .le k a b:=by
 rcases np h with⟨e,st,s,hx,h1⟩|h1
 ·obtain⟨h2,h3⟩:=aa h1
  obtain⟨h4,h5⟩:=aa h2
  rw[hx,aF h5,(Bool.not_eq_true' _).mp h4] at X
  rw[vN X]
  exact Bt R Y h3
 ·obtain⟨h2,h3⟩:=aa h1
  rw[gx h2] at X
  rcases uN h3 with⟨z,hy,h4⟩|h4
  ·rw[hy] at Y
   obtain⟨h5,h6⟩:=aa h4
   rw[o8 X,vI Y,ao h5]
   exact⟨false,A,congrArg some (bB (Int.not_le.mpr Γ.mpos)),h6,R⟩
  ·exact ff h4
theorem CT(R:Rel Γ A G)(Y:bn Γ y b)(h:cond (isAt y) (ask A 1 s fun b A=>k (!b) A) (uS y&&ask A 5 s k)=true):Cg Γ G .gt k (.int (Γ.b0 s)) b:=by
 rcases dJ h with⟨h4,h5⟩|⟨_,h5⟩
 ·rw[eE h4] at Y
  rw[Ae Y]
  refine(uG R h5).2.elim fun A' w=>⟨_,A',?_,w⟩
  show some (decide (Γ.b0 s>Γ.mark))=some (!decide (Γ.b0 s<=Γ.mark))
  rw[←decide_not]
  exact congrArg some (decide_eq_decide.mpr Int.not_le.symm)
 ·obtain⟨h6,h7⟩:=aa h5
  rw[yT h6] at Y
  rw[J8 Y]
  exact tt R h7 rfl
theorem FU(R:Rel Γ A G)(X:bn Γ x a)(Y:bn Γ y b)(h:qh A .gt x y k=true):Cg Γ G .gt k a b:=by
 rcases np h with⟨e,st,s,hx,h1⟩|h1
 ·obtain⟨h2,h3⟩:=aa h1
  rw[hx,aF h2] at X
  rw[vN X]
  rcases e with _|_
  ·exact CT R Y h3
  ·obtain⟨h4,h5⟩:=aa h3
   rw[eE h4] at Y
   rw[Ae Y]
   exact tt R h5 rfl
 ·rcases uN h1 with⟨p,hx,h2⟩|h2
  ·rcases uN h2 with⟨q,hy,h3⟩|h3
   ·rw[hx] at X
    rw[hy] at Y
    rw[vI X,vI Y];exact⟨_,A,rfl,h3,R⟩
   ·exact ff h3
  ·exact ff h2
theorem IE(R:Rel Γ A G)(X:bn Γ x a)(Y:bn Γ y b)(h:qh A .ge x y k=true):Cg Γ G .ge k a b:=by
 rcases np h with⟨e,st,s,hx,h1⟩|h1
 ·obtain⟨h2,h3⟩:=aa h1
  obtain⟨h4,h5⟩:=aa h2
  obtain⟨h6,h7⟩:=aa h4
  rw[hx,h7,aF h6] at X
  rw[eE h5] at Y
  rw[vN X,Ae Y]
  exact tt R h3 rfl
 ·exact ff h1
end
theorem Dm(R:Rel Γ A G){o:Cm}{x y:AV}{a b:V}{k:Bool->St->Bool}(X:bn Γ x a)(Y:bn Γ y b):qh A o x y k=true->Cg Γ G o k a b:=by
 induction o with
 |le=>exact HV R X Y
 |gt=>exact FU R X Y
 |ge=>exact IE R X Y
 |is=>exact fun h=>(cU h).elim fun r w=>⟨r,A,zM X Y w.1,w.2,R⟩
 |isNot=>exact fun h=>(cU h).elim fun r w=>⟨!r,A,congrArg (Option.map (!·)) (zM X Y w.1),w.2,R⟩
 |_=>exact ff
theorem bv.e{M:List AV->List V->Prop}(n:M [] [])(c:∀v w l ws,bn Γ v w->bv Γ l ws->M l ws->M (v::l) (w::ws)):∀{l:List AV} {ws:List V},bv Γ l ws->M l ws:=fun {l}=>by
 induction l with
 |nil=>exact fun h=>(hZ h).symm▸n
 |cons v l ih=>
  intro ws h
  obtain⟨u,us,e,a,b⟩:=df h
  exact e.symm▸c v u l us a b (ih b)
theorem bv.len{l:List AV}{ws:List V}(h:bv Γ l ws):ws.length=l.length:=
 h.e (M:=fun l ws=>ws.length=l.length) rfl fun _ _ _ _ _ _ e=>congrArg (· +1) e
theorem bv.app{l l':List AV}{ws ws':List V}(h:bv Γ l ws)(r:bv Γ l' ws'):bv Γ (l++l') (ws++ws'):=
 h.e (M:=fun l ws=>bv Γ (l++l') (ws++ws')) r fun _ _ _ _ v _ e=> .cons v e
theorem bv.rev{l:List AV}{ws:List V}(h:bv Γ l ws):bv Γ l.reverse ws.reverse:=
 h.e (M:=fun l ws=>bv Γ l.reverse ws.reverse) .nil fun _ _ _ _ v _ e=>by rw[List.reverse_cons,List.reverse_cons];exact e.app (.cons v .nil)
theorem bv.at{l:List AV}{ws:List V}(j:Nat)(h:bv Γ l ws):(l[j]?=none/\ws[j]?=none)\/∃v w,l[j]?=some v/\ws[j]?=some w/\bn Γ v w:=
 h.e (M:=fun l ws=>∀j:Nat,(l[j]?=none/\ws[j]?=none)\/∃v w,l[j]?=some v/\ws[j]?=some w/\bn Γ v w) (fun _=> .inl ⟨rfl,rfl⟩) (fun v w l ws a _ e j=>by
  induction j with
  |zero=>exact .inr ⟨v,w,rfl,rfl,a⟩
  |succ j _=>exact e j) j
theorem bv.last{l:List AV}{ws:List V}{v:AV}(h:bv Γ l ws)(e:l.getLast?=some v):∃w,ws.getLast?=some w/\bn Γ v w/\bv Γ l.dropLast ws.dropLast:=by
 rw[List.getLast?_eq_head?_reverse] at e ⊢
 have r:=h.rev
 generalize q:l.reverse=l' at r e
 rcases l' with _|⟨x,l'⟩
 ·exact aS e
 ·obtain⟨u,us,w,a,b⟩:=df r
  refine⟨u,congrArg List.head? w,ag e▸a,?_⟩
  have b:=b.rev
  rw[←List.tail_cons (as:=l'),←q,←List.tail_cons (as:=us),←w,List.tail_reverse,List.tail_reverse,List.reverse_reverse,List.reverse_reverse] at b
  exact b
theorem bv.zip{v:AV}{y:Nat}{ps:List Nat}{l:List AV}{ws:List V}(h:bv Γ l ws)(e:(ps.zip l).lookup y=some v):∃w,(ps.zip ws).lookup y=some w/\bn Γ v w:=
 h.e (M:=fun l ws=>∀ps:List Nat,(ps.zip l).lookup y=some v->∃w,(ps.zip ws).lookup y=some w/\bn Γ v w) (fun ps h=>by rw[List.zip_nil_right] at h;exact aS h) (fun x w l ws a _ ih ps h=>by
  rcases ps with _|⟨p,ps⟩
  ·exact aS h
  ·rw[List.zip_cons_cons,List.lookup_cons] at h ⊢
   rcases e:y==p with _|_
   ·rw[e] at h;exact ih ps h
   ·rw[e] at h;exact⟨w,rfl,ag h▸a⟩) ps e
theorem D0(R:Rel Γ A G){b:Bi}{l:List AV}{ws:List V}{v:AV}(X:bv Γ l ws)(h:EV A b l=some v):∃u,i9 G b ws=some (u,G)/\bn Γ v u:=by
 cases b<;>first|exact fo h|skip
 ·rcases vE h with⟨x,hl,h1⟩|h1
  ·rw[hl] at X
   obtain⟨u,us,hw,X1,X2⟩:=df X
   rw[hw,hZ X2]
   rcases kN h1 with⟨j,hj,h2⟩|h2
   ·obtain⟨h3,h4⟩:=aO h2
    rw[hj] at X1
    rw[vQ X1,←ag h4]
    exact⟨_,rfl,(R.s.ls j (cc h3)).len▸ .i⟩
   ·exact fo h2
  ·exact fo h1
 ·rcases A8 h with⟨x,y,hl,h1⟩|h1
  ·rw[hl] at X
   obtain⟨u,us,hw,X1,X2⟩:=df X
   obtain⟨u2,us2,hw2,Y1,Y2⟩:=df X2
   rw[hw,hw2,hZ Y2]
   rcases np h1 with⟨e,st,s,hy,h2⟩|h2
   ·obtain⟨h3,h4⟩:=aO h2
    obtain⟨h5,h6⟩:=aa h3
    rw[eE h5] at X1
    rw[hy,aF h6] at Y1
    rw[Ae X1,vN Y1,←ag h4]
    exact⟨_,rfl, .n (st:=3)⟩
   ·exact fo h2
  ·exact fo h1
theorem Rel.newL(R:Rel Γ A G){l:List AV}{ws:List V}(X:bv Γ l ws):bn Γ (.lst A.nl) (.list G.nl)/\Rel Γ (A.newL l) (G.newL ws):=by
 obtain⟨E,m,n,f⟩:=R.n
 have hn:=R.s.nl
 refine⟨hn▸ .lst,R.k,R.x,⟨R.l.root,R.l.rk,R.l.L,R.l.R,R.l.U,R.l.Lk,R.l.Rk,R.l.Uk,R.l.C⟩,⟨by show G.nl+1=Γ.nl0+(A.nl+1);lia,fun j hj=>?_,fun j hj=>?_⟩,
  ⟨R.f.raw,R.f.I,R.f.B,R.f.Q,R.f.I97,R.f.B91,R.f.B92,R.f.rr,R.f.N,R.f.F,R.f.ni,R.f.dct,R.f.nd⟩,E,m,⟨n.b,n.e,n.m,n.o⟩,⟨f.z,f.mm,f.em,f.me,f.qs⟩⟩
 ·show bv Γ (up1 A.ls A.nl l j) (if Γ.nl0+j=G.nl then ws else G.lst (Γ.nl0+j))
  by_cases e:j=A.nl
  ·subst e;rw[ay,if_pos hn.symm];exact X
  ·rw[aB e,if_neg (by lia)]
   exact R.s.ls j (by have:j<A.nl+1:=hj;lia)
 ·show(if j=G.nl then ws else G.lst j)=_
  rw[if_neg (by lia)];exact R.s.old j hj
theorem Rel.ax(R:Rel Γ A G){l:List AV}{ws:List V}{i:Nat}(X:bv Γ l ws):Rel Γ (A.ax i l) (G.ax (Γ.nl0+i) ws):=by
 obtain⟨E,m,n,f⟩:=R.n
 refine⟨R.k,R.x,⟨R.l.root,R.l.rk,R.l.L,R.l.R,R.l.U,R.l.Lk,R.l.Rk,R.l.Uk,R.l.C⟩,⟨R.s.nl,fun j hj=>?_,fun j hj=>?_⟩,
  ⟨R.f.raw,R.f.I,R.f.B,R.f.Q,R.f.I97,R.f.B91,R.f.B92,R.f.rr,R.f.N,R.f.F,R.f.ni,R.f.dct,R.f.nd⟩,E,m,⟨n.b,n.e,n.m,n.o⟩,⟨f.z,f.mm,f.em,f.me,f.qs⟩⟩
 ·show bv Γ (up1 A.ls i l j) (if Γ.nl0+j=Γ.nl0+i then ws else G.lst (Γ.nl0+j))
  by_cases e:j=i
  ·subst e;rw[ay,if_pos rfl];exact X
  ·rw[aB e,if_neg (by lia)];exact R.s.ls j hj
 ·show(if j=Γ.nl0+i then ws else G.lst j)=_
  rw[if_neg (by lia)];exact R.s.old j hj
theorem wM(R:Rel Γ A G){j m:Nat}{l:List AV}{ws:List V}{k:AV->St->Bool}(X:bv Γ l ws)(h:zb A j m l k=true):
  nZ (.list (Γ.nl0+j)) m=true/\∃v u A' G',vg G (.list (Γ.nl0+j)) m ws=some (u,G')/\k v A'=true/\bn Γ v u/\Rel Γ A' G':=by
 obtain⟨h0,h⟩:=aa h
 have hl:=R.s.ls j (cc h0)
 cases l with
 |nil=>
  rw[hZ X]
  obtain⟨h1,h2⟩:=aa h
  obtain⟨v,h3,h4⟩:=cU h2
  obtain⟨w,h5,h6,h7⟩:=hl.last h3
  rw[aF h1]
  refine⟨rfl,v,w,_,_,?_,h4,h6,R.ax h7⟩
  show(if 1=cY then(G.lst (Γ.nl0+j)).getLast?.map _ else none)=_
  rw[if_pos (show 1=cY from rfl),h5];rfl
 |cons x r=>
  obtain⟨u,us,hw,X1,X2⟩:=df X
  obtain⟨h1,h2⟩:=aa h
  obtain⟨h3,h4⟩:=aa h1
  obtain⟨h5,h6⟩:=aa h3
  rw[List.isEmpty_iff.mp h5] at X2
  rw[hw,hZ X2,aF h6]
  refine⟨rfl,_, .none,_,_,?_,h2, .none,R.ax (hl.app (.cons X1 .nil))⟩
  show(if 0=bR/\(G.lst (Γ.nl0+j)).length<eg then _ else none)=_
  rw[if_pos ⟨rfl,by rw[hl.len];have:=bP h4;unfold eg;lia⟩]
theorem xX(R:Rel Γ A G){it:AV}{w:V}{j:Nat}{r:Option AV}(X:bn Γ it w)(h:zB A it j=some r):(r=none/\itemAt G w j=some none)\/∃v u,r=some v/\itemAt G w j=some (some u)/\bn Γ v u:=by
 have key:∀{l:List AV} {ws:List V},bv Γ l ws->l[j]?=r->(r=none/\ws[j]?=none)\/∃v u,r=some v/\ws[j]?=some u/\bn Γ v u:=fun hl e=>by
  subst e
  exact hl.at j
 rcases kN h with⟨i,hx,h1⟩|h1
 ·obtain⟨h2,h3⟩:=aO h1
  rw[hx] at X
  rw[vQ X]
  rcases key (R.s.ls i (cc h2)) (ag h3) with⟨e1,e2⟩|⟨v,u,e1,e2,e3⟩
  ·exact .inl ⟨e1,congrArg some e2⟩
  ·exact .inr ⟨v,u,e1,congrArg some e2,e3⟩
 ·rcases DG h1 with⟨l,hx,h2⟩|h2
  ·rw[hx] at X
   obtain⟨ws,hw,hl⟩:=KQ X
   rw[hw]
   rcases key hl (ag h2) with⟨e1,e2⟩|⟨v,u,e1,e2,e3⟩
   ·exact .inl ⟨e1,congrArg some e2⟩
   ·exact .inr ⟨v,u,e1,congrArg some e2,e3⟩
  ·exact fo h2
end
end Mine.Ab
end
section
set_option tactic.hygienic false
set_option genInjectivity false
namespace Mine.Ab
theorem bS{α:Type}{x:Option α}{a:α}{k:α->Prop}(h:x=some a)(g:k a):on x k:=h▸g
end Mine.Ab
namespace Mine
noncomputable def oB{α β:Type}(x:Option α)(k:α->Option β):Option β:=match x with
 |some a=>k a
 |none=>none
noncomputable def yf{β:Type}(v:V)(k:Bool->Option β):Option β:=match v with
 | .bool b=>k b
 |_=>none
section
variable{α β:Type}{v:V}{r:β}{p:Prop}
theorem rU{γ δ:Type}{k:γ->δ->Prop}{w v:γ}{h:δ}(q:some w=some v)(g:k v h):k w h:=(ag q).symm▸g
theorem iF{x:Option α}{k:α->Option β}(h:oB x k=some r)(g:∀a,x=some a->k a=some r->p):p:=match x,h,g with
 |some a,h,g=>g a rfl h
theorem qV{k:Bool->Option β}(h:yf v k=some r)(g:∀a,v= .bool a->k a=some r->p):p:=by
 rcases v with _|_<;>first|exact g _ rfl h|exact aS h
end
noncomputable def xD(h:H)(a c i:Nat)(t:Ty):Option V:=match t with
 | .int=>some (.int (h.I a c i))
 | .bool=>some (.bool (h.B a c i))
 | .ptr d=>some (.ref d (h.Q a c i))
 | .obj d=>some (.ref d (some (h.N a c i)))
 | .lst=>some (.list (h.N a c i))
 | .dct=>some (.dict (h.N a c i))
 | .gen=>some (h.F a c i)
noncomputable def fU(h:H)(o:V)(a:Nat):Option V:=match o with
 | .ref c (some i)=>oB (P.ty c a) (xD h a c i)
 |_=>none
noncomputable def Cr(o:Op)(x y:V):Option V:=fs x fun x=>fs y fun y=>oB (oo o x y) fun z=>some (.int z)
noncomputable def At:Bi->Bool
 | .list=>false
 | .sorted=>false
 |_=>true
noncomputable def ny(h:H)(b:Bi)(vs:List V):Option V:=bif At b then oB (i9 h b vs) fun p=>some p.1 else none
structure Pv where
 ev:au->H->E->Option V
 evs:au->H->List E->Option (List V)
 evB:au->H->Bool->List E->Option V
noncomputable def Pq(z:Pv):Pv where
 ev ρ h e:=match e with
  | .none=>some .none
  | .bool b=>some (.bool b)
  | .int i=>some (.int i)
  | .str s=>some (.str s)
  | .var x=>ρ x
  | .glob x=>P.cst x
  | .attr e a=>oB (z.ev ρ h e) fun o=>fU h o a
  | .bop o a b=>oB (z.ev ρ h a) fun x=>oB (z.ev ρ h b) fun y=>Cr o x y
  | .neg e=>oB (z.ev ρ h e) fun x=>fs x fun i=>some (.int (-i))
  | .not e=>oB (z.ev ρ h e) fun x=>yf x fun b=>some (.bool (!b))
  | .bool2 c es=>z.evB ρ h c es
  | .cmp a o b=>oB (z.ev ρ h a) fun x=>oB (z.ev ρ h b) fun y=>oB (kg h o x y) fun r=>some (.bool r)
  | .ite t a b=>oB (z.ev ρ h t) fun x=>yf x fun c=>bif c then z.ev ρ h a else z.ev ρ h b
  | .tup es=>oB (z.evs ρ h es) fun vs=>some (.tup vs)
  | .sub e i=>oB (z.ev ρ h e) fun x=>oB (z.ev ρ h i) fun y=>eO h x y
  | .blt b es=>oB (z.evs ρ h es) fun vs=>ny h b vs
  | .isB e=>oB (z.ev ρ h e) fun x=>oB (Eo x) fun b=>some (.bool b)
  |_=>none
 evs ρ h es:=match es with
  |[]=>some []
  |e::r=>oB (z.ev ρ h e) fun x=>oB (z.evs ρ h r) fun y=>some (x::y)
 evB ρ h c es:=match es with
  |[]=>none
  |e::r=>match r with
   |[]=>z.ev ρ h e
   |_::_=>oB (z.ev ρ h e) fun x=>yf x fun b=>bif Ab.eb b c then z.evB ρ h c r else some (.bool b)
noncomputable def pv:Nat->Pv
 |0=>⟨fun _ _ _=>none,fun _ _ _=>none,fun _ _ _ _=>none⟩
 |n+1=>Pq (pv n)
noncomputable def plainT:E->Bool
 | .not _=>false
 | .bool2 _ _=>false
 | .ite _ _ _=>false
 |_=>true
theorem AW{n:Nat}{ρ:au}{h:H}{e:E}{kb:Bool->H->Prop}(he:plainT e=true):cC P (n+1) ρ h e kb=aN P n ρ h e fun v h=>pk v fun b=>kb b h:=by
 rcases e with _|_<;>first|rfl|exact ft he
theorem yC{h:H}{t:Ty}{a c i:Nat}:xD h a c i t=some (h.get t a c i):=by rcases t with _|_<;>rfl
theorem BD{h:H}{o v:V}{a:Nat}(hr:h.raw=[])(e:fU h o a=some v):rT P h o a=some v:=match o,e with
 | .ref _ (some _),e=>iF e fun _ q e=>(Ab.kT hr q).trans (yC.symm.trans e)
theorem xA{h:H}{o:Op}{x y v:V}(e:Cr o x y=some v):lN h o x y=some (v,h):=
 dT e fun _ hx e=>dT e fun _ hy e=>iF e fun z hz e=>by
  rw[hx,hy,←ag e]
  show(oo o _ _).map _=_
  rw[hz];rfl
theorem wZ{h:H}{b:Bi}{vs:List V}{v:V}(e:ny h b vs=some v):i9 h b vs=some (v,h):=by
 unfold ny at e
 cases hb:At b with
 |false=>rw[hb] at e;exact aS e
 |true=>
  rw[hb] at e
  refine iF e fun p hp e=>?_
  have:p.2=h:=by
   rcases b with _|_<;>first|(exact ft hb;done)|skip
   ·obtain⟨v,_,h2⟩:=kC hp
    rcases v with _|_<;>first|(exact aS h2;done)|(obtain rfl:=ag h2;rfl)
   ·obtain⟨_,_,_,h2⟩:=sE hp
    exact dT h2 fun _ _ h2=>dT h2 fun _ _ h2=>(congrArg Prod.snd (ag h2)).symm
   ·obtain⟨_,_,_,h2⟩:=sE hp
    exact dT h2 fun _ _ h2=>dT h2 fun _ _ h2=>(congrArg Prod.snd (ag h2)).symm
   ·obtain⟨_,_,h2⟩:=kC hp
    exact dT h2 fun _ _ h2=>(congrArg Prod.snd (ag h2)).symm
   ·obtain⟨_,_,h2⟩:=kC hp
    refine dT h2 fun i _ h2=>?_
    cases hs:small i with
    |true=>rw[hs] at h2;exact(congrArg Prod.snd (ag h2)).symm
    |false=>rw[hs] at h2;exact aS h2
  rw[hp,←ag e,←this]
theorem E4{x:Option (V×H)}{v:V}{h:H}{k:V->H->Prop}(e:x=some (v,h))(g:k v h):fg x k:=e▸g
structure CS(h:H)(n:Nat):Prop where
 ev:∀{N:Nat} {ρ:au} {e:E} {v:V} {k:V->H->Prop},2*n<=N->(pv n).ev ρ h e=some v->k v h->aN P N ρ h e k
 evs:∀{N:Nat} {ρ:au} {e:List E} {v:List V} {k:List V->H->Prop},2*n<=N->(pv n).evs ρ h e=some v->k v h->cp P N ρ h e k
 evB:∀{N:Nat} {ρ:au} {c:Bool} {e:List E} {v:V} {k:V->H->Prop},2*n<=N->(pv n).evB ρ h c e=some v->k v h->gv P N ρ h c e k
 tst:∀{N:Nat} {ρ:au} {e:E} {b:Bool} {k:Bool->H->Prop},2*n+1<=N->(pv n).ev ρ h e=some (.bool b)->k b h->cC P N ρ h e k
 tsts:∀{N:Nat} {ρ:au} {c:Bool} {e:List E} {b:Bool} {k:Bool->H->Prop},2*n+1<=N->(pv n).evB ρ h c e=some (.bool b)->k b h->cD P N ρ h c e k
section
variable{h:H}{n N:Nat}(hr:h.raw=[])(I:CS h n){ρ:au}
theorem Ku{N:Nat}(h:2*(n+1)<=N):∃M,N=M+1/\2*n+1<=M:=⟨N - 1,by lia⟩
include hr I
theorem zj{e:E}{v:V}{k:V->H->Prop}(h2:2*n+1<=N)(q:(pv (n+1)).ev ρ h e=some v)(g:k v h):aN P (N+1) ρ h e k:=by
 have h1:2*n<=N:=aI h2
 cases e with
 |none=>exact rU (k:=k) q g
 |bool b=>exact rU (k:=k) q g
 |int b=>exact rU (k:=k) q g
 |str b=>exact rU (k:=k) q g
 |var x=>exact Ab.bS q g
 |glob x=>exact Ab.bS q g
 |attr e a=>exact iF q fun o qo q=>I.ev (N:=N) h1 qo (Ab.bS (BD hr q) g)
 |bop o a b=>exact iF q fun x qx q=>iF q fun y qy q=>I.ev (N:=N) h1 qx (I.ev h1 qy (E4 (xA q) g))
 |neg e=>exact iF q fun x qx q=>dT q fun i hi q=>I.ev (N:=N) h1 qx (by exact hi▸rU (k:=k) q g)
 |not e=>exact iF q fun x qx q=>qV q fun i hi q=>I.ev (N:=N) h1 qx (by exact hi▸rU (k:=k) q g)
 |bool2 c es=>exact I.evB h1 q g
 |cmp a o b=>exact iF q fun x qx q=>iF q fun y qy q=>iF q fun r hr q=>I.ev (N:=N) h1 qx (I.ev h1 qy (Ab.bS hr (rU q g)))
 |ite t a b=>
  refine iF q fun x qx q=>qV q fun c hc q=>?_
  subst hc
  refine I.tst h2 qx ?_
  rcases c with _|_
  ·exact I.ev h1 q g
  ·exact I.ev h1 q g
 |tup es=>exact iF q fun x qx q=>I.evs h1 qx (rU q g)
 |sub a b=>exact iF q fun x qx q=>iF q fun y qy q=>I.ev (N:=N) h1 qx (I.ev (N:=N) h1 qy (Ab.bS q g))
 |blt b es=>exact iF q fun x qx q=>I.evs (N:=N) h1 qx (E4 (k:=k) (wZ q) g)
 |isB e=>exact iF q fun x qx q=>iF q fun r hr q=>I.ev (N:=N) h1 qx (Ab.bS hr (rU (k:=k) q g))
 |_=>exact aS q
theorem AJ{e:E}{b:Bool}{k:Bool->H->Prop}(h2:2*n+2<=N)(q:(pv (n+1)).ev ρ h e=some (.bool b))(g:k b h):cC P (N+1) ρ h e k:=by
 have h3:2*n+1<=N:=aI h2
 rcases hp:plainT e with _|_
 ·cases e with
  |not e=>
   refine iF q fun x qx q=>qV q fun i hi q=>?_
   subst hi
   cases q
   exact I.tst (N:=N) h3 qx g
  |bool2 c es=>exact I.tsts (N:=N) h3 q g
  |ite t x y=>
   refine iF q fun x qx q=>qV q fun c hc q=>?_
   subst hc
   refine I.tst (N:=N) h3 qx ?_
   cases c
   ·exact I.tst (N:=N) h3 q g
   ·exact I.tst (N:=N) h3 q g
  |_=>exact nomatch hp
 ·rw[AW hp]
  obtain⟨N,rfl⟩:∃M,N=M+1:=⟨N - 1,by lia⟩
  exact zj hr I (bG h2) q g
theorem yt:CS h (n+1) where
 ev hN q g:=by
  obtain⟨M,rfl,h1⟩:=Ku hN
  exact zj hr I h1 q g
 evs {N ρ e v k} hN q g:=by
  obtain⟨M,rfl,h1⟩:=Ku hN
  rcases e with _|⟨e,r⟩
  ·exact rU (k:=k) q g
  ·exact iF q fun x qx q=>iF q fun y qy q=>I.ev (N:=M) (aI h1) qx (I.evs (N:=M) (aI h1) qy (rU (k:=k) q g))
 evB {N ρ c e v k} hN q g:=by
  obtain⟨M,rfl,h1⟩:=Ku hN
  match e,q with
  |[e],q=>exact I.ev (N:=M) (aI h1) q g
  |e::a::r,q=>
   refine iF q fun x qx q=>qV q fun b hb q=>?_
   subst hb
   refine I.ev (N:=M) (aI h1) qx ?_
   show same b c (gv P M ρ h c (a::r) k) (k (.bool b) h)
   rcases b with _|_<;>rcases c with _|_<;>first|exact I.evB (N:=M) (aI h1) q g|exact rU (k:=k) q g
 tst {N ρ e b k} hN q g:=by
  obtain⟨M,rfl⟩:∃M,N=M+1:=⟨N - 1,by lia⟩
  exact AJ hr I (bG hN) q g
 tsts {N ρ c e b k} hN q g:=by
  obtain⟨M,rfl⟩:∃M,N=M+2:=⟨N - 2,by lia⟩
  have h1:2*n+1<=M+1:=bG (aI hN)
  match e,q with
  |[e],q=>
   dsimp only[sk]
   refine I.tst (N:=M+1) h1 q ?_
   show same b c (cD P (M+1) ρ h c [] k) (k b h)
   rcases b with _|_<;>rcases c with _|_<;>exact g
  |e::a::r,q=>
   refine iF q fun x qx q=>qV q fun d hb q=>?_
   subst hb
   rw[sk]
   refine I.tst (N:=M+1) h1 qx ?_
   show same d c (cD P (M+1) ρ h c (a::r) k) (k d h)
   rcases d with _|_<;>rcases c with _|_<;>first|exact I.tsts (N:=M+1) h1 q g|(rcases q with _|_;exact g)
end
theorem a7{h:H}(hr:h.raw=[]):∀n,CS h n
 |0=>⟨fun _ e=>(aS e),fun _ e=>(aS e),fun _ e=>(aS e),fun _ e=>(aS e),fun _ e=>(aS e)⟩
 |n+1=>yt hr (a7 hr n)
end Mine
end
section
set_option tactic.hygienic false
set_option genInjectivity false
namespace Mine
theorem cj{α β:Type}{a:α}{b:β}{y:Option (α×β)}{q:α->β->Prop}(h:y=some (a,b))(g:q a b):fg y q:=h▸g
theorem cg{c:Bool}{p r:Prop}(h:c=true->p)(g:c=false->r):fork c p r:=by
 rcases c with _|_
 ·exact g rfl
 ·exact h rfl
noncomputable abbrev kx(N:Nat)(ss:List S)(k:Fl->au->H->Prop):Fl->au->H->Prop:=fun f ρ h=>goes f (fun v=>k (.ret v) ρ h) (aC P N ρ h ss k)
section
variable{K d B:Nat}(hK:B<=K)(hd:Nat.ble (d+31) B=true)
theorem AO{n:Nat}(h:n+1<=K - d):K - d=K - (d+1)+1:=by omega
include hK hd
theorem dR:31<=K - d:=Nat.le_sub_of_add_le (af (af (Nat.le_of_eq (Nat.add_comm _ _)) (bP hd)) hK)
theorem bc:K - d=K - (d+1)+1:=AO (n:=30) (dR hK hd)
theorem bF:K - (d+1)=K - (d+2)+1:=AO (n:=29) (bG (le_of_le_of_eq (dR hK hd) (bc hK hd)))
theorem wN:29<=K - (d+2):=bG (le_of_le_of_eq (bG (le_of_le_of_eq (dR hK hd) (bc hK hd))) (bF hK hd))
theorem gZ:K - (d+2)=K - (d+3)+1:=AO (n:=28) (wN hK hd)
theorem LW:28<=K - (d+3):=bG (le_of_le_of_eq (wN hK hd) (gZ hK hd))
theorem zw:24<=K - (d+2):=af (by decide) (wN hK hd)
theorem Oe:25<=K - (d+2):=af (by decide) (wN hK hd)
theorem CM:24<=K - (d+3):=af (by decide) (LW hK hd)
omit hK hd
theorem ac{n:Nat}(hK:B<=K)(hd:Nat.ble (d+n) B=true):n<=K - d:=Nat.le_sub_of_add_le (af (af (Nat.le_of_eq (Nat.add_comm _ _)) (bP hd)) hK)
variable{h h':H}{ρ:au}{e e1 t:E}{x a f j:Nat}{v w:V}{vs:List V}{ss as bs:List S}{es:List E}{k:Fl->au->H->Prop}{b:Bool}(hr:h.raw=[])
theorem az(hK:B<=K)(hd:Nat.ble (d+31) B=true)(g:k .next ρ h):aC P (K - d) ρ h [] k:=by
 rw[bc hK hd];exact g
theorem s_end{M:Nat}(hK:B<=K)(hd:Nat.ble (d+31) B=true)(g:aC P M ρ h ss k):aC P (K - d) ρ h [] (kx M ss k):=by
 rw[bc hK hd];exact g
theorem dP(hK:B<=K)(hd:Nat.ble (d+31) B=true)(hr:h.raw=[])(p:(pv 12).ev ρ h e=some v)(g:aC P (K - (d+1)) (upd ρ x v) h ss k):aC P (K - d) ρ h (.asg (.var x) e::ss) k:=by
 rw[bc hK hd,bq,bF hK hd,dg]
 refine(a7 hr 12).ev (zw hK hd) p ?_
 rw[gZ hK hd,nj,←gZ hK hd,←bF hK hd];exact g
theorem aX(hK:B<=K)(hd:Nat.ble (d+31) B=true)(hr:h.raw=[])(p:(pv 12).ev ρ h e=some v)(p1:(pv 12).ev ρ h e1=some w)(q:pH P h w a v=some h')(g:aC P (K - (d+1)) ρ h' ss k):aC P (K - d) ρ h (.asg (.attr e1 a) e::ss) k:=by
 rw[bc hK hd,bq,bF hK hd,dg]
 refine(a7 hr 12).ev (zw hK hd) p ?_
 rw[gZ hK hd,dE]
 refine(a7 hr 12).ev (CM hK hd) p1 ?_
 rw[←gZ hK hd,←bF hK hd]
 exact Ab.bS q g
theorem aw(hK:B<=K)(hd:Nat.ble (d+31) B=true)(hr:h.raw=[])(p:(pv 12).ev ρ h t=some (.bool b))(g:fork b (aC P (K - (d+2)) ρ h as (kx (K - (d+1)) ss k)) (aC P (K - (d+2)) ρ h bs (kx (K - (d+1)) ss k))):aC P (K - d) ρ h (.ite t as bs::ss) k:=by
 rw[bc hK hd,bq,bF hK hd,nH]
 refine(a7 hr 12).tst (Oe hK hd) p ?_
 rw[←bF hK hd];exact g
theorem bg(hK:B<=K)(hd:Nat.ble (d+31) B=true)(hr:h.raw=[])(p:(pv 12).ev ρ h e=some v)(g:k (.ret v) ρ h):aC P (K - d) ρ h (.ret e::ss) k:=by
 rw[bc hK hd,bq,bF hK hd,nI]
 exact(a7 hr 12).ev (zw hK hd) p g
theorem uw(hK:B<=K)(hd:Nat.ble (d+31) B=true)(g:k (.ret .none) ρ h):aC P (K - d) ρ h (.ret0::ss) k:=by
 rw[bc hK hd,bq,bF hK hd,ye];exact g
theorem s_call(hK:B<=K)(hd:Nat.ble (d+31) B=true)(hr:h.raw=[])(p:(pv 12).evs ρ h es=some vs)(g:aD P (K - (d+3)) h f vs fun _ h=>aC P (K - (d+1)) ρ h ss k):aC P (K - d) ρ h (.expr (.call f es)::ss) k:=by
 rw[bc hK hd,bq,bF hK hd,lE,gZ hK hd,fO]
 refine(a7 hr 12).evs (CM hK hd) p ?_
 rw[←gZ hK hd,←bF hK hd];exact g
theorem da(hK:B<=K)(hd:Nat.ble (d+31) B=true)(hr:h.raw=[])(p:(pv 12).evs ρ h es=some vs)(g:aD P (K - (d+3)) h f vs fun v h=>aC P (K - (d+1)) (upd ρ x v) h ss k):aC P (K - d) ρ h (.asg (.var x) (.call f es)::ss) k:=by
 rw[bc hK hd,bq,bF hK hd,dg,gZ hK hd,fO]
 refine(a7 hr 12).evs (CM hK hd) p ?_
 show aD P _ h f vs fun v h=>aC P (K - (d+3)+1+1) (upd ρ x v) h ss k
 rw[←gZ hK hd,←bF hK hd];exact g
theorem j9(hK:B<=K)(hd:Nat.ble (d+31) B=true)(hr:h.raw=[])(p:(pv 12).ev ρ h e=some v)(g:dK P (K - (d+2)) ρ h (.var x) bs v 0 (kx (K - (d+1)) ss k)):aC P (K - d) ρ h (.for (.var x) e bs::ss) k:=by
 rw[bc hK hd,bq,bF hK hd,nT]
 refine(a7 hr 12).ev (zw hK hd) p ?_
 rw[←bF hK hd];exact g
theorem d8(hK:B<=K)(hd:Nat.ble (d+31) B=true)(p:itemAt h v j=some none)(g:k .next ρ h):dK P (K - d) ρ h (.var x) bs v j k:=by
 rw[bc hK hd,pF,p];exact g
theorem cI(hK:B<=K)(hd:Nat.ble (d+31) B=true)(p:itemAt h v j=some (some w))(g:aC P (K - (d+1)) (upd ρ x w) h bs fun f ρ h=>goes f (fun v=>k (.ret v) ρ h) (dK P (K - (d+1)) ρ h (.var x) bs v (j+1) k)):dK P (K - d) ρ h (.var x) bs v j k:=by
 rw[bc hK hd,pF,p,BK]
 show bZ P _ ρ h (.var x) w _
 rw[bF hK hd,nj,←bF hK hd];exact g
theorem yU(hK:B<=K)(hd:Nat.ble (d+31) B=true)(g:fi P (K - (d+2)) ρ h t bs (kx (K - (d+1)) ss k)):aC P (K - d) ρ h (.while t bs::ss) k:=by
 rw[bc hK hd,bq,bF hK hd,tJ,←bF hK hd];exact g
theorem pg(hK:B<=K)(hd:Nat.ble (d+31) B=true)(hr:h.raw=[])(p:(pv 12).ev ρ h t=some (.bool b))(g:fork b (aC P (K - (d+1)) ρ h bs fun f ρ h=>goes f (fun v=>k (.ret v) ρ h) (fi P (K - (d+1)) ρ h t bs k)) (k .next ρ h)):fi P (K - d) ρ h t bs k:=by
 rw[bc hK hd,zT]
 refine(a7 hr 12).tst ?_ p g
 rw[bF hK hd];exact aL (Oe hK hd)
theorem av{F:Fn}{k:V->H->Prop}(hK:B<=K)(hd:Nat.ble (0+31) B=true)(p:P.fn f=some F)(q:binds F.ps F.ds vs=some ρ)(g:aC P (K - 1) ρ h F.body fun r _ h=>goes r (fun v=>k v h) (k .none h)):aD P K h f vs k:=by
 rw[show K=K - 1+1 from bc hK hd,zt,p,BK,q];exact g
end
end Mine
namespace Mine.Ab
noncomputable def imax(x y:Int):Int:=if x<y then y else x
noncomputable def En(G:H)(m:Int)(q:Option Nat):Int:=match q with
 |none=>m
 |some l=>imax m (G.I 69 179 l+G.I 66 179 l)
noncomputable def vT(G:H)(i:Nat):Int:=En G (En G (G.I 68 179 i) (G.Q 71 179 i)) (G.Q 72 179 i)
theorem Qy:P.fn 5=some f5:=by kernel_rfl
theorem oP{G:H}{i K:Nat}{k:V->H->Prop}(hK:60<=K)(hr:G.raw=[])(h:k (.int (vT G i)) G):aD P K G 5 [.ref 179 (some i)] k:=by
 unfold vT at h
 refine av hK rfl Qy rfl (dP hK rfl hr rfl (j9 hK rfl hr rfl ?_))
 cases e1:G.Q 71 179 i with
 |none=>
  rw[e1] at h
  refine cI hK rfl rfl (aw hK rfl hr rfl (s_end hK rfl (az hK rfl ?_)))
  cases e2:G.Q 72 179 i with
  |none=>
   rw[e2] at h
   exact cI hK rfl rfl (aw hK rfl hr rfl (s_end hK rfl (az hK rfl (d8 hK rfl rfl (bg hK rfl hr rfl h)))))
  |some r=>
   rw[e2] at h
   exact cI hK rfl rfl (aw hK rfl hr rfl (dP hK rfl hr rfl (s_end hK rfl (az hK rfl (d8 hK rfl rfl (bg hK rfl hr rfl h))))))
 |some l=>
  rw[e1] at h
  refine cI hK rfl rfl (aw hK rfl hr rfl (dP hK rfl hr rfl (s_end hK rfl (az hK rfl ?_))))
  rcases e2:G.Q 72 179 i with _|r
  ·rw[e2] at h
   exact cI hK rfl rfl (aw hK rfl hr rfl (s_end hK rfl (az hK rfl (d8 hK rfl rfl (bg hK rfl hr rfl h)))))
  ·rw[e2] at h
   exact cI hK rfl rfl (aw hK rfl hr rfl (dP hK rfl hr rfl (s_end hK rfl (az hK rfl (d8 hK rfl rfl (bg hK rfl hr rfl h))))))
end Mine.Ab
end
section
namespace Mine.Ab
set_option tactic.hygienic false
set_option genInjectivity false
noncomputable def hdS(G:H)(i:Nat)(q:Option Nat):H:=match q with
 |none=>G
 |some l=>G.sI 66 179 l (G.I 66 179 l+G.I 66 179 i)
noncomputable def hd1(G:H)(i:Nat):H:=G.sI 67 179 i (G.I 67 179 i+G.I 66 179 i)
noncomputable def hd2(G:H)(i:Nat):H:=(hd1 G i).sI 68 179 i ((hd1 G i).I 68 179 i+(hd1 G i).I 66 179 i)
noncomputable def HX(G:H)(i:Nat):H:=(hd2 G i).sI 69 179 i ((hd2 G i).I 69 179 i+(hd2 G i).I 66 179 i)
noncomputable def rS(G:H)(i:Nat):H:=(hdS (hdS (HX G i) i (G.Q 71 179 i)) i (G.Q 72 179 i)).sI 66 179 i 0
theorem gQ{G:H}(h:G.raw=[]){a c i:Nat}{x:Int}:(G.sI a c i x).raw=[]:=by show bL a c i G.raw=[];rw[h];rfl
theorem Ey{G:H}(h:G.raw=[]){a c i:Nat}{x:Option Nat}:(G.sQ a c i x).raw=[]:=by show bL a c i G.raw=[];rw[h];rfl
theorem PA{G:H}(h:G.raw=[]){a c i:Nat}{x:Nat}:(G.sN a c i x).raw=[]:=by show bL a c i G.raw=[];rw[h];rfl
theorem P5:P.fn 3=some f3:=by kernel_rfl
theorem PQ{G:H}(h:G.raw=[]){i:Nat}{q:Option Nat}:(hdS G i q).raw=[]:=by
 rcases q with _|l
 ·exact h
 ·exact gQ h
theorem wT{G:H}{i K:Nat}{k:V->H->Prop}(hK:60<=K)(hr:G.raw=[])(h0:G.I 66 179 i=0->k .none G)(h1:G.I 66 179 i≠0->k .none (rS G i)):aD P K G 3 [.ref 179 (some i)] k:=by
 refine av hK rfl P5 rfl ?_
 refine aw hK rfl hr rfl (cg (fun q=>uw hK rfl (h0 (ao q))) fun q=>s_end hK rfl ?_)
 replace h1:=h1 (bT q)
 refine aX hK rfl hr rfl rfl (h':=hd1 G i) rfl ?_
 have r1:(hd1 G i).raw=[]:=gQ hr
 refine aX hK rfl r1 rfl rfl rfl ?_
 have r2:(hd2 G i).raw=[]:=gQ r1
 refine aX hK rfl r2 rfl rfl (h':=HX G i) rfl ?_
 have r3:(HX G i).raw=[]:=gQ r2
 refine j9 hK rfl r3 (v:= .tup [.ref 179 (G.Q 71 179 i), .ref 179 (G.Q 72 179 i)]) rfl ?_
 unfold rS at h1
 generalize HX G i=G3 at*
 generalize G.Q 72 179 i=qr at*
 generalize G.Q 71 179 i=ql at*
 rcases ql with _|l
 ·refine cI hK rfl rfl (aw hK rfl r3 rfl (s_end hK rfl (az hK rfl ?_)))
  rcases qr with _|r
  ·exact cI hK rfl rfl (aw hK rfl r3 rfl (s_end hK rfl (az hK rfl (d8 hK rfl rfl (aX hK rfl r3 rfl rfl rfl (az hK rfl h1))))))
  ·exact cI hK rfl rfl (aw hK rfl r3 rfl (aX hK rfl r3 rfl rfl rfl (s_end hK rfl (az hK rfl (d8 hK rfl rfl (aX hK rfl (gQ r3) rfl rfl rfl (az hK rfl h1)))))))
 ·have r4:(hdS G3 i (some l)).raw=[]:=PQ r3
  refine cI hK rfl rfl (aw hK rfl r3 rfl (aX hK rfl (h':=hdS G3 i (some l)) r3 rfl rfl rfl (s_end hK rfl (az hK rfl ?_))))
  generalize hdS G3 i (some l)=G4 at*
  rcases qr with _|r
  ·exact cI hK rfl rfl (aw hK rfl r4 rfl (s_end hK rfl (az hK rfl (d8 hK rfl rfl (aX hK rfl r4 rfl rfl rfl (az hK rfl h1))))))
  ·exact cI hK rfl rfl (aw hK rfl r4 rfl (aX hK rfl r4 rfl rfl rfl (s_end hK rfl (az hK rfl (d8 hK rfl rfl (aX hK rfl (gQ r4) rfl rfl rfl (az hK rfl h1)))))))
section
variable{Γ:Gm}{A A':St}{G:H}{s t i:Nat}{q:Option Nat}
theorem oC(hl:∀u,q=some u->u<Γ.k)(ht:t<Γ.k):(hdS G i (q.map Γ.id)).I 66 179 (Γ.id t)=G.I 66 179 (Γ.id t)+if q=some t then G.I 66 179 i else 0:=by
 rcases q with _|u
 ·show G.I 66 179 (Γ.id t)=_;rw[if_neg (fun h=>nomatch h)];lia
 ·refine(fA (hl u rfl) ht).trans ?_
  by_cases e:t=u
  ·subst e;rw[ay,if_pos rfl]
  ·rw[aB e,if_neg (fun h=>e (ag h).symm)];lia
theorem j5{a c j:Nat}(h:a≠66):(hdS G i q).I a c j=G.I a c j:=by
 rcases q with _|u
 ·rfl
 ·exact bw h
theorem HB(hl:∀u,q=some u->u<Γ.k)(hs:s<Γ.k)(h:q≠some s):(hdS G i (q.map Γ.id)).I 66 179 (Γ.id s)=G.I 66 179 (Γ.id s):=by
 rw[oC hl hs,if_neg h];lia
theorem tC(f:Fr Γ G)(hl:∀u,q=some u->u<Γ.k):Fr Γ (hdS G i (q.map Γ.id)):=by
 rcases q with _|u
 ·exact f
 ·exact f.sI (dC (hl u rfl)) (by decide)
theorem iu:(hdS G i q).Q=G.Q:=by cases q<;>rfl
theorem Ar:(hdS G i q).B=G.B:=by cases q<;>rfl
theorem km:(hdS G i q).lst=G.lst/\(hdS G i q).nl=G.nl:=by cases q<;>exact⟨rfl,rfl⟩
theorem uK(k:A.k=Γ.k)(h:zl A s=true):s<Γ.k/\(∀a,A.L s=some a->A.R s≠some a)/\∀t,t<Γ.k->(A.U t=some s↔A.L s=some t\/A.R s=some t):=by
 obtain⟨h1,h2⟩:=aa h
 obtain⟨h3,h4⟩:=aa h1
 refine⟨k▸cc h3,fun a e1 e2=>?_,fun t ht=>?_⟩
 ·rw[e1,e2] at h4
  dsimp only at h4
  rw[Nat.beq_refl] at h4;cases h4
 ·have:=yv (bj h2 t (k▸ht))
  have io:∀{o:Option Nat},oN o t=true↔o=some t:=fun {o}=>⟨o6,fun e=>by rw[e];exact mn⟩
  have io':oN (A.U t) s=true↔A.U t=some s:=⟨o6,fun e=>by rw[e];exact mn⟩
  rw[←io',this,Bool.or_eq_true,io,io]
theorem vk{E E':Nat->Int}(h:∀p,A.U s=some p->E' p=E p):Ep A E' s=Ep A E s:=by
 unfold Ep
 rcases e:A.U s with _|p
 ·rfl
 ·exact h p e
theorem DH(R:Rel Γ A G)(h:hd A s=some A')(ho:G.I 66 179 (Γ.id s)≠0):Rel Γ A' (rS G (Γ.id s)):=by
 obtain⟨E,m,n,f⟩:=R.n
 unfold hd at h
 rcases hz:A.z s&&ez A s&&Nat.ble (s+1) A.k with _|_
 ·rw[hz] at h
  obtain⟨h1,h2⟩:=aO h
  cases h2
  obtain⟨h3,h4⟩:=aa h1
  obtain⟨hs,hLR,hU⟩:=uK R.k h3
  have hUs:A.U s≠some s:=fun e=>by rw[e,mn] at h4;cases h4
  have Lk:=R.l.Lk s hs
  have Rk:=R.l.Rk s hs
  have Ls:A.L s≠some s:=fun e=>hUs ((hU s hs).mpr (.inl e))
  have Rs:A.R s≠some s:=fun e=>hUs ((hU s hs).mpr (.inr e))
  have hQ1:=R.l.L s hs
  have hQ2:=R.l.R s hs
  have I67:∀t,t<Γ.k->(rS G (Γ.id s)).I 67 179 (Γ.id t)=up1 (fun t=>G.I 67 179 (Γ.id t)) s (G.I 67 179 (Γ.id s)+G.I 66 179 (Γ.id s)) t:=fun t ht=>by
   unfold rS
   rw[bw (by decide),j5 (by decide),j5 (by decide)]
   exact(bw (by decide)).trans ((bw (by decide)).trans (fA hs ht))
  have I68:∀t,t<Γ.k->(rS G (Γ.id s)).I 68 179 (Γ.id t)=up1 (fun t=>G.I 68 179 (Γ.id t)) s (G.I 68 179 (Γ.id s)+G.I 66 179 (Γ.id s)) t:=fun t ht=>by
   unfold rS
   rw[bw (by decide),j5 (by decide),j5 (by decide)]
   exact(bw (by decide)).trans (fA hs ht)
  have I69:∀t,t<Γ.k->(rS G (Γ.id s)).I 69 179 (Γ.id t)=up1 (fun t=>G.I 69 179 (Γ.id t)) s (G.I 69 179 (Γ.id s)+G.I 66 179 (Γ.id s)) t:=fun t ht=>by
   unfold rS
   rw[bw (by decide),j5 (by decide),j5 (by decide)]
   exact fA hs ht
  have H66:∀t,t<Γ.k->(HX G (Γ.id s)).I 66 179 (Γ.id t)=G.I 66 179 (Γ.id t):=fun t ht=>(bw (by decide)).trans ((bw (by decide)).trans (bw (by decide)))
  have I66:∀t,t<Γ.k->(rS G (Γ.id s)).I 66 179 (Γ.id t)=if t=s then 0 else G.I 66 179 (Γ.id t)+(if A.L s=some t then G.I 66 179 (Γ.id s) else 0)+if A.R s=some t then G.I 66 179 (Γ.id s) else 0:=fun t ht=>by
   unfold rS
   refine(fA hs ht).trans ?_
   by_cases e:t=s
   ·subst e;rw[ay,if_pos rfl]
   ·rw[aB e,if_neg e]
    show(hdS _ _ _).I 66 179 _=_
    rw[hQ1,hQ2,oC Rk ht,HB Lk hs Ls,oC Lk ht,H66 t ht,H66 s hs]
  have o:=n.o s hs
  refine⟨R.k,R.x,⟨?_,R.l.rk,?_,?_,?_,R.l.Lk,R.l.Rk,R.l.Uk,?_⟩,⟨?_,?_,?_⟩,?_,up1 E s (Ep A E s),m,⟨fun t ht=>?_,fun t ht=>?_,fun t ht=>?_,fun t ht=>?_⟩,⟨fun t ht hzt=>?_,f.mm,f.em,f.me,f.qs⟩⟩
  ·show(hdS _ _ _).Q _ _ _=_
   rw[iu,iu];exact R.l.root
  ·show ∀t,t<Γ.k->(hdS _ _ _).Q _ _ _=_
   rw[iu,iu];exact R.l.L
  ·show ∀t,t<Γ.k->(hdS _ _ _).Q _ _ _=_
   rw[iu,iu];exact R.l.R
  ·show ∀t,t<Γ.k->(hdS _ _ _).Q _ _ _=_
   rw[iu,iu];exact R.l.U
  ·show ∀t,t<Γ.k->(hdS _ _ _).B _ _ _=_
   rw[Ar,Ar];exact R.l.C
  ·show(hdS _ _ _).nl=_
   rw[km.2,km.2];exact R.s.nl
  ·show ∀j,j<A.nl->bv Γ (A.ls j) ((hdS _ _ _).lst (Γ.nl0+j))
   rw[km.1,km.1];exact R.s.ls
  ·show ∀j,j<Γ.nl0->(hdS _ _ _).lst j=_
   rw[km.1,km.1];exact R.s.old
  ·unfold rS
   rw[hQ1,hQ2]
   exact(tC (tC (((R.f.sI (dC hs) (by decide)).sI (dC hs) (by decide)).sI (dC hs) (by decide)) Lk) Rk).sI (dC hs) (by decide)
  ·rw[I67 t ht]
   by_cases e:t=s
   ·subst e;rw[ay,ay,n.b t ht,o];show _=Γ.sv (A.sb t) (Γ.b0 t) - _;lia
   ·rw[aB e,aB e];exact n.b t ht
  ·rw[I68 t ht]
   by_cases e:t=s
   ·subst e;rw[ay,ay,n.e t ht,o];show _=iO Γ A t - _;lia
   ·rw[aB e,aB e];exact n.e t ht
  ·rw[I69 t ht]
   by_cases e:t=s
   ·subst e;rw[ay,ay,n.m t ht,o];lia
   ·rw[aB e,aB e];exact n.m t ht
  ·rw[I66 t ht]
   by_cases e:t=s
   ·subst e
    rw[if_pos rfl,ay]
    show _=Ep A E t - Ep A (up1 E t (Ep A E t)) t
    rw[vk (E':=up1 E t (Ep A E t)) fun p hp=>aB fun q=>hUs (by rw[hp,q])];lia
   ·rw[if_neg e,aB e,n.o t ht,o]
    show _=E t - Ep A (up1 E s (Ep A E s)) t
    by_cases eu:A.U t=some s
    ·have:Ep A (up1 E s (Ep A E s)) t=Ep A E s:=by unfold Ep;rw[eu];exact ay
     have:Ep A E t=E s:=by unfold Ep;rw[eu]
     rcases(hU t ht).mp eu with e1|e1
     ·rw[if_pos e1,if_neg (hLR t e1)];lia
     ·rw[if_pos e1,if_neg fun e2=>hLR t e2 e1];lia
    ·have e1:A.L s≠some t:=fun e1=>eu ((hU t ht).mpr (.inl e1))
     have e2:A.R s≠some t:=fun e1=>eu ((hU t ht).mpr (.inr e1))
     rw[if_neg e1,if_neg e2,vk (E':=up1 E s (Ep A E s)) fun p hp=>aB fun q=>eu (by rw[hp,q])];lia
  ·by_cases e:t=s
   ·subst e
    rw[ay]
    have hzt:up1 A.z t (ez A t) t=true:=hzt
    rw[ay] at hzt
    exact tA R f ht hzt
   ·have hzt:up1 A.z s (ez A s) t=true:=hzt
    rw[aB e] at hzt
    rw[aB e];exact f.z t ht hzt
 ·obtain⟨h1,h2⟩:=aa hz
  obtain⟨h3,h4⟩:=aa h1
  have hs:s<Γ.k:=R.k▸cc h2
  exact absurd (by rw[n.o s hs,f.z s hs h3,tA R f hs h4];rfl) ho
theorem yk(R:Rel Γ A G)(h:hd A s=some A')(ho:G.I 66 179 (Γ.id s)=0):Rel Γ A' G:=by
 obtain⟨E,m,n,f⟩:=R.n
 unfold hd at h
 rcases hz:A.z s&&ez A s&&Nat.ble (s+1) A.k with _|_
 ·rw[hz] at h
  obtain⟨h1,h2⟩:=aO h
  cases h2
  obtain⟨h3,h4⟩:=aa h1
  obtain⟨hs,_,_⟩:=uK R.k h3
  have o:=n.o s hs
  refine⟨R.k,R.x,⟨R.l.root,R.l.rk,R.l.L,R.l.R,R.l.U,R.l.Lk,R.l.Rk,R.l.Uk,R.l.C⟩,⟨R.s.nl,R.s.ls,R.s.old⟩,R.f,E,m,⟨n.b,n.e,n.m,n.o⟩,⟨fun t ht hzt=>?_,f.mm,f.em,f.me,f.qs⟩⟩
  by_cases e:t=s
  ·subst e
   have hzt:up1 A.z t (ez A t) t=true:=hzt
   rw[ay] at hzt
   have:=tA R f ht hzt
   lia
  ·have hzt:up1 A.z s (ez A s) t=true:=hzt
   rw[aB e] at hzt
   exact f.z t ht hzt
 ·rw[hz] at h;cases h;exact R
end
structure Rm(Γ:Gm)(A:St)(E m:Nat->Int)(G:H):Prop where
 k:A.k=Γ.k
 x:A.x=Γ.x
 l:Lk Γ A G
 s:Ls Γ A G
 f:Fr Γ G
 n:Nm Γ A E m G
section
variable{Γ:Gm}{A A':St}{G:H}{s t u:Nat}{q:Option Nat}{E m:Nat->Int}
theorem Rel.out{p:Prop}(R:Rel Γ A G)(g:∀E m,Rm Γ A E m G->Ft Γ A E m->p):p:=by
 obtain⟨E,m,n,f⟩:=R.n
 exact g E m ⟨R.k,R.x,R.l,R.s,R.f,n⟩ f
theorem Rm.rel(R:Rm Γ A E m G)(f:Ft Γ A E m):Rel Γ A G:=⟨R.k,R.x,R.l,R.s,R.f,E,m,R.n,f⟩
theorem Rm.IP(R:Rm Γ A E m G)(hs:s<Γ.k){M:Int}:Rm Γ A E (up1 m s M) (G.sI 69 179 (Γ.id s) (M - E s)):=by
 refine⟨R.k,R.x,⟨R.l.root,R.l.rk,R.l.L,R.l.R,R.l.U,R.l.Lk,R.l.Rk,R.l.Uk,R.l.C⟩,⟨R.s.nl,R.s.ls,R.s.old⟩,R.f.sI (dC hs) (by decide),fun t ht=>(bw (by decide)).trans (R.n.b t ht),fun t ht=>(bw (by decide)).trans (R.n.e t ht),fun t ht=>(fA hs ht).trans ?_,fun t ht=>(bw (by decide)).trans (R.n.o t ht)⟩
 by_cases e:t=s
 ·rw[e,ay,ay]
 ·rw[aB e,aB e];exact R.n.m t ht
theorem Rm.marks{mm em:Nat->Nat->Bool}{me:Nat->Bool}(R:Rm Γ A E m G):Rm Γ {A with mm:=mm,em:=em,me:=me} E m G:=
 ⟨R.k,R.x,⟨R.l.root,R.l.rk,R.l.L,R.l.R,R.l.U,R.l.Lk,R.l.Rk,R.l.Uk,R.l.C⟩,⟨R.s.nl,R.s.ls,R.s.old⟩,R.f,⟨R.n.b,R.n.e,R.n.m,R.n.o⟩⟩
theorem hA{x y:Int}:x<=imax x y:=by unfold imax;split<;>lia
theorem gP{x y:Int}:y<=imax x y:=by unfold imax;split<;>lia
theorem oT{x y z:Int}(h1:x<=z)(h2:y<=z):imax x y<=z:=by unfold imax;split<;>assumption
theorem uh{x y z:Int}:imax (x - z) (y - z)=imax x y - z:=by unfold imax;split<;>split<;>lia
noncomputable def mx(m:Nat->Int)(x:Int)(q:Option Nat):Int:=match q with
 |none=>x
 |some c=>imax x (m c)
noncomputable def jO(A:St)(Γ:Gm)(m:Nat->Int)(s:Nat):Int:=mx m (mx m (iO Γ A s) (A.L s)) (A.R s)
theorem qS{x:Int}:x<=mx m x q:=by
 cases q
 ·exact bQ _
 ·exact hA
theorem xT{x:Int}{c:Nat}(h:q=some c):m c<=mx m x q:=by rw[h];exact gP
theorem Ai{x z:Int}(h1:x<=z)(h2:∀c,q=some c->m c<=z):mx m x q<=z:=by
 cases q
 ·exact h1
 ·exact oT h1 (h2 _ rfl)
theorem o7(R:Rm Γ A E m G){x:Int}(hk:∀c,q=some c->c<Γ.k/\A.U c=some s):En G (x - E s) (q.map Γ.id)=mx m x q - E s:=by
 rcases q with _|c
 ·rfl
 ·show imax _ _=imax _ _ - _
  have:G.I 69 179 (Γ.id c)+G.I 66 179 (Γ.id c)=m c - E s:=by
   rw[R.n.m c (hk c rfl).1,R.n.o c (hk c rfl).1]
   unfold Ep
   rw[(hk c rfl).2]
   show m c - E c+(E c - E s)=_
   lia
  rw[this,uh]
theorem uy(R:Rm Γ A E m G)(hs:s<Γ.k)(h1:∀c,A.L s=some c->A.U c=some s)(h2:∀c,A.R s=some c->A.U c=some s):vT G (Γ.id s)=jO A Γ m s - E s:=by
 unfold vT jO
 rw[R.n.e s hs,R.l.L s hs,R.l.R s hs,o7 R fun c hc=>⟨R.l.Lk s hs c hc,h1 c hc⟩,o7 R fun c hc=>⟨R.l.Rk s hs c hc,h2 c hc⟩]
theorem mJ{o:Option Nat}{f:Nat->Bool}(h:ch o f false=true):∃c,o=some c/\f c=true:=by
 rcases o with _|c
 ·exact nomatch h
 ·exact⟨c,rfl,h⟩
theorem wj{o:Option Nat}{f:Nat->Bool}(h:ch o f true=true){c:Nat}(e:o=some c):f c=true:=by rw[e] at h;exact h
theorem HO(k:A.k=Γ.k)(h:kid A s=true):s<Γ.k/\(∀c,A.L s=some c->A.U c=some s)/\∀c,A.R s=some c->A.U c=some s:=by
 obtain⟨h1,h2⟩:=aa h
 obtain⟨h3,h4⟩:=aa h1
 refine⟨k▸cc h3,fun c e=>?_,fun c e=>?_⟩
 ·rw[e] at h4;exact o6 h4
 ·rw[e] at h2;exact o6 h2
theorem sj(f:Ft Γ A E m){M:Int}(B:St)(hz:B.z=A.z)(hq:B.qs=A.qs)(he:iO Γ B=iO Γ A)
  (h1:∀u,u<Γ.k->s<Γ.k->B.mm u s=true->u=s\/m u<=M)(h2:∀t,t<Γ.k->s<Γ.k->t≠s->B.mm s t=true->M<=m t)(h3:∀u t,u≠s->t≠s->B.mm u t=true->A.mm u t=true)
  (h4:∀u,u<Γ.k->s<Γ.k->B.em u s=true->iO Γ A u<=M)(h5:∀u t,t≠s->B.em u t=true->A.em u t=true)
  (h6:B.me s=true->M<=iO Γ A s)(h7:∀u,u≠s->B.me u=true->A.me u=true):Ft Γ B E (up1 m s M):=by
 refine⟨hz▸f.z,fun u t hu ht h=>?_,fun u t hu ht h=>?_,fun u hu h=>?_,hq▸f.qs⟩
 ·by_cases e:t=s
  ·subst e
   rw[ay]
   by_cases e2:u=t
   ·rw[e2,ay];exact bQ _
   ·rw[aB e2];exact(h1 u hu ht h).resolve_left e2
  ·rw[aB e]
   by_cases e2:u=s
   ·subst e2;rw[ay];exact h2 t ht hu e h
   ·rw[aB e2];exact f.mm u t hu ht (h3 u t e2 e h)
 ·rw[he]
  by_cases e:t=s
  ·subst e;rw[ay];exact h4 u hu ht h
  ·rw[aB e];exact f.em u t hu ht (h5 u t e h)
 ·rw[he]
  by_cases e:u=s
  ·subst e;rw[ay];exact h6 h
  ·rw[aB e];exact f.me u hu (h7 u e h)
theorem iA{α:Type}{a b:Nat}{x y:α}(h:a=b):(bif Nat.beq a b then x else y)=x:=by rw[h,Nat.beq_refl];rfl
theorem ek{α:Type}{a b:Nat}{x y:α}(h:a≠b):(bif Nat.beq a b then x else y)=y:=by rw[gm h];rfl
theorem pZ{f:Nat->Bool}(h:up1 f s false u=true):u≠s/\f u=true:=by
 by_cases e:u=s
 ·subst e;rw[ay] at h;exact nomatch h
 ·rw[aB e] at h;exact⟨e,h⟩
theorem qm(R:Rel Γ A G)(h:z9 A s=some A'):Rel Γ A' (G.sI 69 179 (Γ.id s) (vT G (Γ.id s))):=R.out fun E m R f=>by
 obtain⟨h1,h2⟩:=aO h
 obtain⟨hs,hL,hR⟩:=HO R.k h1
 cases h2
 rw[uy R hs hL hR]
 have a0:iO Γ A s<=jO A Γ m s:=ak qS qS
 have a1:∀c,A.L s=some c->m c<=jO A Γ m s:=fun c e=>ak (xT e) qS
 have a2:∀c,A.R s=some c->m c<=jO A Γ m s:=fun c e=>xT e
 refine(R.IP hs).marks.rel (sj f _ rfl rfl rfl (fun u hu _ h=>?_) (fun t ht _ e h=>?_) (fun u t e1 e2 h=>?_) (fun u hu _ h=>?_) (fun u t e h=>?_) (fun h=>absurd rfl (pZ h).1) fun u e h=>(pZ h).2)
 ·replace h:=(iA rfl).symm.trans h
  rcases fI h with h|h
  ·rcases fI h with h|h
   ·exact .inl (aF h)
   ·obtain⟨c,e,h⟩:=mJ h
    rcases fI h with h|h
    ·rw[aF h];exact .inr (a1 c e)
    ·exact .inr (ak (f.mm u c hu (R.l.Lk s hs c e) h) (a1 c e))
  ·obtain⟨c,e,h⟩:=mJ h
   rcases fI h with h|h
   ·rw[aF h];exact .inr (a2 c e)
   ·exact .inr (ak (f.mm u c hu (R.l.Rk s hs c e) h) (a2 c e))
 ·replace h:=(iA rfl).symm.trans ((ek e).symm.trans h)
  obtain⟨h,h3⟩:=aa h
  obtain⟨h4,h5⟩:=aa h
  exact Ai (Ai (f.em s t hs ht h4) fun c e=>f.mm c t (R.l.Lk s hs c e) ht (wj h5 e)) fun c e=>f.mm c t (R.l.Rk s hs c e) ht (wj h3 e)
 ·exact(ek e1).symm.trans ((ek e2).symm.trans h)
 ·replace h:=(iA rfl).symm.trans h
  rcases fI h with h|h
  ·rcases fI h with h|h
   ·rw[aF h];exact a0
   ·obtain⟨c,e,h⟩:=mJ h
    exact ak (f.em u c hu (R.l.Lk s hs c e) h) (a1 c e)
  ·obtain⟨c,e,h⟩:=mJ h
   exact ak (f.em u c hu (R.l.Rk s hs c e) h) (a2 c e)
 ·exact(ek e).symm.trans h
theorem nJ(R:Rel Γ A G)(h:rY A s t=some A'):Rel Γ A' (G.sI 69 179 (Γ.id s) (imax (G.I 69 179 (Γ.id s)) (G.I 68 179 (Γ.id t))))/\s<Γ.k/\t<Γ.k:=R.out fun E m R f=>by
 obtain⟨h1,h2⟩:=aO h
 obtain⟨h3,h4⟩:=aa h1
 obtain⟨h5,h6⟩:=aa h3
 obtain⟨h7,h8⟩:=aa h5
 have hs:s<Γ.k:=R.k▸cc h6
 have ht:t<Γ.k:=R.k▸cc h4
 refine⟨?_,hs,ht⟩
 cases h2
 have z1:=f.z s hs h7
 have:imax (G.I 69 179 (Γ.id s)) (G.I 68 179 (Γ.id t))=imax (m s) (iO Γ A t) - E s:=by
  rw[R.n.m s hs,R.n.e t ht,z1,f.z t ht h8,Int.sub_zero,Int.sub_zero,Int.sub_zero]
 rw[this]
 refine(R.IP hs).marks.rel (sj f _ rfl rfl rfl (fun u hu _ h=>?_) (fun w hw _ e h=>?_) (fun u w e1 e2 h=>?_) (fun u hu _ h=>?_) (fun u w e h=>?_) (fun h=>absurd rfl (pZ h).1) fun u e h=>(pZ h).2)
 ·replace h:=(iA rfl).symm.trans h
  rcases fI h with h|h
  ·rcases fI h with h|h
   ·exact .inl (aF h)
   ·exact .inr (ak (f.mm u s hu hs h) hA)
  ·obtain⟨h,h9⟩:=aa h
   rw[aF h]
   exact .inr (ak (f.me t ht h9) gP)
 ·replace h:=(iA rfl).symm.trans ((ek e).symm.trans h)
  obtain⟨h,h9⟩:=aa h
  exact oT (f.mm s w hs hw h) (f.em t w ht hw h9)
 ·exact(ek e1).symm.trans ((ek e2).symm.trans h)
 ·replace h:=(iA rfl).symm.trans h
  rcases fI h with h|h
  ·rw[aF h];exact gP
  ·exact ak (f.em u s hu hs h) hA
 ·exact(ek e).symm.trans h
theorem uq(R:Rel Γ A G)(h:Gw A s=some A'):Rel Γ A' (G.sI 69 179 (Γ.id s) (G.I 68 179 (Γ.id s)))/\s<Γ.k:=R.out fun E m R f=>by
 obtain⟨h1,h2⟩:=aO h
 obtain⟨h7,h6⟩:=aa h1
 have hs:s<Γ.k:=R.k▸cc h6
 refine⟨?_,hs⟩
 cases h2
 rw[R.n.e s hs]
 refine(R.IP hs).marks.rel (sj f _ rfl rfl rfl (fun u hu _ h=>?_) (fun w hw _ e h=>?_) (fun u w e1 e2 h=>?_) (fun u hu _ h=>?_) (fun u w e h=>?_) (fun h=>bQ _) fun u e h=>?_)
 ·exact .inl (aF ((iA rfl).symm.trans h))
 ·exact f.em s w hs hw ((iA rfl).symm.trans ((ek e).symm.trans h))
 ·exact(ek e1).symm.trans ((ek e2).symm.trans h)
 ·rw[aF ((iA rfl).symm.trans h)];exact bQ _
 ·exact(ek e).symm.trans h
 ·exact(aB e).symm.trans h
end
section
variable{Γ:Gm}{A A':St}{G:H}{s t i u c:Nat}{q:Option Nat}{E m:Nat->Int}
noncomputable def Gm.dl(Γ:Gm)(st:Nat):Int:=bif Nat.beq st 1 then Γ.many else -Γ.many
theorem zp{st:Nat}{v:Int}(h:st=1\/st=2):Γ.sv st v=v+Γ.dl st:=by
 rcases h with h|h<;>subst h<;>rfl
noncomputable def gy(p:Nat->Bool)(d:Int)(f:Nat->Int):Nat->Int:=fun t=>bif p t then f t+d else f t
theorem dX{p:Nat->Bool}{d:Int}{f:Nat->Int}(h:p t=true):gy p d f t=f t+d:=by unfold gy;rw[h];rfl
theorem dH{p:Nat->Bool}{d:Int}{f:Nat->Int}(h:p t=false):gy p d f t=f t:=by unfold gy;rw[h];rfl
theorem ma{b:Bool}(h:(!b)=true):b=false:=by cases b<;>first|rfl|exact nomatch h
theorem kG(R:Rel Γ A G){st:Nat}(hst:st=1\/st=2)(h:jw A c st=some A'):c<Γ.k/\Rel Γ A' (G.sI 66 179 (Γ.id c) (G.I 66 179 (Γ.id c)+Γ.dl st)):=R.out fun E m R f=>by
 obtain⟨h1,h2⟩:=aO h
 obtain⟨h1,h5⟩:=aa h1
 obtain⟨h1,h4⟩:=aa h1
 obtain⟨h1,h3⟩:=aa h1
 have hc:c<Γ.k:=R.k▸cc h1
 refine⟨hc,?_⟩
 cases h2
 have all:∀t,t<Γ.k->(under A c 5 t=true/\A.sb t=0/\A.se t=0/\(t=c\/∃p,A.U t=some p/\under A c 5 p=true))\/(under A c 5 t=false/\∀p,A.U t=some p->under A c 5 p=false):=fun t ht=>by
  rcases dJ (bj h4 t (R.k▸ht)) with⟨x,y⟩|⟨x,y⟩
  ·obtain⟨y1,y2⟩:=aa y
   obtain⟨y3,y4⟩:=aa y1
   exact .inl ⟨x,aF y3,aF y4,(fI y2).imp aF mJ⟩
  ·refine .inr ⟨x,fun p e=>?_⟩
   have:=ma y
   rw[e] at this;exact this
 have ev:∀t,t<Γ.k->iO Γ {A with se:=fun t=>bif under A c 5 t then st else A.se t} t=gy (under A c 5) (Γ.dl st) (iO Γ A) t:=fun t ht=>by
  rcases all t ht with⟨x,_,y,_⟩|⟨x,_⟩
  ·rw[dX x]
   unfold iO
   show Γ.sv (bif under A c 5 t then st else A.se t) _=_
   rw[x,y];exact zp hst
  ·rw[dH x]
   unfold iO
   show Γ.sv (bif under A c 5 t then st else A.se t) _=_
   rw[x];rfl
 have fld:∀{f:Nat->Int} {t:Nat},t<Γ.k->gy (under A c 5) (Γ.dl st) f t - gy (under A c 5) (Γ.dl st) E t=f t - E t:=fun {f t} ht=>by
  rcases all t ht with⟨x,_⟩|⟨x,_⟩
  ·rw[dX x,dX x];lia
  ·rw[dH x,dH x]
 have le:∀{f g:Nat->Int} {u t:Nat},eb (under A c 5 u) (under A c 5 t)=true->f u<=g t->gy (under A c 5) (Γ.dl st) f u<=gy (under A c 5) (Γ.dl st) g t:=fun {f g u t} h h2=>by
  have:=yv h
  rcases x:under A c 5 t with _|_
  ·rw[dH x,dH (this.trans x)];exact h2
  ·rw[dX x,dX (this.trans x)];lia
 refine⟨R.k,R.x,⟨R.l.root,R.l.rk,R.l.L,R.l.R,R.l.U,R.l.Lk,R.l.Rk,R.l.Uk,R.l.C⟩,⟨R.s.nl,R.s.ls,R.s.old⟩,R.f.sI (dC hc) (by decide),gy (under A c 5) (Γ.dl st) E,gy (under A c 5) (Γ.dl st) m,⟨fun t ht=>?_,fun t ht=>?_,fun t ht=>?_,fun t ht=>?_⟩,⟨fun t ht hz=>?_,fun u t hu ht h=>?_,fun u t hu ht h=>?_,fun u hu h=>?_,f.qs⟩⟩
 ·refine(bw (by decide)).trans ((R.n.b t ht).trans ?_)
  show _=Γ.sv (bif under A c 5 t then st else A.sb t) _ - _
  rcases all t ht with⟨x,y,_⟩|⟨x,_⟩
  ·rw[x,y,dX x]
   show Γ.b0 t - E t=Γ.sv st (Γ.b0 t) - _
   rw[zp hst];lia
  ·rw[x,dH x];rfl
 ·refine(bw (by decide)).trans ((R.n.e t ht).trans ?_)
  refine Eq.trans ?_ (congrArg (· - gy (under A c 5) (Γ.dl st) E t) (ev t ht)).symm
  exact(fld ht).symm
 ·exact(bw (by decide)).trans ((R.n.m t ht).trans (fld ht).symm)
 ·refine(fA hc ht).trans ?_
  show _=_ - Ep A (gy (under A c 5) (Γ.dl st) E) t
  by_cases e:t=c
  ·subst e
   have:Ep A (gy (under A t 5) (Γ.dl st) E) t=Ep A E t:=vk fun p hp=>dH (by have:=ma h5;rw[hp] at this;exact this)
   rw[ay,this,dX h3,R.n.o t ht];lia
  ·rw[aB e,R.n.o t ht]
   rcases all t ht with⟨x,_,_,y⟩|⟨x,y⟩
   ·obtain⟨p,hp,hu⟩:=y.resolve_left e
    have:∀F,Ep A F t=F p:=fun F=>by unfold Ep;rw[hp]
    rw[this,this,dX x,dX hu];lia
   ·rw[dH x,vk fun p hp=>dH (y p hp)]
 ·obtain⟨x,y⟩:=aa hz
  rw[dH (ma y)];exact f.z t ht x
 ·obtain⟨x,y⟩:=aa h
  exact le y (f.mm u t hu ht x)
 ·obtain⟨x,y⟩:=aa h
  refine ak (Int.le_of_eq (ev u hu)) (le y (f.em u t hu ht x))
 ·refine ak (le (by cases under A c 5 u<;>rfl) (f.me u hu h)) (Int.le_of_eq (ev u hu).symm)
noncomputable def FL(Γ:Gm)(A:St)(m:Nat->Int)(p:Nat):Prop:=iO Γ A p<=m p/\∀t,t<Γ.k->A.U t=some p->m t<=m p
structure Rn(Γ:Gm)(A:St):Prop where
 rt:∀r,A.root=some r->A.U r=none
 zl:∀p,p<Γ.k->ic A p=true->zl A p=true
 up:∀p q,p<Γ.k->ic A p=true->A.U p=some q->ic A q=true
 dn:∀p t,p<Γ.k->t<Γ.k->ic A p=true->A.U t=some p->ic A t=true
theorem PN:P.fn 6=some f6:=by kernel_rfl
noncomputable abbrev Mt:List S:=[.asg (.var 69) (.call 5 [.var 65]), .ite (.cmp (.var 69) .eq (.attr (.var 65) 69)) [.ret0] [], .asg (.attr (.var 65) 69) (.var 69), .asg (.var 65) (.attr (.var 65) 74)]
theorem KL{x y:Int}(h:uU (.int x) (.int y)=true):x=y:=ao h
theorem yV(k:A.k=Γ.k)(R:Lk Γ A G)(h:zl A s=true):s<Γ.k/\(∀c,A.L s=some c->A.U c=some s)/\(∀c,A.R s=some c->A.U c=some s)/\∀t,t<Γ.k->A.U t=some s->A.L s=some t\/A.R s=some t:=by
 obtain⟨h1,_,h3⟩:=uK k h
 exact⟨h1,fun c e=>(h3 c (R.Lk s h1 c e)).mpr (.inl e),fun c e=>(h3 c (R.Rk s h1 c e)).mpr (.inr e),fun t ht=>(h3 t ht).mp⟩
theorem nN{K:Nat}{ρ:au}{kf:Fl->au->H->Prop}(hK:120<=K)(hr:G.raw=[])(hv:ρ 65=some (.ref 179 (some i)))
  (h1:vT G i=G.I 69 179 i->∀ρ,kf (.ret .none) ρ G)(h2:vT G i≠G.I 69 179 i->∀ρ,ρ 65=some (.ref 179 (G.Q 74 179 i))->fi P (K - 1) ρ (G.sI 69 179 i (vT G i)) (.cmp (.var 65) .isNot .none) Mt kf):
  fi P K ρ G (.cmp (.var 65) .isNot .none) Mt kf:=by
 refine pg (d:=0) hK rfl (b:=true) hr (by show oB (ρ 65) _=_;rw[hv];rfl) ?_
 rw[bx]
 have e1:(pv 12).evs ρ G [.var 65]=some [.ref 179 (some i)]:=by show oB (ρ 65) _=_;rw[hv];rfl
 refine da hK rfl hr e1 (oP (ac hK rfl) hr ?_)
 have raw1:(G.sI 69 179 i (vT G i)).raw=[]:=gQ hr
 generalize vT G i=X at*
 have v1:upd ρ 69 (.int X) 65=some (.ref 179 (some i)):=hv
 refine aw hK rfl hr ?_ (cg (fun q=>uw hK rfl (h1 (KL q) _)) fun q=>s_end hK rfl ?_)
 ·show oB (oB (upd ρ 69 (.int X) 65) fun o=>fU G o 69) _=_
  rw[v1];rfl
 refine aX hK rfl hr rfl v1 rfl ?_
 refine dP hK rfl raw1 ?_ (az hK rfl (h2 (fun e=>?_) _ rfl))
 ·show oB (upd ρ 69 (.int X) 65) _=_
  rw[v1];rfl
 ·exact Bool.noConfusion ((aK e).symm.trans q)
theorem jk(N:Rn Γ A){r:Nat}(hr:A.root=some r){kf:Fl->au->H->Prop}
  (g:∀m' G' f ρ,Rm Γ A E m' G'->(∀p,p<Γ.k->ic A p=true->FL Γ A m' p)->f= .next\/f= .ret .none->kf f ρ G'):
  ∀f s G m K ρ,140+f<=K->under A r f s=true->s<Γ.k->Rm Γ A E m G->(∀p,p<Γ.k->ic A p=true->p≠s->FL Γ A m p)->ic A s=true->ρ 65=some (.ref 179 (some (Γ.id s)))->fi P K ρ G (.cmp (.var 65) .isNot .none) Mt kf
 |0,_,_,_,_,_,_,h,_,_,_,_,_=>nomatch h
 |f+1,s,G,m,K,ρ,hK,hu,hs,R,ok,hin,hv=>by
  obtain⟨_,hL,hR,hU⟩:=yV R.k R.l (N.zl s hs hin)
  have a0:iO Γ A s<=jO A Γ m s:=ak qS qS
  have a1:∀t,t<Γ.k->A.U t=some s->m t<=jO A Γ m s:=fun t ht e=>(hU t ht e).elim (fun e=>ak (xT e) qS) xT
  have hK':120<=K:=af (af (by decide) (Nat.le_add_right 140 (f+1))) hK
  have hg:=uy R hs hL hR
  have R1:=R.IP (M:=jO A Γ m s) hs
  rw[←hg] at R1
  refine nN hK' R.f.raw hv (fun q ρ=>g m G _ _ R (fun p hp hi=>?_) (.inr rfl)) fun q ρ hv=>?_
  ·rw[hg,R.n.m s hs] at q
   have hX:jO A Γ m s=m s:=by lia
   by_cases e:p=s
   ·subst e;exact⟨hX▸a0,hX▸a1⟩
   ·exact ok p hp hi e
  ·have oks:∀p,p<Γ.k->ic A p=true->A.U s≠some p->FL Γ A (up1 m s (jO A Γ m s)) p:=fun p hp hi hne=>by
    by_cases e:p=s
    ·subst e
     refine⟨by rw[ay];exact a0,fun t ht e2=>?_⟩
     have:t≠p:=fun q=>hne (q▸e2)
     rw[ay,aB this];exact a1 t ht e2
    ·obtain⟨x,y⟩:=ok p hp hi e
     refine⟨by rw[aB e];exact x,fun t ht e2=>?_⟩
     have:t≠s:=fun q=>hne (q▸e2)
     rw[aB e,aB this];exact y t ht e2
   rw[R.l.U s hs] at hv
   rcases eU:A.U s with _|p
   ·rw[eU] at hv
    exact pg hK' rfl (b:=false) R1.f.raw (by show oB (ρ 65) _=_;rw[hv];rfl) (g _ _ _ _ R1 (fun p hp hi=>oks p hp hi (by rw[eU];exact nofun)) (.inl rfl))
   ·have hp:p<Γ.k:=R.l.Uk s hs p eU
    rw[eU] at hv
    have hu':under A r f p=true:=by
     rcases fI hu with h|h
     ·rw[aF h,N.rt r hr] at eU;exact nomatch eU
     ·rw[eU] at h;exact h
    exact jk N hr g f p _ _ (K - 1) _ (by lia) hu' hp R1 (fun p' hp' hi ne=>oks p' hp' hi (fun q=>ne (ag (eU.symm.trans q)).symm)) (N.up s p hs hin eU) hv
theorem chain(N:Rn Γ A)(l:Lk Γ A G)(ok:∀p,p<Γ.k->ic A p=true->FL Γ A m p):∀f u,u<Γ.k->ic A u=true->under A t f u=true->m u<=m t
 |f+1,u,hu,hi,h=>by
  rcases fI h with h|h
  ·rw[aF h];exact bQ _
  ·obtain⟨p,hp,h⟩:=mJ h
   have hpk:=l.Uk u hu p hp
   have hpi:=N.up u p hu hi hp
   exact ak ((ok p hpk hpi).2 u hu hp) (chain N l ok f p hpk hpi h)
theorem ob(R:Rel Γ A G)(h:AC A s=some A'){k:V->H->Prop}{K:Nat}(hK:180<=K)(hs:s<Γ.k)(g:∀G',Rel Γ A' G'->k .none G'):aD P K G 6 [.ref 179 (some (Γ.id s))] k:=R.out fun E m R f=>by
 obtain⟨h1,h2⟩:=aO h
 obtain⟨h1,h6⟩:=aa h1
 obtain⟨h1,h5⟩:=aa h1
 obtain⟨h3,h4⟩:=aa h1
 have im:∀{a b:Bool},(!a||b)=true->a=true->b=true:=fun {a b} h e=>by subst e;exact h
 have N:Rn Γ A:=by
  refine⟨fun r e=>?_,fun p hp hi=>?_,fun p q hp hi e=>?_,fun p t hp ht hi e=>?_⟩
  ·have:=wj h4 e
   rcases eU:A.U r with _|x
   ·rfl
   ·rw[eU] at this;exact nomatch this
  ·exact(aa (aa (im (bj h6 p (R.k▸hp)) hi)).1).1
  ·exact wj (aa (aa (im (bj h6 p (R.k▸hp)) hi)).1).2 e
  ·exact im (bj (aa (im (bj h6 p (R.k▸hp)) hi)).2 t (R.k▸ht)) (by rw[e];exact mn)
 have ok:∀p,p<Γ.k->ic A p=true->p≠s->FL Γ A m p:=fun p hp hi ne=>by
  have h7:=bj h5 p (R.k▸hp)
  rcases fI h7 with h7|h7
  ·exact absurd (aF ((fI h7).resolve_left (by rw[hi];exact nofun))) ne
  ·obtain⟨h8,h9⟩:=aa h7
   exact⟨f.em p p hp hp (aa h8).2,fun t ht e=>f.mm t p ht hp (im (bj h9 t (R.k▸ht)) (by rw[e];exact mn))⟩
 cases h2
 obtain⟨r,hr,hu⟩:=mJ h3
 refine av hK rfl PN rfl (yU hK rfl (jk N hr (fun m' G' fl ρ R' ok' hf=>?_) 5 s G m _ _ (ac hK rfl) hu hs R ok h3 rfl))
 have fin:k .none G':=g _ (R'.marks.rel ⟨f.z,fun u t hu ht h=>?_,fun u t hu ht h=>?_,fun u hu h=>(nomatch h),f.qs⟩)
 ·rcases hf with e|e<;>subst e
  ·exact az hK rfl fin
  ·exact fin
 ·obtain⟨h,h9⟩:=aa h
  exact chain N R'.l ok' 5 u hu (aa h).2 h9
 ·obtain⟨h,h9⟩:=aa h
  exact ak (ok' u hu (aa h).2).1 (chain N R'.l ok' 5 u hu (aa h).2 h9)
theorem Mx:P.fn 23=some Nq:=by kernel_rfl
theorem qH{k:V->H->Prop}{K:Nat}(hK:60<=K){x:Int}{b:Bool}(hr:G.raw=[])(g:k (.bool (decide (G.I 68 179 i>x)||(decide (G.I 68 179 i=x)&&(b||G.B 92 179 i)))) G):aD P K G 23 [.ref 179 (some i), .int x, .bool b] k:=by
 refine av hK rfl Mx rfl (bg hK rfl hr ?_ g)
 show(bif eb (decide (G.I 68 179 i>x)) false then(bif eb (decide (G.I 68 179 i=x)) true then(bif eb b false then some (V.bool (G.B 92 179 i)) else some (.bool b)) else some (.bool (decide (G.I 68 179 i=x)))) else some (.bool (decide (G.I 68 179 i>x))))=_
 cases decide (G.I 68 179 i>x)<;>cases decide (G.I 68 179 i=x)<;>cases b<;>rfl
end
set_option tactic.hygienic true
noncomputable def cO(Γ:Gm)(ρ:Env)(ρ':au):Prop:=∀x v,ρ x=some v->∃u,ρ' x=some u/\bn Γ v u
inductive Ma(Γ:Gm):qN->Fl->Prop
 |next:Ma Γ .next .next
 |ret {v u}:bn Γ v u->Ma Γ (.ret v) (.ret u)
section
variable{Γ:Gm}
noncomputable abbrev KV(Γ:Gm)(k:AV->St->Bool)(kk:V->H->Prop):Prop:=∀v A u G,k v A=true->bn Γ v u->Rel Γ A G->kk u G
noncomputable abbrev KB(Γ:Gm)(k:Bool->St->Bool)(kk:Bool->H->Prop):Prop:=∀v A G,k v A=true->Rel Γ A G->kk v G
noncomputable abbrev KF(Γ:Gm)(k:qN->Env->St->Bool)(kk:Fl->au->H->Prop):Prop:=∀f ρ A f' ρ' G,k f ρ A=true->Ma Γ f f'->cO Γ ρ ρ'->Rel Γ A G->kk f' ρ' G
structure Sd(Γ:Gm)(n:Nat):Prop where
 ev:∀{ρ A e k ρ' G K kk},(am n).ev ρ A e k=true->2*n+200<=K->cO Γ ρ ρ'->Rel Γ A G->KV Γ k kk->aN P K ρ' G e kk
 evs:∀{ρ A e k ρ' G K} {kk:List V->H->Prop},(am n).evs ρ A e k=true->2*n+200<=K->cO Γ ρ ρ'->Rel Γ A G->(∀v A u G,k v A=true->bv Γ v u->Rel Γ A G->kk u G)->cp P K ρ' G e kk
 evB:∀{ρ A c e k ρ' G K kk},(am n).evB ρ A c e k=true->2*n+200<=K->cO Γ ρ ρ'->Rel Γ A G->KV Γ k kk->gv P K ρ' G c e kk
 tst:∀{ρ A e k ρ' G K kk},(am n).tst ρ A e k=true->2*n+200<=K->cO Γ ρ ρ'->Rel Γ A G->KB Γ k kk->cC P K ρ' G e kk
 tsts:∀{ρ A c e k ρ' G K kk},(am n).tsts ρ A c e k=true->2*n+200<=K->cO Γ ρ ρ'->Rel Γ A G->KB Γ k kk->cD P K ρ' G c e kk
 cal:∀{A f vs k G K ws kk},(am n).cal A f vs k=true->2*n+200<=K->bv Γ vs ws->Rel Γ A G->KV Γ k kk->aD P K G f ws kk
 ex:∀{ρ A s k ρ' G K kk},(am n).ex ρ A s k=true->2*n+200<=K->cO Γ ρ ρ'->Rel Γ A G->KF Γ k kk->mW P K ρ' G s kk
 exs:∀{ρ A s k ρ' G K kk},(am n).exs ρ A s k=true->2*n+200<=K->cO Γ ρ ρ'->Rel Γ A G->KF Γ k kk->aC P K ρ' G s kk
 whl:∀{ρ A t b k ρ' G K kk},(am n).whl ρ A t b k=true->2*n+200<=K->cO Γ ρ ρ'->Rel Γ A G->KF Γ k kk->fi P K ρ' G t b kk
 frl:∀{ρ A x b it j k ρ' G K it' kk},(am n).frl ρ A x b it j k=true->2*n+200<=K->cO Γ ρ ρ'->Rel Γ A G->bn Γ it it'->KF Γ k kk->dK P K ρ' G (.var x) b it' j kk
theorem cO.upd{ρ:Env}{ρ':au}(r:cO Γ ρ ρ'){x:Nat}{v:AV}{u:V}(h:bn Γ v u):cO Γ (wc ρ x v) (Mine.upd ρ' x u):=fun y w e=>by
 by_cases q:y=x
 ·rw[q] at e
  rw[←ag ((iA rfl).symm.trans e)]
  exact⟨u,by rw[q];exact iA rfl,h⟩
 ·obtain⟨z,h1,h2⟩:=r y w ((ek q).symm.trans e)
  exact⟨z,(ek q).trans h1,h2⟩
theorem oH{v:AV}{k:Bool->Bool}(h:vh v k=true):∃b,v= .b b/\k b=true:=(Bk h).elim id ff
theorem Hh{t:T}{x:E}(h:pY t=some x):t= .attr x 69:=by
 rcases t with _|_|_|_|_|_
 case attr e a=>
  obtain⟨h1,h2⟩:=aO h
  rw[aF h1,ag h2]
 all_goals exact aS h
theorem AH{e a:E}(h:xV e=some a):e= .attr a 69:=by
 rcases e with _|_|_|_|_|_|_|_|_|_|_|_|_|_|_|_|_|_|_|_|_|_|_|_|_|_|_
 case attr e b=>
  obtain⟨h1,h2⟩:=aO h
  rw[aF h1,ag h2]
 all_goals exact aS h
theorem GF{t:T}{x:E}(h:pO t=some x):t= .attr (.attr x 72) 66:=by
 rcases t with _|_|_|_|_|_
 case attr e a=>
  obtain⟨h1,h2⟩:=aO h
  rcases e with _|_|_|_|_|_|_|_|_|_|_|_|_|_|_|_|_|_|_|_|_|_|_|_|_|_|_
  case attr e b=>
   obtain⟨h3,h4⟩:=aO h2
   rw[aF h1,aF h3,ag h4]
  all_goals exact aS h2
 all_goals exact aS h
theorem oI{ρ:Env}{e:E}{k:Nat->Bool}(h:m9 ρ e k=true):∃y s,e= .var y/\ρ y=some (.nd s)/\k s=true:=by
 rcases e with _|_|_|_|_|_|_|_|_|_|_|_|_|_|_|_|_|_|_|_|_|_|_|_|_|_|_
 case var y=>
  obtain⟨v,h1,h2⟩:=cU h
  rcases eH h2 with⟨s,h3,h4⟩|h3
  ·exact⟨y,s,rfl,by rw[h1,h3],h4⟩
  ·exact ff h3
 all_goals exact ft h
theorem BG{ρ:Env}{e:E}(h:C5 ρ e=true):∃y,e= .var y/\ρ y=some .at_:=by
 rcases e with _|_|_|_|_|_|_|_|_|_|_|_|_|_|_|_|_|_|_|_|_|_|_|_|_|_|_
 case var y=>
  obtain⟨v,h1,h2⟩:=cU h
  exact⟨y,rfl,by rw[h1,eE h2]⟩
 all_goals exact ft h
theorem u4{e:E}{k:Nat->Option St}{r:St}(h:C4 e k=some r):∃y,e= .var y/\k y=some r:=by
 rcases e with _|_|_|_|_|_|_|_|_|_|_|_|_|_|_|_|_|_|_|_|_|_|_|_|_|_|_
 case var y=>exact⟨y,rfl,h⟩
 all_goals exact aS h
theorem iE{a:Nat}{e:E}{k:E->Option St}{r:St}(h:mV a e k=some r):∃x,e= .attr x a/\k x=some r:=by
 rcases e with _|_|_|_|_|_|_|_|_|_|_|_|_|_|_|_|_|_|_|_|_|_|_|_|_|_|_
 case attr e b=>
  obtain⟨h1,h2⟩:=aO h
  exact⟨e,by rw[aF h1],h2⟩
 all_goals exact aS h
theorem kW{α β:Type}{x:Option α}{f:α->Option β}{r:β}(h:x.bind f=some r):∃a,x=some a/\f a=some r:=by
 rcases x with _|a
 ·exact aS h
 ·exact⟨a,rfl,h⟩
theorem mo{ρ:Env}{e:E}{k:Nat->Option St}{r:St}(h:Eu ρ e k=some r):∃y s,e= .var y/\ρ y=some (.nd s)/\k s=some r:=by
 obtain⟨y,h1,h2⟩:=u4 h
 obtain⟨v,h3,h4⟩:=kW h2
 rcases eH h4 with⟨s,h5,h6⟩|h5
 ·exact⟨y,s,h1,by rw[h3,h5],h6⟩
 ·exact fo h5
theorem xK{b:Bool}{x:Option St}{r:St}(h:eB b x=some r):b=true/\x=some r:=aO h
theorem cO.nd{ρ:Env}{ρ':au}(r:cO Γ ρ ρ'){y s:Nat}(h:ρ y=some (.nd s)):ρ' y=some (.ref 179 (some (Γ.id s)))/\s<Γ.k:=by
 obtain⟨u,h1,h2⟩:=r y _ h
 obtain⟨h3,h4⟩:=ux h2
 exact⟨by rw[h1,h4],h3⟩
theorem uz{ρ:Env}{ρ':au}{A A':St}{G:H}{K y s:Nat}{e:E}{k:qN->Env->St->Bool}{kk:Fl->au->H->Prop}(r:cO Γ ρ ρ')(R:Rel Γ A G)(hK:200<=K)(hy:ρ y=some (.nd s))(h:jz ρ A s e=some A')
  (hk:k .next ρ A'=true)(g:KF Γ k kk):mW P (K+1) ρ' G (.asg (.attr (.var y) 69) e) kk:=by
 obtain⟨hv,hs⟩:=r.nd hy
 have hr:=R.f.raw
 obtain⟨K,rfl⟩:∃M,K=M+1:=⟨K - 1,(Nat.sub_add_cancel (af (by decide) hK)).symm⟩
 have hK1:199<=K:=bG hK
 have key:∀x,Rel Γ A' (G.sI 69 179 (Γ.id s) x)->bZ P (K+1) ρ' G (.attr (.var y) 69) (.int x) fun ρ h=>kk .next ρ h:=fun x R'=>by
  rw[dE]
  exact(a7 hr 12).ev (af (by decide) hK1) hv (bS (nG MK) (g _ _ _ _ _ _ hk .next r R'))
 rw[dg]
 rcases e with _|_|_|_|_|_|_|_|_|_|_|_|_|_|_|_|_|_|_|_|_|_|_|_|_|_|_
 case call f es=>
  rcases vE h with⟨x,h1,h2⟩|h1
  ·obtain⟨z,t,h3,h4,h5⟩:=mo h2
   obtain⟨h6,h7⟩:=xK h5
   obtain⟨h8,h9⟩:=aa h6
   rw[←aF h9] at h4
   rw[h1,h3,aF h8,fO]
   refine(a7 hr 12).evs (v:=[.ref 179 (some (Γ.id s))]) (af (by decide) hK1) ?_ (oP (af (by decide) hK1) hr (key _ (qm R h7)))
   show oB (ρ' z) _=_
   rw[(r.nd h4).1];rfl
  ·exact fo h1
 case blt b es=>
  rcases b with _|_|_|_|_|_|_
  case max=>
   rcases A8 h with⟨x,x',h1,h2⟩|h1
   ·obtain⟨x1,e1,h3⟩:=iE h2
    obtain⟨z,t,e2,h4,h5⟩:=mo h3
    obtain⟨x2,e3,h6⟩:=iE h5
    obtain⟨w,u,e4,h7,h8⟩:=mo h6
    obtain⟨h9,h10⟩:=xK h8
    rw[←aF h9] at h4
    obtain⟨R',_,_⟩:=nJ R h10
    rw[h1,e1,e2,e3,e4]
    refine(a7 hr 12).ev (af (by decide) hK) ?_ (key _ R')
    show oB (oB (oB (ρ' z) fun o=>fU G o 69) fun x=>oB (oB (oB (ρ' w) fun o=>fU G o 68) _) _) _=_
    rw[(r.nd h4).1,(r.nd h7).1];rfl
   ·exact fo h1
  all_goals exact aS h
 case attr e b=>
  obtain⟨z,t,e2,h4,h5⟩:=mo h
  obtain⟨h9,h10⟩:=xK h5
  obtain⟨h11,h12⟩:=aa h9
  rw[←aF h12] at h4
  obtain⟨R',_⟩:=uq R h10
  rw[e2,aF h11]
  refine(a7 hr 12).ev (af (by decide) hK) ?_ (key _ R')
  show oB (ρ' z) _=_
  rw[(r.nd h4).1];rfl
 all_goals exact aS h
theorem sw{ρ:Env}{ρ':au}{A A':St}{G:H}{K y s:Nat}{e:E}{k:qN->Env->St->Bool}{kk:Fl->au->H->Prop}(r:cO Γ ρ ρ')(R:Rel Γ A G)(hK:200<=K)(hy:ρ y=some (.nd s))(h:jr ρ A s e=some A')
  (hk:k .next ρ A'=true)(g:KF Γ k kk):mW P (K+1) ρ' G (.asg (.attr (.attr (.var y) 72) 66) e) kk:=by
 obtain⟨hv,hs⟩:=r.nd hy
 have hr:=R.f.raw
 obtain⟨K,rfl⟩:∃M,K=M+1:=⟨K - 1,(Nat.sub_add_cancel (af (by decide) hK)).symm⟩
 have hK1:199<=K:=bG hK
 rw[dg]
 rcases e with _|_|_|_|_|_|_|_|_|_|_|_|_|_|_|_|_|_|_|_|_|_|_|_|_|_|_
 case bop o a b=>
  obtain⟨x1,e1,h3⟩:=iE h
  obtain⟨x2,e2,h4⟩:=iE h3
  obtain⟨z,t,e3,h5,h6⟩:=mo h4
  obtain⟨w,e4,h7⟩:=u4 h6
  obtain⟨v,hw,h8⟩:=kW h7
  obtain⟨h9,h10⟩:=xK h8
  obtain⟨h11,h12⟩:=aa h9
  obtain⟨c,hc,h13⟩:=kW h10
  rw[←aF h12] at h5
  rw[gx h11] at hw
  obtain⟨u,hu,W⟩:=r w _ hw
  rw[o8 W] at hu
  have q:G.Q 72 179 (Γ.id s)=some (Γ.id c):=by rw[R.l.R s hs,hc];rfl
  have rd:fU G (.ref 179 (some (Γ.id s))) 72=some (.ref 179 (some (Γ.id c))):=by
   show some (V.ref 179 (G.Q 72 179 (Γ.id s)))=_
   rw[q]
  have key:∀x,Rel Γ A' (G.sI 66 179 (Γ.id c) x)->bZ P (K+1) ρ' G (.attr (.attr (.var y) 72) 66) (.int x) fun ρ h=>kk .next ρ h:=fun x R'=>by
   rw[dE]
   refine(a7 hr 12).ev (v:= .ref 179 (some (Γ.id c))) (af (by decide) hK1) ?_ (bS (nG Gq) (g _ _ _ _ _ _ hk .next r R'))
   show oB (ρ' y) _=_
   rw[hv];exact rd
  have val:∀o x,(oB (oo o (G.I 66 179 (Γ.id c)) Γ.many) fun z=>some (V.int z))=some x->(pv 12).ev ρ' G (.bop o (.attr (.attr (.var z) 72) 66) (.var w))=some x:=fun o x hx=>by
   show oB (oB (oB (ρ' z) fun o=>fU G o 72) fun o=>fU G o 66) (fun x=>oB (ρ' w) _)=_
   rw[(r.nd h5).1,hu]
   show oB (oB (fU G (.ref 179 (some (Γ.id s))) 72) _) _=_
   rw[rd];exact hx
  rw[e1,e2,e3,e4]
  rcases o with _|_|_|_|_
  case add=>
   obtain⟨_,R'⟩:=kG R (.inl rfl) h13
   exact(a7 hr 12).ev (af (by decide) hK) (val _ _ rfl) (key _ R')
  case sub=>
   obtain⟨_,R'⟩:=kG R (.inr rfl) h13
   exact(a7 hr 12).ev (af (by decide) hK) (val _ _ rfl) (key _ R')
  all_goals exact aS h13
 all_goals exact aS h
theorem sM{F:Fn}{vs:List AV}{ws:List V}{ρ:Env}(h:vq F.ps vs=some ρ)(W:bv Γ vs ws):∃ρ',binds F.ps F.ds ws=some ρ'/\cO Γ ρ ρ':=by
 obtain⟨h1,h2⟩:=aO h
 have hl:F.ps.length=ws.length:=(aF h1).trans W.len.symm
 refine⟨fun x=>(F.ps.zip ws).lookup x,?_,fun x v e=>?_⟩
 ·unfold binds
  dsimp only
  rw[hl,Nat.sub_self,if_pos ⟨ab _,Nat.zero_le _⟩,Nat.sub_zero,List.drop_length,List.append_nil]
 ·rw[←ag h2] at e
  exact W.zip e
theorem lJ{b c:Bool}{p q:Prop}(h1:eb b c=true->p)(h2:eb b c=false->q):Mine.same b c p q:=by
 rcases b with _|_<;>rcases c with _|_<;>first|exact h1 rfl|exact h2 rfl
end
section
theorem dn{n K:Nat}(h:2*n+201<=K):2*n+200<=K:=aI h
theorem Oc{n K:Nat}(h:2*n+201<=K+1):2*n+200<=K:=bG h
theorem mX{n K:Nat}(h:2*n+201<=K):200<=K:=af (Nat.le_add_left 200 (2*n)) (dn h)
variable{Γ:Gm}{n:Nat}(I:Sd Γ n){ρ:Env}{A:St}{ρ':au}{G:H}{K:Nat}
include I
theorem Lc{e:E}{k:AV->St->Bool}{kk:V->H->Prop}(h:(am (n+1)).ev ρ A e k=true)(hK:2*n+201<=K)(r:cO Γ ρ ρ')(R:Rel Γ A G)(g:KV Γ k kk):aN P (K+1) ρ' G e kk:=by
 rcases e with _|_|_|_|_|_|_|_|_|_|_|_|_|_|_|_|_|_|_|_|_|_|_|_|_|_|_
 case none=>exact g _ _ _ _ h .none R
 case bool b=>exact g _ _ _ _ h .b R
 case int i=>exact g _ _ _ _ h .i R
 case var x=>
  obtain⟨v,h1,h2⟩:=cU h
  obtain⟨u,h3,h4⟩:=r x v h1
  exact bS h3 (g _ _ _ _ h2 h4 R)
 case attr e a=>
  rw[nR]
  refine I.ev h (dn hK) r R fun o A u G h V R=>?_
  obtain⟨v,w,h1,h2,h3⟩:=Fu R V h
  exact bS h1 (g _ _ _ _ h2 h3 R)
 case bop o a b=>
  rw[mG]
  refine I.ev h (dn hK) r R fun x A u G h X R=>I.ev h (dn hK) r R fun y A w G h Y R=>?_
  obtain⟨v,h1,h2⟩:=cU h
  obtain⟨z,h3,h4⟩:=Cl X Y h1
  exact cj h3 (g _ _ _ _ h2 h4 R)
 case not e=>
  rw[w_not]
  refine I.ev h (dn hK) r R fun x A u G h X R=>?_
  obtain⟨b,h1,h2⟩:=oH h
  rw[h1] at X
  rw[vB X]
  exact g _ _ _ _ h2 .b R
 case bool2 c es=>exact I.evB h (dn hK) r R g
 case cmp a o b=>
  rw[tQ]
  replace h:(match xV a with
   |some a=>C5 ρ b&&m9 ρ a fun s=>Dp A o s fun r A=>k (.b r) A
   |none=>(am n).ev ρ A a fun x A=>(am n).ev ρ A b fun y A=>qh A o x y fun r A=>k (.b r) A)=true:=h
  rcases hl:xV a with _|x
  ·rw[hl] at h
   refine I.ev h (dn hK) r R fun x A u G h X R=>I.ev h (dn hK) r R fun y A w G h Y R=>?_
   obtain⟨c,A',h1,h2,R'⟩:=Dm R X Y h
   exact bS h1 (g _ _ _ _ h2 .b R')
  ·rw[hl] at h
   obtain⟨h1,h2⟩:=aa h
   obtain⟨w,e1,h3⟩:=BG h1
   obtain⟨y,s,e2,h4,h5⟩:=oI h2
   obtain⟨hs,c,A',h6,h7,R'⟩:=AF R h5
   obtain⟨u,h8,W⟩:=r w _ h3
   rw[Ae W] at h8
   rw[AH hl,e1,e2]
   have hK1:2*12<=K:=af (by decide) (mX hK)
   refine(a7 R.f.raw 12).ev hK1 ?_ ((a7 R.f.raw 12).ev hK1 h8 (bS h6 (g _ _ _ _ h7 .b R')))
   show oB (ρ' y) _=_
   rw[(r.nd h4).1];rfl
 case ite t a b=>
  rw[w_ite]
  refine I.tst h (dn hK) r R fun c A G h R=>?_
  rcases c with _|_
  ·exact I.ev h (dn hK) r R g
  ·exact I.ev h (dn hK) r R g
 case list es=>
  rw[jD]
  refine I.evs h (dn hK) r R fun vs A us G h V R=>?_
  obtain⟨V',R'⟩:=R.newL V
  exact g _ _ _ _ h V' R'
 case tup es=>
  rw[sZ]
  exact I.evs h (dn hK) r R fun vs A us G h V R=>g _ _ _ _ h (.tup V) R
 case rev e=>
  rw[w_rev]
  refine I.ev h (dn hK) r R fun o A u G h V R=>?_
  rcases kN h with⟨j,h1,h2⟩|h1
  ·obtain⟨h3,h4⟩:=aa h2
   rw[h1] at V
   rw[vQ V]
   obtain⟨V',R'⟩:=R.newL (R.s.ls j (cc h3)).rev
   exact g _ _ _ _ h4 V' R'
  ·exact ff h1
 case call f es=>
  rw[fO]
  exact I.evs h (dn hK) r R fun vs A us G h V R=>I.cal h (dn hK) V R g
 case meth e m es=>
  rw[jy]
  refine I.ev h (dn hK) r R fun o A u G h V R=>?_
  rcases kN h with⟨j,h1,h2⟩|h1
  ·rw[h1] at V
   rw[vQ V]
   obtain⟨K,rfl⟩:∃M,K=M+1:=⟨K - 1,(Nat.sub_add_cancel (af (by decide) (mX hK))).symm⟩
   rw[E8]
   obtain⟨h3,h4⟩:=aa h2
   rw[show nZ (.list (Γ.nl0+j)) m=true from h3,bx]
   refine I.evs h4 (Oc hK) r R fun vs A us G h V R=>?_
   obtain⟨_,v,u,A',G',h1,h2,h3,h4⟩:=wM R V h
   exact cj h1 (g _ _ _ _ h2 h3 h4)
  ·exact ff h1
 case blt b es=>
  rw[oW]
  refine I.evs h (dn hK) r R fun vs A us G h V R=>?_
  obtain⟨v,h1,h2⟩:=cU h
  obtain⟨u,h3,h4⟩:=D0 R V h1
  exact cj h3 (g _ _ _ _ h2 h4 R)
 all_goals first|exact aS h|exact ft h|exact tf h|exact nomatch h
theorem EK{c:Bool}{e:List E}{k:AV->St->Bool}{kk:V->H->Prop}(h:(am (n+1)).evB ρ A c e k=true)(hK:2*n+201<=K)(r:cO Γ ρ ρ')(R:Rel Γ A G)(g:KV Γ k kk):gv P (K+1) ρ' G c e kk:=by
 rcases e with _|⟨e,_|⟨a,es⟩⟩
 ·exact ft h
 ·rw[FE];exact I.ev h (dn hK) r R g
 ·rw[Cb]
  refine I.ev h (dn hK) r R fun x A u G h X R=>?_
  obtain⟨b,h1,h2⟩:=oH h
  rw[h1] at X h2
  rw[vB X]
  rcases dJ h2 with⟨h3,h4⟩|⟨h3,h4⟩
  ·exact lJ (fun _=>I.evB h4 (dn hK) r R g) fun q=>Bool.noConfusion (h3.symm.trans q)
  ·exact lJ (fun q=>Bool.noConfusion (h3.symm.trans q)) fun _=>g _ _ _ _ h4 .b R
theorem Iy{e:E}{k:Bool->St->Bool}{kk:Bool->H->Prop}(h:(am (n+1)).tst ρ A e k=true)(hK:2*n+201<=K)(r:cO Γ ρ ρ')(R:Rel Γ A G)(g:KB Γ k kk):cC P (K+1) ρ' G e kk:=by
 rcases hp:plainT e with _|_
 ·rcases e with _|_|_|_|_|_|_|_|_|_|_|_|_|_|_|_|_|_|_|_|_|_|_|_|_|_|_
  case not e=>rw[sG];exact I.tst h (dn hK) r R fun b A G h R=>g _ _ _ h R
  case bool2 c es=>exact I.tsts h (dn hK) r R g
  case ite t a b=>
   rw[Cd]
   refine I.tst h (dn hK) r R fun c A G h R=>?_
   rcases c with _|_
   ·exact I.tst h (dn hK) r R g
   ·exact I.tst h (dn hK) r R g
  all_goals first|exact aS hp|exact ft hp|exact tf hp|exact nomatch hp
 ·rw[AW hp]
  have h:(am n).ev ρ A e (fun v A=>vh v fun b=>k b A)=true:=by rcases e with _|_|_|_|_|_|_|_|_|_|_|_|_|_|_|_|_|_|_|_|_|_|_|_|_|_|_<;>first|exact h|exact ft hp
  refine I.ev h (dn hK) r R fun v A u G h V R=>?_
  obtain⟨b,h1,h2⟩:=oH h
  rw[h1] at V
  rw[vB V]
  exact g _ _ _ h2 R
theorem BF{c:Bool}{e:List E}{k:Bool->St->Bool}{kk:Bool->H->Prop}(h:(am (n+1)).tsts ρ A c e k=true)(hK:2*n+201<=K)(r:cO Γ ρ ρ')(R:Rel Γ A G)(g:KB Γ k kk):cD P (K+1) ρ' G c e kk:=by
 rcases e with _|⟨e,es⟩
 ·exact g _ _ _ h R
 ·rw[sk]
  refine I.tst h (dn hK) r R fun b A G h R=>?_
  rcases dJ h with⟨h3,h4⟩|⟨h3,h4⟩
  ·exact lJ (fun _=>I.tsts h4 (dn hK) r R g) fun q=>Bool.noConfusion (h3.symm.trans q)
  ·exact lJ (fun q=>Bool.noConfusion (h3.symm.trans q)) fun _=>g _ _ _ h4 R
theorem ES{f:Nat}{vs:List AV}{ws:List V}{k:AV->St->Bool}{kk:V->H->Prop}(h:(am (n+1)).cal A f vs k=true)(hK:2*n+201<=K)(W:bv Γ vs ws)(R:Rel Γ A G)(g:KV Γ k kk):aD P (K+1) G f ws kk:=by
 have hK2:200<=K+1:=aL (mX hK)
 have one:∀{q:AV->Bool},l1 vs q false=true->∃v u,ws=[u]/\bn Γ v u/\q v=true:=fun h=>(vE h).elim (fun⟨x,h1,h2⟩=>by
  rw[h1] at W
  obtain⟨u,us,h3,h4,h5⟩:=df W
  exact⟨x,u,by rw[h3,hZ h5],h4,h2⟩) ff
 rcases dJ h with⟨h1,h2⟩|⟨_,h2⟩
 ·obtain⟨v,u,e,V,h3⟩:=one h2
  rcases eH h3 with⟨s,h4,h5⟩|h4
  ·obtain⟨A',h6,h7⟩:=cU h5
   rw[h4] at V
   obtain⟨hs,hu⟩:=ux V
   rw[e,hu,aF h1]
   exact wT (af (by decide) hK2) R.f.raw (fun q=>g _ _ _ _ h7 .none (yk R h6 q)) fun q=>g _ _ _ _ h7 .none (DH R h6 q)
  ·exact ff h4
 ·rcases dJ h2 with⟨h1,h2⟩|⟨_,h2⟩
  ·obtain⟨v,u,e,V,h3⟩:=one h2
   rcases eH h3 with⟨s,h4,h5⟩|h4
   ·obtain⟨A',h6,h7⟩:=cU h5
    rw[h4] at V
    obtain⟨hs,hu⟩:=ux V
    rw[e,hu,aF h1]
    exact ob R h6 (af (by decide) hK2) hs fun G' R'=>g _ _ _ _ h7 .none R'
   ·exact ff h4
  ·rcases dJ h2 with⟨h1,h2⟩|⟨_,h2⟩
   ·rcases vs with _|⟨v,vs⟩
    ·exact ff h2
    ·rcases eH h2 with⟨s,h4,h5⟩|h4
     ·rcases A8 h5 with⟨x,y,h6,h7⟩|h6
      ·obtain⟨h8,h9⟩:=aa h7
       rcases Bk h9 with⟨c,h10,h11⟩|h10
       ·obtain⟨h12,h13⟩:=aa h11
        obtain⟨hz,h14⟩:=aa h12
        rw[h4,h6,eE h8,h10] at W
        obtain⟨u,us,e1,V1,W⟩:=df W
        obtain⟨u2,us,e2,V2,W⟩:=df W
        obtain⟨u3,us,e3,V3,W⟩:=df W
        obtain⟨hs,hu⟩:=ux V1
        rw[e1,e2,e3,hZ W,hu,Ae V2,vB V3,aF h1]
        obtain⟨_,A',h15,R'⟩:=uG R h13
        refine qH (af (by decide) hK2) R.f.raw (g _ _ _ _ h15 ?_ R')
        have e68:G.I 68 179 (Γ.id s)=Γ.e0 s:=R.out fun E m R f=>by
         rw[R.n.e s hs,f.z s hs hz,Int.sub_zero]
         unfold iO
         rw[aF h14];rfl
        have e92:G.B 92 179 (Γ.id s)=Γ.rr s:=(R.f.B92 _).trans (R.f.rr s hs)
        rw[e68,e92]
        rcases c with _|_
        ·exact .b
        ·show bn Γ (.b (decide (Γ.e0 s>Γ.mark)||decide (Γ.e0 s=Γ.mark))) _
         rw[Bool.true_or,Bool.and_true];exact .b
       ·exact ff h10
      ·exact ff h6
     ·exact ff h4
   ·obtain⟨F,h3,h4⟩:=cU h2
    obtain⟨ρ,h5,h6⟩:=cU h4
    obtain⟨ρ',h7,r⟩:=sM (F:=F) h5 W
    rw[zt]
    refine bS h3 (bS h7 (I.exs h6 (dn hK) r R fun fl ρ A fl' ρ' G h F r R=>?_))
    induction F with
    |next=>exact g _ _ _ _ h .none R
    |ret V=>exact g _ _ _ _ h V R
theorem Mb{s:S}{k:qN->Env->St->Bool}{kk:Fl->au->H->Prop}(h:(am (n+1)).ex ρ A s k=true)(hK:2*n+201<=K)(r:cO Γ ρ ρ')(R:Rel Γ A G)(g:KF Γ k kk):mW P (K+1) ρ' G s kk:=by
 have hK2:200<=K:=mX hK
 rcases s with _|_|_|_|_|_|_|_|_
 case asg t e=>
  replace h:(match pY t with
   |some x=>m9 ρ x fun s=>jW (jz ρ A s e) fun A=>k .next ρ A
   |none=>match pO t with
    |some x=>m9 ρ x fun s=>jW (jr ρ A s e) fun A=>k .next ρ A
    |none=>(am n).ev ρ A e fun v A=>match(generalizing:=false) t with
     | .var x=>k .next (wc ρ x v) A
     | .attr e1 a=>(am n).ev ρ A e1 fun o A=>jW (K3 A o a v) fun A=>k .next ρ A
     |_=>false)=true:=h
  rcases hl:pY t with _|x
  ·rw[hl] at h
   dsimp only at h
   rcases ho:pO t with _|x
   ·rw[ho] at h
    rw[dg]
    refine I.ev h (dn hK) r R fun v A u G h V R=>?_
    obtain⟨K,rfl⟩:∃M,K=M+1:=⟨K - 1,(Nat.sub_add_cancel (af (by decide) hK2)).symm⟩
    rcases t with _|_|_|_|_|_
    case var x=>exact g _ _ _ _ _ _ h .next (r.upd V) R
    case attr e1 a=>
     rw[dE]
     refine I.ev h (Oc hK) r R fun o A w G h W R=>?_
     obtain⟨A',h1,h2⟩:=cU h
     obtain⟨G',h3,R'⟩:=HE R W V h1
     exact bS h3 (g _ _ _ _ _ _ h2 .next r R')
    all_goals first|exact aS h|exact ft h|exact tf h|exact nomatch h
   ·rw[ho] at h
    obtain⟨y,s,e1,h1,h2⟩:=oI h
    obtain⟨A',h3,h4⟩:=cU h2
    rw[GF ho,e1]
    exact sw r R hK2 h1 h3 h4 g
  ·rw[hl] at h
   obtain⟨y,s,e1,h1,h2⟩:=oI h
   obtain⟨A',h3,h4⟩:=cU h2
   rw[Hh hl,e1]
   exact uz r R hK2 h1 h3 h4 g
 case expr e=>rw[lE];exact I.ev h (dn hK) r R fun v A u G h V R=>g _ _ _ _ _ _ h .next r R
 case ret e=>rw[nI];exact I.ev h (dn hK) r R fun v A u G h V R=>g _ _ _ _ _ _ h (.ret V) r R
 case ret0=>exact g _ _ _ _ _ _ h (.ret .none) r R
 case ite t a b=>
  rw[nH]
  refine I.tst h (dn hK) r R fun c A G h R=>?_
  rcases c with _|_
  ·exact I.exs h (dn hK) r R g
  ·exact I.exs h (dn hK) r R g
 case «while» t b=>exact I.whl h (dn hK) r R g
 case «for» t it b=>
  rcases t with _|_|_|_|_|_
  case var x=>rw[nT];exact I.ev h (dn hK) r R fun v A u G h V R=>I.frl h (dn hK) r R V g
  all_goals first|exact aS h|exact ft h|exact tf h|exact nomatch h
 all_goals first|exact aS h|exact ft h|exact tf h|exact nomatch h
theorem Fk{s:List S}{k:qN->Env->St->Bool}{kk:Fl->au->H->Prop}(h:(am (n+1)).exs ρ A s k=true)(hK:2*n+201<=K)(r:cO Γ ρ ρ')(R:Rel Γ A G)(g:KF Γ k kk):aC P (K+1) ρ' G s kk:=by
 rcases s with _|⟨s,ss⟩
 ·exact g _ _ _ _ _ _ h .next r R
 ·rw[bq]
  refine I.ex h (dn hK) r R fun fl ρ A fl' ρ' G h F r R=>?_
  induction F with
  |next=>exact I.exs h (dn hK) r R g
  |ret V=>exact g _ _ _ _ _ _ h (.ret V) r R
theorem Hv{t:E}{b:List S}{k:qN->Env->St->Bool}{kk:Fl->au->H->Prop}(h:(am (n+1)).whl ρ A t b k=true)(hK:2*n+201<=K)(r:cO Γ ρ ρ')(R:Rel Γ A G)(g:KF Γ k kk):fi P (K+1) ρ' G t b kk:=by
 rw[zT]
 refine I.tst h (dn hK) r R fun c A G h R=>?_
 rcases c with _|_
 ·exact g _ _ _ _ _ _ h .next r R
 ·refine I.exs h (dn hK) r R fun fl ρ A fl' ρ' G h F r R=>?_
  induction F with
  |next=>exact I.whl h (dn hK) r R g
  |ret V=>exact g _ _ _ _ _ _ h (.ret V) r R
theorem Gb{x:Nat}{b:List S}{it:AV}{it':V}{j:Nat}{k:qN->Env->St->Bool}{kk:Fl->au->H->Prop}(h:(am (n+1)).frl ρ A x b it j k=true)(hK:2*n+201<=K)(r:cO Γ ρ ρ')(R:Rel Γ A G)(V:bn Γ it it')(g:KF Γ k kk):dK P (K+1) ρ' G (.var x) b it' j kk:=by
 rw[pF]
 obtain⟨o,h1,h2⟩:=cU h
 rcases xX R V h1 with⟨e1,e2⟩|⟨v,u,e1,e2,W⟩
 ·rw[e1] at h2
  exact bS e2 (g _ _ _ _ _ _ h2 .next r R)
 ·rw[e1] at h2
  refine bS e2 ?_
  obtain⟨K,rfl⟩:∃M,K=M+1:=⟨K - 1,(Nat.sub_add_cancel (af (by decide) (mX hK))).symm⟩
  show bZ P (K+1) ρ' G (.var x) u _
  rw[nj]
  refine I.exs h2 (dn hK) (r.upd W) R fun fl ρ A fl' ρ' G h F r R=>?_
  induction F with
  |next=>exact I.frl h (dn hK) r R V g
  |ret V=>exact g _ _ _ _ _ _ h (.ret V) r R
omit I in
theorem vS{p:Nat->Prop}(h:2*(n+1)+200<=K)(g:∀M,2*n+201<=M->p (M+1)):p K:=by
 obtain⟨M,e⟩:∃M,K=M+1:=⟨K - 1,(Nat.sub_add_cancel (af (by rw[Nat.mul_add];exact af (by decide) (Nat.le_add_left 200 _)) h)).symm⟩
 rw[e] at h ⊢
 exact g M (bG (af (Nat.le_of_eq (by rw[Nat.mul_add,Nat.add_right_comm])) h))
omit I in
theorem sd(Γ:Gm):∀n,Sd Γ n
 |0=>⟨fun h=>ft h,fun h=>ft h,fun h=>ft h,fun h=>ft h,fun h=>ft h,fun h=>ft h,fun h=>ft h,fun h=>ft h,fun h=>ft h,fun h=>ft h⟩
 |n+1=>
  have I:=sd Γ n
  {ev:=fun {_ _ e _ ρ' G _ kk} h hK r R g=>vS (p:=fun K=>aN P K ρ' G e kk) hK fun _ hM=>Lc I h hM r R g
   evs:=fun {ρ A es k ρ' G _ kk} h hK r R g=>vS (p:=fun K=>cp P K ρ' G es kk) hK fun M hM=>
    List.casesOn (motive:=fun es=>(am (n+1)).evs ρ A es k=true->cp P (M+1) ρ' G es kk) es (fun h=>g _ _ _ _ h .nil R) (fun e es h=>I.ev h (dn hM) r R fun v A u G h V R=>I.evs h (dn hM) r R fun vs A us G h Vs R=>g _ _ _ _ h (.cons V Vs) R) h
   evB:=fun {_ _ c e _ ρ' G _ kk} h hK r R g=>vS (p:=fun K=>gv P K ρ' G c e kk) hK fun _ hM=>EK I h hM r R g
   tst:=fun {_ _ e _ ρ' G _ kk} h hK r R g=>vS (p:=fun K=>cC P K ρ' G e kk) hK fun _ hM=>Iy I h hM r R g
   tsts:=fun {_ _ c e _ ρ' G _ kk} h hK r R g=>vS (p:=fun K=>cD P K ρ' G c e kk) hK fun _ hM=>BF I h hM r R g
   cal:=fun {_ f _ _ G _ ws kk} h hK r R g=>vS (p:=fun K=>aD P K G f ws kk) hK fun _ hM=>ES I h hM r R g
   ex:=fun {_ _ s _ ρ' G _ kk} h hK r R g=>vS (p:=fun K=>mW P K ρ' G s kk) hK fun _ hM=>Mb I h hM r R g
   exs:=fun {_ _ s _ ρ' G _ kk} h hK r R g=>vS (p:=fun K=>aC P K ρ' G s kk) hK fun _ hM=>Fk I h hM r R g
   whl:=fun {_ _ t b _ ρ' G _ kk} h hK r R g=>vS (p:=fun K=>fi P K ρ' G t b kk) hK fun _ hM=>Hv I h hM r R g
   frl:=fun {_ _ x b _ j _ ρ' G _ it' kk} h hK r R V g=>vS (p:=fun K=>dK P K ρ' G (.var x) b it' j kk) hK fun _ hM=>Gb I h hM r R V g}
end
theorem Kc:AT true=true:=by kernel_rfl
theorem K8:AT false=true:=by kernel_rfl
theorem Gy:Ix=true:=by kernel_rfl
theorem Qe:Qt=true:=by kernel_rfl
theorem PE:PR=true:=by kernel_rfl
theorem PS:JL true=true:=by kernel_rfl
theorem Px:JL false=true:=by kernel_rfl
theorem Qr:QE=true:=by kernel_rfl
theorem Mm:JT=true:=by kernel_rfl
set_option tactic.hygienic false
abbrev Sh:=Nat×Option Nat×List (Option Nat)×List (Option Nat)×List Bool
noncomputable abbrev iK(sh:Sh):St:=start sh sh.1 false
structure mQ(G:H)(tr:Nat)(sh:Sh)(id:Nat->Nat)(b e E m:Nat->Int):Prop where
 mem:sh∈shapes
 root:G.Q 79 180 tr=(iK sh).root.map id
 L:∀s,s<sh.1->G.Q 71 179 (id s)=((iK sh).L s).map id
 R:∀s,s<sh.1->G.Q 72 179 (id s)=((iK sh).R s).map id
 U:∀s,s<sh.1->G.Q 74 179 (id s)=((iK sh).U s).map id
 C:∀s,s<sh.1->G.B 10 179 (id s)=(iK sh).C s
 fb:∀s,s<sh.1->G.I 67 179 (id s)=b s - E s
 fe:∀s,s<sh.1->G.I 68 179 (id s)=e s - E s
 fm:∀s,s<sh.1->G.I 69 179 (id s)=m s - E s
 fo:∀s,s<sh.1->G.I 66 179 (id s)=E s - Ep (iK sh) E s
 fmm:∀s t,s<sh.1->t<sh.1->(iK sh).mm s t=true->m s<=m t
 fem:∀s t,s<sh.1->t<sh.1->(iK sh).em s t=true->e s<=m t
 inj:∀s t,s<sh.1->t<sh.1->id s=id t->s=t
 le:∀s,s<sh.1->b s<=e s
 ord:∀s t,s<=t->t<sh.1->b s<=b t
structure Loose(G:H)(i:Nat):Prop where
 L:G.Q 71 179 i=none
 R:G.Q 72 179 i=none
 U:G.Q 74 179 i=none
 o:G.I 66 179 i=0
section
variable{G:H}{tr:Nat}{sh:Sh}{id:Nat->Nat}{b e E m:Nat->Int}{mark many:Int}{c:Bool}
theorem fB{n:Nat}{o:Option Nat}(h:vR n o=true){t:Nat}(e:o=some t):t<n:=by rw[e] at h;exact cc h
theorem ie{o p:Option Nat}(h:wK o p=true):o=p:=by
 cases o<;>cases p<;>first|rfl|exact congrArg some (aF h)|exact nomatch h
theorem nW{p:Sh->Bool}(h:shapes.all p=true)(hs:sh∈shapes):p sh=true:=List.all_eq_true.mp h sh hs
structure P4(sh:Sh):Prop where
 r:vR sh.1 (iK sh).root=true
 l:∀s,s<sh.1->vR sh.1 ((iK sh).L s)=true/\vR sh.1 ((iK sh).R s)=true/\vR sh.1 ((iK sh).U s)=true
 f:(iK sh).L sh.1=none/\(iK sh).R sh.1=none/\(iK sh).U sh.1=none
theorem bnd(hs:sh∈shapes):P4 sh:=by
 obtain⟨h,h4⟩:=aa (nW Mm hs)
 obtain⟨h,h3⟩:=aa h
 obtain⟨h,h2⟩:=aa h
 obtain⟨h,h1⟩:=aa h
 refine⟨h,fun s hs=>?_,ie h2,ie h3,ie h4⟩
 obtain⟨x,y⟩:=aa (bj h1 s hs)
 exact⟨(aa x).1,(aa x).2,y⟩
noncomputable def gam(G:H)(tr k n:Nat)(id:Nat->Nat)(b e:Nat->Int)(mark many:Int)(hk:n<=k)(hm:0<many)(inj:∀s t,s<k->t<k->id s=id t->s=t)(le:∀s,s<n->b s<=e s)(ord:∀s t,s<=t->t<n->b s<=b t):Gm:=
 ⟨id,tr,k,n,b,e,fun s=>G.B 92 179 (id s),mark,many,G.nl,G,inj,hm,le,ord,hk⟩
theorem mQ.Oi{Γ:Gm}(hr:Γ.G0.raw=[])(hrr:Γ.rr=fun s=>Γ.G0.B 92 179 (Γ.id s)):Fr Γ Γ.G0:=
 ⟨hr,fun _ _ _ _=>rfl,fun _ _ _ _=>rfl,fun _ _ _ _=>rfl,fun _=>rfl,fun _=>rfl,fun _=>rfl,fun s _=>by rw[hrr],rfl,rfl,rfl,rfl,rfl⟩
theorem mQ.sV(T:mQ G tr sh id b e E m)(hr:G.raw=[])(hm:0<many):Rel (gam G tr sh.1 sh.1 id b e mark many (ab _) hm T.inj T.le T.ord) (iK sh) G:=by
 have B:=bnd T.mem
 refine⟨rfl,rfl,⟨T.root,fun t h=>fB B.r h,T.L,T.R,T.U,fun s hs t h=>fB (B.l s hs).1 h,fun s hs t h=>fB (B.l s hs).2.1 h,fun s hs t h=>fB (B.l s hs).2.2 h,T.C⟩,⟨rfl,fun j hj=>absurd hj (Nat.not_lt_zero _),fun _ _=>rfl⟩,mQ.Oi hr rfl,E,m,⟨T.fb,T.fe,T.fm,T.fo⟩,
  ⟨fun s hs h=>?_,T.fmm,T.fem,fun s hs h=>(nomatch h),fun q s b h=>(nomatch h)⟩⟩
 have:s=sh.1:=aF h
 exact absurd (this▸hs) (Nat.lt_irrefl _)
theorem mQ.JX(T:mQ G tr sh id b e E m)(hr:G.raw=[])(hm:0<many)(inj:∀s t,s<sh.1+1->t<sh.1+1->id s=id t->s=t)(l:Loose G (id sh.1))(hb:G.I 67 179 (id sh.1)=b sh.1)(he:G.I 68 179 (id sh.1)=e sh.1)(hc:G.B 10 179 (id sh.1)=c):
  Rel (gam G tr (sh.1+1) sh.1 id b e mark many (Nat.le_succ _) hm inj T.le T.ord) (start sh (sh.1+1) c) G:=by
 have B:=bnd T.mem
 have cs:∀s,s<sh.1+1->s<sh.1\/s=sh.1:=fun s hs=>Nat.lt_or_eq_of_le (bD hs)
 have hE:∀s,s<sh.1->up1 E sh.1 0 s=E s:=fun s hs=>aB (aj hs)
 have hm':∀s,s<sh.1->up1 m sh.1 (G.I 69 179 (id sh.1)) s=m s:=fun s hs=>aB (aj hs)
 have inT_n:∀t,t<sh.1+1->ic (iK sh) t=true->t<sh.1:=fun t ht h=>by
  rcases cs t ht with e|e
  ·exact e
  ·obtain⟨r,h1,h2⟩:=mJ h
   rcases fI h2 with h2|h2
   ·rw[aF h2];exact fB B.r h1
   ·rw[e,B.f.2.2] at h2;exact nomatch h2
 refine⟨rfl,rfl,⟨T.root,fun t h=>aY (fB B.r h),fun s hs=>?_,fun s hs=>?_,fun s hs=>?_,fun s hs t h=>?_,fun s hs t h=>?_,fun s hs t h=>?_,fun s hs=>?_⟩,⟨rfl,fun j hj=>absurd hj (Nat.not_lt_zero _),fun _ _=>rfl⟩,mQ.Oi hr rfl,up1 E sh.1 0,up1 m sh.1 (G.I 69 179 (id sh.1)),⟨fun s hs=>?_,fun s hs=>?_,fun s hs=>?_,fun s hs=>?_⟩,
  ⟨fun s hs h=>?_,fun s t hs ht h=>?_,fun s t hs ht h=>?_,fun s hs h=>(nomatch h),fun q s b h=>(nomatch h)⟩⟩
 ·rcases cs s hs with h|h
  ·exact T.L s h
  ·rw[h];exact l.L.trans (congrArg (·.map id) B.f.1).symm
 ·rcases cs s hs with h|h
  ·exact T.R s h
  ·rw[h];exact l.R.trans (congrArg (·.map id) B.f.2.1).symm
 ·rcases cs s hs with h|h
  ·exact T.U s h
  ·rw[h];exact l.U.trans (congrArg (·.map id) B.f.2.2).symm
 ·rcases cs s hs with h1|h1
  ·exact aY (fB (B.l s h1).1 h)
  ·rw[h1] at h;exact nomatch B.f.1.symm.trans h
 ·rcases cs s hs with h1|h1
  ·exact aY (fB (B.l s h1).2.1 h)
  ·rw[h1] at h;exact nomatch B.f.2.1.symm.trans h
 ·rcases cs s hs with h1|h1
  ·exact aY (fB (B.l s h1).2.2 h)
  ·rw[h1] at h;exact nomatch B.f.2.2.symm.trans h
 ·show _=cond (Nat.beq s sh.1) c _
  rcases cs s hs with h1|h1
  ·refine(T.C s h1).trans ?_
   show cond (Nat.beq s sh.1) false _=_
   rw[gm (aj h1)];rfl
  ·rw[h1,Nat.beq_refl];exact hc
 ·rcases cs s hs with h1|h1
  ·rw[hE s h1];exact T.fb s h1
  ·rw[h1,ay,Int.sub_zero];exact hb
 ·rcases cs s hs with h1|h1
  ·rw[hE s h1];exact T.fe s h1
  ·rw[h1,ay,Int.sub_zero];exact he
 ·rcases cs s hs with h1|h1
  ·rw[hE s h1,hm' s h1];exact T.fm s h1
  ·rw[h1,ay,ay,Int.sub_zero];rfl
 ·rcases cs s hs with h1|h1
  ·rw[hE s h1]
   refine(T.fo s h1).trans (congrArg (E s - ·) ?_)
   exact(vk fun p hp=>hE p (fB (B.l s h1).2.2 hp)).symm
  ·rw[h1,ay]
   refine l.o.trans ?_
   have:Ep (start sh (sh.1+1) c) (up1 E sh.1 0) sh.1=0:=by
    unfold Ep
    rw[show(start sh (sh.1+1) c).U sh.1=none from B.f.2.2]
   rw[this];rfl
 ·have:s=sh.1:=aF h
  rw[this,ay]
 ·obtain⟨h1,h2⟩:=aa h
  obtain⟨h1,h3⟩:=aa h1
  have a1:=inT_n t ht h1
  have a2:=inT_n s hs h3
  rw[hm' s a2,hm' t a1];exact T.fmm s t a2 a1 h
 ·obtain⟨h1,h2⟩:=aa h
  obtain⟨h1,h3⟩:=aa h1
  have a1:=inT_n t ht h1
  have a2:=inT_n s hs h3
  rw[hm' t a1];exact T.fem s t a2 a1 h
theorem CK{Γ:Gm}{A:St}{io:List Nat}{sh:Sh}(R:Rel Γ A G)(hs:sh∈shapes)(sm:same A (iK sh) io sh.1=true)(hk:∀s,s<sh.1->aR io s<Γ.k)(hi:∀s t,s<sh.1->t<sh.1->aR io s=aR io t->s=t)
  (le:∀s,s<sh.1->Γ.sv (A.sb (aR io s)) (Γ.b0 (aR io s))<=Γ.sv (A.se (aR io s)) (Γ.e0 (aR io s)))(ord:∀s t,s<=t->t<sh.1->Γ.sv (A.sb (aR io s)) (Γ.b0 (aR io s))<=Γ.sv (A.sb (aR io t)) (Γ.b0 (aR io t))):
  ∃E m,mQ G Γ.tr sh (fun s=>Γ.id (aR io s)) (fun s=>Γ.sv (A.sb (aR io s)) (Γ.b0 (aR io s))) (fun s=>Γ.sv (A.se (aR io s)) (Γ.e0 (aR io s))) E m/\∀s,s<sh.1->A.z (aR io s)=true->E s=0:=R.out fun E m R f=>by
 obtain⟨h1,h2⟩:=aa sm
 have key:=fun s hs=>bj h2 s hs
 have mp:∀o:Option Nat,(vM io o).map Γ.id=o.map fun s=>Γ.id (aR io s):=fun o=>by cases o<;>rfl
 refine⟨fun s=>E (aR io s),fun s=>m (aR io s),⟨hs,?_,fun s h=>?_,fun s h=>?_,fun s h=>?_,fun s h=>?_,fun s h=>R.n.b _ (hk s h),fun s h=>R.n.e _ (hk s h),fun s h=>R.n.m _ (hk s h),fun s h=>?_,fun s t h3 h4 h=>?_,fun s t h3 h4 h=>?_,fun s t h3 h4 h=>hi s t h3 h4 (Γ.inj _ _ (hk s h3) (hk t h4) h),le,ord⟩,fun s h hz=>f.z _ (hk s h) hz⟩
 ·rw[R.l.root,ie h1,mp]
 ·obtain⟨h,_⟩:=aa (key s h)
  obtain⟨h,_⟩:=aa h
  obtain⟨h,_⟩:=aa h
  obtain⟨h,_⟩:=aa h
  rw[R.l.L _ (hk s ‹_›),ie h,mp]
 ·obtain⟨h,_⟩:=aa (key s h)
  obtain⟨h,_⟩:=aa h
  obtain⟨h,_⟩:=aa h
  obtain⟨_,h⟩:=aa h
  rw[R.l.R _ (hk s ‹_›),ie h,mp]
 ·obtain⟨h,_⟩:=aa (key s h)
  obtain⟨h,_⟩:=aa h
  obtain⟨_,h⟩:=aa h
  rw[R.l.U _ (hk s ‹_›),ie h,mp]
 ·obtain⟨h,_⟩:=aa (key s h)
  obtain⟨_,h⟩:=aa h
  rw[R.l.C _ (hk s ‹_›),yv h]
 ·have hq:=h
  obtain⟨h,_⟩:=aa (key s h)
  obtain⟨h,_⟩:=aa h
  obtain⟨_,h⟩:=aa h
  rw[R.n.o _ (hk s hq)]
  show _ - Ep A E _=_ - Ep (iK sh) _ s
  unfold Ep
  rw[ie h]
  cases (iK sh).U s<;>rfl
 ·obtain⟨_,h5⟩:=aa (key s h3)
  obtain⟨h5,_⟩:=aa (bj h5 t h4)
  exact f.mm _ _ (hk s h3) (hk t h4) ((fI h5).resolve_left (by rw[h];exact nofun))
 ·obtain⟨_,h5⟩:=aa (key s h3)
  obtain⟨_,h5⟩:=aa (bj h5 t h4)
  exact f.em _ _ (hk s h3) (hk t h4) ((fI h5).resolve_left (by rw[h];exact nofun))
end
structure Tr(G:H)(tr:Nat)(l:List Nat)(B E:Nat->Int):Prop where
 nd:l.Nodup
 ex:∃sh id F m,sh.1=l.length/\mQ G tr sh id (fun s=>B (id s)) (fun s=>E (id s)) F m/\∀i,i∈l↔∃s,s<sh.1/\id s=i
structure TF(l:List Nat)(tr:Nat)(G G':H):Prop where
 raw:G'.raw=[]
 I:∀a c i,¬(c=179/\i∈l)->¬(c=180/\i=tr)->G'.I a c i=G.I a c i
 B:∀a c i,¬(c=179/\i∈l)->¬(c=180/\i=tr)->G'.B a c i=G.B a c i
 Q:∀a c i,¬(c=179/\i∈l)->¬(c=180/\i=tr)->G'.Q a c i=G.Q a c i
 I97:∀i,G'.I 97 179 i=G.I 97 179 i
 B91:∀i,G'.B 91 179 i=G.B 91 179 i
 B92:∀i,G'.B 92 179 i=G.B 92 179 i
 N:G'.N=G.N
 F:G'.F=G.F
 ni:G'.ni=G.ni
 dct:G'.dct=G.dct
 nd:G'.nd=G.nd
 nl:G.nl<=G'.nl
 lst:∀j,j<G.nl->G'.lst j=G.lst j
section
variable{G G':H}{tr:Nat}{sh:Sh}{l:List Nat}{id:Nat->Nat}{b e E m:Nat->Int}{mark many:Int}{K:Nat}{k:V->H->Prop}{Γ:Gm}{A:St}{i:Nat}{BB EE:Nat->Int}
theorem mQ.congr{b' e':Nat->Int}(T:mQ G tr sh id b e E m)(h1:∀s,s<sh.1->b s=b' s)(h2:∀s,s<sh.1->e s=e' s):mQ G tr sh id b' e' E m:=
 ⟨T.mem,T.root,T.L,T.R,T.U,T.C,fun s h=>h1 s h▸T.fb s h,fun s h=>h2 s h▸T.fe s h,T.fm,T.fo,T.fmm,fun s t h h' x=>h2 s h▸T.fem s t h h' x,T.inj,fun s h=>h1 s h▸h2 s h▸T.le s h,fun s t h h'=>h1 s (Nat.lt_of_le_of_lt h h')▸h1 t h'▸T.ord s t h h'⟩
theorem pM{n:Nat}{o:Option Nat}{f g:Nat->Nat}(h:vR n o=true)(e:∀s,s<n->f s=g s):o.map f=o.map g:=by
 rcases o with _|t
 ·rfl
 ·exact congrArg some (e t (cc h))
theorem mQ.ids{id':Nat->Nat}(T:mQ G tr sh id b e E m)(h:∀s,s<sh.1->id s=id' s):mQ G tr sh id' b e E m:=by
 have B:=bnd T.mem
 exact⟨T.mem,(pM B.r h)▸T.root,fun s hs=>h s hs▸(pM (B.l s hs).1 h)▸T.L s hs,fun s hs=>h s hs▸(pM (B.l s hs).2.1 h)▸T.R s hs,fun s hs=>h s hs▸(pM (B.l s hs).2.2 h)▸T.U s hs,fun s hs=>h s hs▸T.C s hs,
  fun s hs=>h s hs▸T.fb s hs,fun s hs=>h s hs▸T.fe s hs,fun s hs=>h s hs▸T.fm s hs,fun s hs=>h s hs▸T.fo s hs,T.fmm,T.fem,fun s t hs ht x=>T.inj s t hs ht (by rw[h s hs,h t ht,x]),T.le,T.ord⟩
theorem TF.refl(hr:G.raw=[]):TF l tr G G:=⟨hr,fun _ _ _ _ _=>rfl,fun _ _ _ _ _=>rfl,fun _ _ _ _ _=>rfl,fun _=>rfl,fun _=>rfl,fun _=>rfl,rfl,rfl,rfl,rfl,rfl,ab _,fun _ _=>rfl⟩
theorem TF.trans{G'':H}(x:TF l tr G G')(y:TF l tr G' G''):TF l tr G G'':=
 ⟨y.raw,fun a c i h h'=>(y.I a c i h h').trans (x.I a c i h h'),fun a c i h h'=>(y.B a c i h h').trans (x.B a c i h h'),fun a c i h h'=>(y.Q a c i h h').trans (x.Q a c i h h'),fun i=>(y.I97 i).trans (x.I97 i),fun i=>(y.B91 i).trans (x.B91 i),fun i=>(y.B92 i).trans (x.B92 i),
  y.N.trans x.N,y.F.trans x.F,y.ni.trans x.ni,y.dct.trans x.dct,y.nd.trans x.nd,af x.nl y.nl,fun j h=>(y.lst j (ae h x.nl)).trans (x.lst j h)⟩
theorem TF.mono{l':List Nat}(x:TF l tr G G')(h:∀i,i∈l->i∈l'):TF l' tr G G':=
 ⟨x.raw,fun a c i q=>x.I a c i fun w=>q ⟨w.1,h i w.2⟩,fun a c i q=>x.B a c i fun w=>q ⟨w.1,h i w.2⟩,fun a c i q=>x.Q a c i fun w=>q ⟨w.1,h i w.2⟩,x.I97,x.B91,x.B92,x.N,x.F,x.ni,x.dct,x.nd,x.nl,x.lst⟩
theorem TF.of(R:Rel Γ A G')(h0:Γ.nl0=Γ.G0.nl)(hl:∀s,s<Γ.k->Γ.id s∈l):TF l Γ.tr Γ.G0 G':=by
 have nt:∀{c i},¬(c=179/\i∈l)->¬(c=180/\i=Γ.tr)->¬tS Γ c i:=fun h h' t=>t.elim (fun⟨x,s,y,z⟩=>h ⟨x,z▸hl s y⟩) h'
 exact⟨R.f.raw,fun a c i h h'=>R.f.I a c i (nt h h'),fun a c i h h'=>R.f.B a c i (nt h h'),fun a c i h h'=>R.f.Q a c i (nt h h'),R.f.I97,R.f.B91,R.f.B92,R.f.N,R.f.F,R.f.ni,R.f.dct,R.f.nd,by rw[R.s.nl,h0];exact Nat.le_add_right _ _,fun j h=>R.s.old j (h0▸h)⟩
theorem Tr.back{io:List Nat}{sh:Sh}(R:Rel Γ A G')(hs:sh∈shapes)(sm:same A (iK sh) io sh.1=true)(hk:∀s,s<sh.1->aR io s<Γ.k)(hi:∀s t,s<sh.1->t<sh.1->aR io s=aR io t->s=t)
  (hl:sh.1=l.length)(nd:l.Nodup)(hm:∀i,i∈l↔∃s,s<sh.1/\Γ.id (aR io s)=i)
  (hB:∀s,s<sh.1->Γ.sv (A.sb (aR io s)) (Γ.b0 (aR io s))=BB (Γ.id (aR io s)))(hE:∀s,s<sh.1->Γ.sv (A.se (aR io s)) (Γ.e0 (aR io s))=EE (Γ.id (aR io s)))
  (le:∀i,i∈l->BB i<=EE i)(ord:∀s t,s<=t->t<sh.1->BB (Γ.id (aR io s))<=BB (Γ.id (aR io t))):Tr G' Γ.tr l BB EE:=by
 obtain⟨E',m',T,_⟩:=CK R hs sm hk hi (fun s h=>by rw[hB s h,hE s h];exact le _ ((hm _).mpr ⟨s,h,rfl⟩)) (fun s t h h'=>by rw[hB s (Nat.lt_of_le_of_lt h h'),hB t h'];exact ord s t h h')
 exact⟨nd,sh,_,_,_,hl,T.congr hB hE,hm⟩
theorem pJ:∀{l:List Nat} {a s:Nat},aR (l++[a]) s=if s<l.length then aR l s else if s=l.length then a else 0
 |[],a,0=>rfl
 |[],a,s+1=>rfl
 |x::l,a,0=>rfl
 |x::l,a,s+1=>by
  show aR (l++[a]) s=_
  rw[pJ]
  simp only[List.length_cons,Nat.add_lt_add_iff_right,Nat.add_right_cancel_iff]
  rfl
theorem mw:∀n,(upto n).length=n
 |0=>rfl
 |n+1=>by
  show(upto n++[n]).length=_
  rw[List.length_append,mw n];rfl
theorem bW:∀{n s:Nat},s<n->aR (upto n) s=s
 |n+1,s,h=>by
  show aR (upto n++[n]) s=s
  rw[pJ,mw]
  by_cases q:s<n
  ·rw[if_pos q,bW q]
  ·rw[if_neg q,if_pos (Nat.le_antisymm (bD h) (Nat.not_lt.mp q))];exact Nat.le_antisymm (Nat.not_lt.mp q) (bD h)
theorem Tr.stay{F m:Nat->Int}(T:mQ G tr sh id (fun s=>BB (id s)) (fun s=>EE (id s)) F m)(nd:l.Nodup)(hl:sh.1=l.length)(hm:∀i,i∈l↔∃s,s<sh.1/\id s=i){B' E':Nat->Int}
  (hp:0<many)(R:Rel (gam G tr sh.1 sh.1 id (fun s=>BB (id s)) (fun s=>EE (id s)) mark many (ab _) hp T.inj T.le T.ord) A G')(sm:same A (iK sh) (upto sh.1) sh.1=true)
  (hB:∀s,s<sh.1->Gm.sv (gam G tr sh.1 sh.1 id (fun s=>BB (id s)) (fun s=>EE (id s)) mark many (ab _) hp T.inj T.le T.ord) (A.sb s) (BB (id s))=B' (id s))(hE:∀s,s<sh.1->Gm.sv (gam G tr sh.1 sh.1 id (fun s=>BB (id s)) (fun s=>EE (id s)) mark many (ab _) hp T.inj T.le T.ord) (A.se s) (EE (id s))=E' (id s))
  (le:∀i,i∈l->B' i<=E' i)(mono:∀x y,BB x<=BB y->B' x<=B' y):Tr G' tr l B' E'/\TF l tr G G':=by
 refine⟨Tr.back (Γ:=gam G tr sh.1 sh.1 id (fun s=>BB (id s)) (fun s=>EE (id s)) mark many (ab _) hp T.inj T.le T.ord) R T.mem sm (fun s h=>by rw[bW h];exact h) (fun s t h h' q=>by rw[bW h,bW h'] at q;exact q) hl nd (fun i=>(hm i).trans ⟨fun⟨s,h,q⟩=>⟨s,h,by rw[bW h];exact q⟩,fun⟨s,h,q⟩=>⟨s,h,by rw[bW h] at q;exact q⟩⟩) (fun s h=>by rw[bW h];exact hB s h) (fun s h=>by rw[bW h];exact hE s h) le (fun s t h h'=>?_),TF.of R rfl fun s h=>(hm _).mpr ⟨s,h,rfl⟩⟩
 rw[bW (Nat.lt_of_le_of_lt h h'),bW h']
 exact mono _ _ (T.ord s t h h')
theorem fS(h:zero A=true){s:Nat}(hs:s<A.k):A.sb s=0/\A.se s=0:=by
 obtain⟨h1,h2⟩:=aa (bj h s hs)
 exact⟨aF h1,aF h2⟩
theorem Rel.fld(R:Rel Γ A G'){s:Nat}(hs:s<Γ.k)(hz:A.z s=true)(h0:zero A=true):G'.I 67 179 (Γ.id s)=Γ.b0 s/\G'.I 68 179 (Γ.id s)=Γ.e0 s:=R.out fun E m R f=>by
 obtain⟨h1,h2⟩:=fS h0 (R.k.symm▸hs)
 refine⟨by rw[R.n.b s hs,f.z s hs hz,h1,Int.sub_zero];rfl,?_⟩
 rw[R.n.e s hs,f.z s hs hz,Int.sub_zero]
 unfold iO
 rw[h2];rfl
theorem Ga(T:Tr G tr l BB EE)(hr:G.raw=[])(hi:i∈l)(hK:400<=K)(g:∀u G',TF l tr G G'->Tr G' tr l BB EE->G'.I 67 179 i=BB i->G'.I 68 179 i=EE i->k u G'):aD P K G 4 [.ref 179 (some i)] k:=by
 obtain⟨nd,sh,id,F,m,hl,T,hm⟩:=T
 obtain⟨s,hs,rfl⟩:=(hm _).mp hi
 refine(sd _ 100).cal (bj (nW PE T.mem) s hs) hK (.cons (.nd hs) .nil) (T.sV (mark:=0) hr (many:=1) (by decide)) fun v A u G' h V R=>?_
 obtain⟨h,sm⟩:=aa h
 obtain⟨hz,h0⟩:=aa h
 obtain⟨X,Y⟩:=Tr.stay T nd hl hm _ R sm (fun s hs=>by rw[(fS h0 (R.k.symm▸hs)).1];rfl) (fun s hs=>by rw[(fS h0 (R.k.symm▸hs)).2];rfl) (fun i hi=>by obtain⟨s,hs,e⟩:=(hm i).mp hi;exact e▸T.le s hs) fun _ _ h=>h
 obtain⟨f1,f2⟩:=R.fld hs hz h0
 exact g u G' Y X f1 f2
end
set_option tactic.hygienic true
section
variable{G G':H}{tr:Nat}{sh:Sh}{l:List Nat}{id:Nat->Nat}{b e m:Nat->Int}{mark many:Int}{K:Nat}{k:V->H->Prop}{Γ:Gm}{A:St}{i:Nat}{BB EE:Nat->Int}
theorem Tr.congr{B' E':Nat->Int}(T:Tr G tr l BB EE)(h1:∀i,i∈l->BB i=B' i)(h2:∀i,i∈l->EE i=E' i):Tr G tr l B' E':=by
 obtain⟨nd,sh,id,F,m,hl,T,hm⟩:=T
 exact⟨nd,sh,id,F,m,hl,T.congr (fun s h=>h1 _ ((hm _).mpr ⟨s,h,rfl⟩)) (fun s h=>h2 _ ((hm _).mpr ⟨s,h,rfl⟩)),hm⟩
theorem Tr.le(T:Tr G tr l BB EE)(hi:i∈l):BB i<=EE i:=by
 obtain⟨nd,sh,id,F,m,hl,T,hm⟩:=T
 obtain⟨s,h,rfl⟩:=(hm _).mp hi
 exact T.le s h
theorem Ik{L:List AV}:∀{ws:List V} {a:Nat},BZ a L=true->bv Γ L ws->∃ts:List Nat,L=ts.map .nd/\ws=ts.map (fun s=> .ref 179 (some (Γ.id s)))/\(∀s,s∈ts->a<=s/\s<Γ.k)/\ts.Pairwise (· < ·):=by
 induction L with
 |nil=>exact fun _ W=>⟨[],rfl,hZ W,fun s h=>absurd h List.not_mem_nil, .nil⟩
 |cons v L ih=>
  intro ws a h W
  obtain⟨u,us,e,X,Y⟩:=df W
  rcases v with _|t|_|_|_|_|_|_|_|_|_|_
  case nd=>
   obtain⟨ht,hu⟩:=ux X
   obtain⟨h1,h2⟩:=aa h
   obtain⟨ts,e1,e2,h3,h4⟩:=ih h2 Y
   have h1:=bP h1
   refine⟨t::ts,congrArg (AV.nd t:: ·) e1,by rw[e,hu,e2];rfl,fun s hs=>?_, .cons (fun s hs=>(h3 s hs).1) h4⟩
   rcases List.mem_cons.mp hs with q|q
   ·exact q▸⟨h1,ht⟩
   ·exact⟨af h1 (aI (h3 s q).1),(h3 s q).2⟩
  all_goals exact ft h
theorem s9{s:Nat}{ts:List Nat}:tZ s (ts.map .nd)=true↔s∈ts:=by
 induction ts with
 |nil=>exact⟨fun h=>ft h,fun h=>absurd h List.not_mem_nil⟩
 |cons t ts ih=>
  show(Nat.beq s t||tZ s (ts.map .nd))=true↔_
  rw[Bool.or_eq_true,ih,List.mem_cons]
  exact⟨fun h=>h.imp_left aF,fun h=>h.imp_left fun(q:s=t)=>by rw[q,Nat.beq_refl]⟩
theorem Dq(T:Tr G tr l BB EE)(hr:G.raw=[])(hK:400<=K)
  (g:∀(j:Nat) (rs:List Nat) (G':H),TF l tr G G'->Tr G' tr l BB EE->G.nl<=j->j<G'.nl->G'.lst j=rs.map (fun i=> .ref 179 (some i))->rs.Nodup->(∀i,i∈rs↔i∈l/\BB i<=mark/\mark<=EE i)->(∀i,i∈rs->G'.I 67 179 i=BB i/\G'.I 68 179 i=EE i)->k (.list j) G'):
  aD P K G 21 [.ref 180 (some tr), .int mark, .int mark] k:=by
 obtain⟨nd,sh,id,F,m,hl,T,hm⟩:=T
 refine(sd _ 100).cal (nW Qe T.mem) hK (.cons .tr (.cons .at_ (.cons .at_ .nil))) (T.sV (mark:=mark) hr (many:=1) (by decide)) fun v A u G' h V R=>?_
 rcases v with _|_|_|_|_|_|_|_|_|_|_|_
 case lst j=>
  obtain⟨h,sm⟩:=aa h
  obtain⟨h,h0⟩:=aa h
  obtain⟨h,h3⟩:=aa h
  obtain⟨h1,h2⟩:=aa h
  obtain⟨X,Y⟩:=Tr.stay T nd hl hm _ R sm (fun s hs=>by rw[(fS h0 (R.k.symm▸hs)).1];rfl) (fun s hs=>by rw[(fS h0 (R.k.symm▸hs)).2];rfl) (fun i hi=>by obtain⟨s,hs,e⟩:=(hm i).mp hi;exact e▸T.le s hs) fun _ _ h=>h
  obtain⟨ts,e1,e2,h4,h5⟩:=Ik h2 (R.s.ls j (cc h1))
  have fact:∀s,s<sh.1->(s∈ts/\A.z s=true/\BB (id s)<=mark/\mark<=EE (id s))\/(s∉ts/\¬(BB (id s)<=mark/\mark<=EE (id s))):=fun s hs=>by
   rcases dJ (bj h3 s hs) with⟨x,y⟩|⟨x,y⟩
   ·rw[e1] at x
    obtain⟨y,y3⟩:=aa y
    obtain⟨y1,y2⟩:=aa y
    exact .inl ⟨s9.mp x,y1,ao (fL R y2).2,ao (fL R y3).2⟩
   ·rw[e1] at x
    refine .inr ⟨fun q=>Bool.noConfusion (x.symm.trans (s9.mpr q)),fun q=>?_⟩
    rcases fI y with y|y
    ·exact absurd q.1 (Int.not_le.mpr (late R hs y))
    ·exact absurd q.2 (bT (fL R y).2)
  rw[vQ V]
  refine g _ (ts.map id) G' Y X (Nat.le_add_right _ _) ?_ ?_ ?_ (fun i=>?_) fun i hi=>?_
  ·rw[R.s.nl];exact Nat.add_lt_add_left (cc h1) _
  ·rw[List.map_map];exact e2
  ·refine List.pairwise_map.mpr ((h5.imp_of_mem fun {a b} ha hb h q=>?_))
   exact aj h (T.inj a b (h4 a ha).2 (h4 b hb).2 q)
  ·constructor
   ·intro hi
    obtain⟨s,hs,e⟩:=List.mem_map.mp hi
    subst e
    have hk:=(h4 s hs).2
    rcases fact s hk with x|x
    ·exact⟨(hm _).mpr ⟨s,hk,rfl⟩,x.2.2⟩
    ·exact absurd hs x.1
   ·intro ⟨hi,hx⟩
    obtain⟨s,hk,e⟩:=(hm i).mp hi
    subst e
    rcases fact s hk with x|x
    ·exact List.mem_map.mpr ⟨s,x.1,rfl⟩
    ·exact absurd hx x.2
  ·obtain⟨s,hs,e⟩:=List.mem_map.mp hi
   subst e
   have hk:=(h4 s hs).2
   rcases fact s hk with x|x
   ·exact R.fld hk x.2.1 h0
   ·exact absurd hs x.1
 all_goals first|exact aS h|exact ft h|exact tf h|exact nomatch h
theorem H7{q:Nat}(R:Rel Γ A G){v:Bool}{f:Nat}:∀{s:Nat},rP A q v s f=true->∃t,s<=t/\t<Γ.k/\d6 Γ q t=v:=by
 induction f with
 |zero=>exact fun h=>ft h
 |succ f ih=>exact fun h=>(fI h).elim (fun h=>⟨_,ab _,fL R h⟩) fun h=>(ih h).imp fun t w=>⟨aI w.1,w.2⟩
noncomputable def wp(mark many:Int)(x:Int):Int:=if x>mark then x+many else x
noncomputable def rO(mark many:Int)(c:Bool)(x:Int):Int:=if x>mark\/(x=mark/\c=true) then x+many else x
noncomputable def cP(mark many:Int)(x:Int):Int:=if x>mark then(if mark<x - many then x - many else mark) else x
theorem qg{Γ:Gm}{c:Bool}{s:Nat}:d6 Γ (bif c then 4 else 6) s=true↔(Γ.e0 s>Γ.mark\/(Γ.e0 s=Γ.mark/\(c||Γ.rr s)=true)):=by
 rcases c with _|_
 ·show(decide (Γ.e0 s>Γ.mark)||(decide (Γ.e0 s=Γ.mark)&&Γ.rr s))=true↔_
  rw[Bool.or_eq_true,Bool.and_eq_true,decide_eq_true_iff,decide_eq_true_iff];rfl
 ·show(decide (Γ.e0 s>Γ.mark)||decide (Γ.e0 s=Γ.mark))=true↔_
  rw[Bool.or_eq_true,decide_eq_true_iff,decide_eq_true_iff]
  exact⟨fun h=>h.imp_right fun x=>⟨x,rfl⟩,fun h=>h.imp_right And.left⟩
theorem Po{Γ:Gm}{c:Bool}{s:Nat}(h:d6 Γ (bif c then 4 else 6) s=false):¬(Γ.e0 s>Γ.mark\/(Γ.e0 s=Γ.mark/\(c||Γ.rr s)=true)):=fun q=>Bool.noConfusion (h.symm.trans (qg.mpr q))
theorem vX:∀c,JL c=true
 |true=>PS
 |false=>Px
section
variable{Γ:Gm}{A:St}{G:H}{s n:Nat}{c:Bool}
theorem NS{q:Nat}(R:Rel Γ A G)(hx:Γ.k<=Γ.x)(hs:s<Γ.k)(hq:d6 Γ q s=false->Γ.e0 s<=Γ.mark)(x:(rP A 1 true s n||kn A q s false)=true):¬Γ.b0 s>Γ.mark:=
 Int.not_lt.mpr ((fI x).elim (fun x=>(H7 R x).elim fun t w=>ak (Γ.ord s t w.1 (ae w.2.1 hx)) (ao w.2.2)) fun x=>ak (Γ.le s (ae hs hx)) (hq (fL R x).2))
theorem eN(R:Rel Γ A G)(x:(kn A (bif c then 4 else 6) s false||kn A 2 s false)=true):¬(Γ.e0 s>Γ.mark\/(Γ.e0 s=Γ.mark/\(c||Γ.rr s)=true)):=
 (fI x).elim (fun x=>Po (fL R x).2) fun x q=>bT (fL R x).2 (q.elim ba fun q=>Int.le_of_eq q.1.symm)
theorem eY(R:Rel Γ A G)(hs:s<Γ.x)(x:(kn A (bif c then 4 else 6) s true||ir A 1 false s)=true):Γ.e0 s>Γ.mark\/(Γ.e0 s=Γ.mark/\(c||Γ.rr s)=true):=
 (fI x).elim (fun x=>qg.mp (fL R x).2) fun x=> .inl (aT (late R hs x) (Γ.le s hs))
theorem eC(R:Rel Γ A G)(hs:s<Γ.x)(x:(kn A 3 s true||ir A 1 false s)=true):Γ.e0 s>Γ.mark:=
 (fI x).elim (fun x=>ao (fL R x).2) fun x=>aT (late R hs x) (Γ.le s hs)
theorem HI{x mark many:Int}(hp:0<many)(h:mark+many<x):cP mark many x=x - many:=
 (if_pos (Int.lt_trans (Int.lt_add_of_pos_right _ hp) h)).trans (if_pos (Int.lt_sub_right_of_add_lt h))
theorem pT{x mark many:Int}(h:x>mark):cP mark many x=if mark<x - many then x - many else mark:=if_pos h
theorem Ld{b e mark many:Int}(hp:0<many)(h:b<=e):wp mark many b<=rO mark many c e:=by
 delta wp rO
 by_cases q:b>mark
 ·rw[if_pos q,if_pos (.inl (aT q h))];exact cG h _
 ·rw[if_neg q]
  by_cases w:e>mark\/(e=mark/\c=true)
  ·rw[if_pos w];exact ak h (cK (ba hp))
  ·rw[if_neg w];exact h
theorem Qs{x y mark many:Int}(hp:0<many)(h:x<=y):wp mark many x<=wp mark many y:=by
 delta wp
 by_cases q:x>mark
 ·rw[if_pos q,if_pos (aT q h)];exact cG h _
 ·rw[if_neg q]
  by_cases w:y>mark
  ·rw[if_pos w];exact ak h (cK (ba hp))
  ·rw[if_neg w];exact h
theorem NH{x mark many:Int}(h:mark<=x):mark<=cP mark many x:=by
 delta cP
 by_cases q:x>mark
 ·rw[if_pos q]
  by_cases w:mark<x - many
  ·rw[if_pos w];exact ba w
  ·rw[if_neg w];exact bQ _
 ·rw[if_neg q];exact h
theorem OX{x y mark many:Int}(h:x<=y):cP mark many x<=cP mark many y:=by
 by_cases q:x>mark
 ·rw[pT q]
  by_cases w:mark<x - many
  ·rw[if_pos w,pT (aT q h),if_pos (aT w (Int.sub_le_sub_right h _))];exact Int.sub_le_sub_right h _
  ·rw[if_neg w];exact NH (ba (aT q h))
 ·rw[show cP mark many x=x from if_neg q]
  by_cases w:y>mark
  ·exact ak (Int.not_lt.mp q) (NH (ba w))
  ·rw[show cP mark many y=y from if_neg w];exact h
end
theorem Ll{c:Bool}(T:Tr G tr l BB EE)(hr:G.raw=[])(hp:0<many)(hK:400<=K)
  (g:∀u G',TF l tr G G'->Tr G' tr l (fun i=>wp mark many (BB i)) (fun i=>rO mark many (c||G.B 92 179 i) (EE i))->k u G'):
  aD P K G 25 [.ref 180 (some tr), .int mark, .int many, .bool c] k:=by
 obtain⟨nd,sh,id,F,m,hl,T,hm⟩:=T
 refine(sd _ 100).cal (nW (vX c) T.mem) hK (.cons .tr (.cons .at_ (.cons .many (.cons .b .nil)))) (T.sV (mark:=mark) hr hp) fun v A u G' h V R=>?_
 obtain⟨h,sm⟩:=aa h
 obtain⟨X,Y⟩:=Tr.stay T nd hl hm hp R sm (B':=fun i=>wp mark many (BB i)) (E':=fun i=>rO mark many (c||G.B 92 179 i) (EE i)) (fun s hs=>by
  have x:=(aa (bj h s hs)).1
  generalize A.sb s=st at x ⊢
  rcases st with _|_|st
  ·exact(if_neg (NS (q:=2) R (ab _) hs (fun w=>ba (Int.not_le.mp (bT w))) x)).symm
  ·exact(if_pos (late R hs x)).symm
  ·exact ft x) (fun s hs=>by
  have x:=(aa (bj h s hs)).2
  generalize A.se s=st at x ⊢
  rcases st with _|_|st
  ·exact(if_neg (eN R x)).symm
  ·exact(if_pos (eY R hs x)).symm
  ·exact ft x) (fun i hi=>((hm i).mp hi).elim fun s w=>Ld hp (w.2▸T.le s w.1)) fun x y=>Qs hp
 exact g u G' Y X
theorem Js(T:Tr G tr l BB EE)(hr:G.raw=[])(hp:0<many)(hK:400<=K)
  (g:∀u G',TF l tr G G'->Tr G' tr l (fun i=>cP mark many (BB i)) (fun i=>cP mark many (EE i))->k u G'):
  aD P K G 26 [.ref 180 (some tr), .int mark, .int many] k:=by
 obtain⟨nd,sh,id,F,m,hl,T,hm⟩:=T
 refine(sd _ 100).cal (nW Qr T.mem) hK (.cons .tr (.cons .at_ (.cons .many .nil))) (T.sV (mark:=mark) hr hp) fun v A u G' h V R=>?_
 obtain⟨h,sm⟩:=aa h
 obtain⟨X,Y⟩:=Tr.stay T nd hl hm hp R sm (B':=fun i=>cP mark many (BB i)) (E':=fun i=>cP mark many (EE i)) (fun s hs=>by
  have x:=(aa (bj h s hs)).1
  generalize A.sb s=st at x ⊢
  rcases st with _|_|_|_|st
  ·exact(if_neg (NS (q:=3) R (ab _) hs (fun w=>Int.not_lt.mp (bT w)) x)).symm
  ·exact ft x
  ·exact(HI hp (later R hs x)).symm
  ·exact(pT (late R hs x)).symm
  ·exact ft x) (fun s hs=>by
  have x:=(aa (bj h s hs)).2
  generalize A.se s=st at x ⊢
  rcases st with _|_|_|_|st
  ·exact(if_neg (bT (fL R x).2)).symm
  ·exact ft x
  ·exact(HI hp (aT (later R hs x) (T.le s hs))).symm
  ·exact(pT (eC R hs x)).symm
  ·exact ft x) (fun i hi=>((hm i).mp hi).elim fun s w=>OX (w.2▸T.le s w.1)) fun x y=>OX
 exact g u G' Y X
end
set_option tactic.hygienic false
section
variable{G G':H}{tr:Nat}{sh:Sh}{l:List Nat}{id:Nat->Nat}{e E m:Nat->Int}{K n x:Nat}{k:V->H->Prop}{Γ:Gm}{A:St}{i:Nat}{BB EE:Nat->Int}{io:List Nat}{p:Nat->Bool}
structure Jy(io:List Nat)(n k:Nat)(p:Nat->Bool):Prop where
 lt:∀s,s<n->aR io s<k
 ok:∀s,s<n->p (aR io s)=true
 inj:∀s t,s<n->t<n->aR io s=aR io t->s=t
 sur:∀t,t<k->p t=true->∃s,s<n/\aR io s=t
theorem tO{q:Nat->Bool}:∀{n:Nat},Cv n q=true->∃s,s<n/\q s=true
 |n+1,h=>(fI h).elim (fun h=>⟨n,aE n,h⟩) fun h=>(tO h).elim fun s h=>⟨s,aY h.1,h.2⟩
theorem tB(h:Di io n x p=true):Jy io n x p:=by
 obtain⟨h1,h2⟩:=aa h
 refine⟨fun s hs=>cc (aa (aa (bj h1 s hs)).1).1,fun s hs=>(aa (aa (bj h1 s hs)).1).2,fun s t hs ht q=>?_,fun t ht q=>?_⟩
 ·rcases fI (bj (aa (bj h1 s hs)).2 t ht) with h|h
  ·exact aF h
  ·rw[q,Nat.beq_refl] at h;exact nomatch h
 ·rcases fI (bj h2 t ht) with h|h
  ·rw[q] at h;exact nomatch h
  ·obtain⟨s,hs,h⟩:=tO h
   exact⟨s,hs,aF h⟩
theorem steps{f:Nat->Int}(h:∀s,s<n->f s<=f (s+1)):∀{s t:Nat},s<=t->t<=n->f s<=f t
 |s,0,h1,_=>Nat.le_zero.mp h1▸bQ _
 |s,t+1,h1,h2=>by
  by_cases q:s=t+1
  ·rw[q];exact bQ _
  ·exact ak (steps h (bD (Nat.lt_of_le_of_ne h1 q)) (aI h2)) (h t h2)
theorem zQ(R:Rel Γ A G)(h:ME A io n Γ.x=true):∀s,s<n->Γ.b0 (aR io s)<=Γ.b0 (aR io (s+1)):=fun s hs=>by
 rcases dJ (bj h s hs) with⟨h1,h2⟩|⟨_,h2⟩
 ·rw[aF h1];exact ao (fL R h2).2
 ·rcases dJ h2 with⟨h1,h2⟩|⟨_,h2⟩
  ·rw[aF h1];exact ba (Int.not_le.mp (bT (fL R h2).2))
  ·obtain⟨h1,h2⟩:=aa h2
   exact Γ.ord _ _ (bP h1) (cc h2)
theorem uQ{q:St->Bool}(h:anyS n q=true):∃sh,sh∈shapes/\sh.1=n/\q (iK sh)=true:=by
 obtain⟨sh,h1,h2⟩:=List.any_eq_true.mp h
 obtain⟨h3,h4⟩:=aa h2
 have:=aF h3
 exact⟨sh,h1,this,by unfold iK;rw[this];exact h4⟩
theorem vJ:∀c,AT c=true
 |true=>Kc
 |false=>K8
theorem zA(T:Tr G tr l BB EE)(hr:G.raw=[])(hl:l.length<=3)(hi:i∉l)(L:Loose G i)(hb:G.I 67 179 i=BB i)(he:G.I 68 179 i=EE i)(le:BB i<=EE i)(hK:400<=K)
  (g:∀u G',TF (i::l) tr G G'->Tr G' tr (i::l) BB EE->k u G'):aD P K G 13 [.ref 180 (some tr), .ref 179 (some i)] k:=by
 obtain⟨nd,sh,id,F,m,hn,T,hm⟩:=T
 have e0:up1 id sh.1 i sh.1=i:=ay
 have e1:∀s,s<sh.1->id s=up1 id sh.1 i s:=fun s hs=>(aB (aj hs)).symm
 have T1:mQ G tr sh (up1 id sh.1 i) (fun s=>BB (up1 id sh.1 i s)) (fun s=>EE (up1 id sh.1 i s)) F m:=(T.congr (fun s h=>congrArg BB (e1 s h)) (fun s h=>congrArg EE (e1 s h))).ids e1
 have cs:∀s,s<sh.1+1->s<sh.1\/s=sh.1:=fun s hs=>Nat.lt_or_eq_of_le (bD hs)
 have inj:∀s t,s<sh.1+1->t<sh.1+1->up1 id sh.1 i s=up1 id sh.1 i t->s=t:=fun s t hs ht q=>by
  rcases cs s hs with h|h
  ·rcases cs t ht with h'|h'
   ·exact T1.inj s t h h' q
   ·rw[←e1 s h,h',e0] at q
    exact absurd ((hm i).mpr ⟨s,h,q⟩) hi
  ·rcases cs t ht with h'|h'
   ·rw[←e1 t h',h,e0] at q
    exact absurd ((hm i).mpr ⟨t,h',q.symm⟩) hi
   ·exact h.trans h'.symm
 have R0:=T1.JX (mark:=0) (many:=1) hr (by decide) inj (e0.symm▸L) (by rw[e0];exact hb) (by rw[e0];exact he) (by rw[e0])
 have ck:=(fI (nW (vJ (G.B 10 179 i)) T.mem)).resolve_left (by rw[show Nat.ble sh.1 3=true from Nat.ble_eq_true_of_le (hn▸hl)];exact nofun)
 refine(sd _ 100).cal ck hK (.cons .tr (.cons ?_ .nil)) R0 fun v A u G' h V R=>?_
 ·have:bn (gam G tr (sh.1+1) sh.1 (up1 id sh.1 i) (fun s=>BB (up1 id sh.1 i s)) (fun s=>EE (up1 id sh.1 i s)) 0 1 (Nat.le_succ _) (by decide) inj T1.le T1.ord) (.nd sh.1) (.ref 179 (some (up1 id sh.1 i sh.1))):= .nd (aE _)
  rw[e0] at this
  exact this
 ·obtain⟨h,h4⟩:=aa h
  obtain⟨h,h3⟩:=aa h
  obtain⟨h1,h2⟩:=aa h
  have io:=tB h1
  obtain⟨sh',hs',n',sm⟩:=uQ h4
  have z0:∀s,s<sh.1+1->A.sb s=0/\A.se s=0:=fun s hs=>fS h3 (R.k.symm▸hs)
  have mem:∀j,j∈i::l↔∃s,s<sh.1+1/\up1 id sh.1 i s=j:=fun j=>by
   rw[List.mem_cons,hm j]
   constructor
   ·intro h
    rcases h with h|⟨s,h,q⟩
    ·exact⟨sh.1,aE _,e0.trans h.symm⟩
    ·exact⟨s,aY h,(e1 s h).symm.trans q⟩
   ·intro ⟨s,h,q⟩
    rcases cs s h with h|h
    ·exact .inr ⟨s,h,(e1 s h).trans q⟩
    ·rw[h,e0] at q;exact .inl q.symm
  refine g u G' (TF.of R rfl fun s h=>(mem _).mpr ⟨s,h,rfl⟩) (Tr.back R hs' (n'.symm▸sm) (fun s h=>io.lt s (n'▸h)) (fun s t h h'=>io.inj s t (n'▸h) (n'▸h')) (by rw[n',hn];rfl) (List.nodup_cons.mpr ⟨hi,nd⟩) (fun j=>(mem j).trans ⟨fun⟨s,h,q⟩=>?_,fun⟨s,h,q⟩=>⟨_,io.lt s (n'▸h),q⟩⟩) (fun s h=>?_) (fun s h=>?_) (fun j hj=>?_) fun s t h h'=>?_)
  ·obtain⟨t,h5,h6⟩:=io.sur s h rfl
   exact⟨t,n'.symm▸h5,by rw[h6];exact q⟩
  ·rw[(z0 _ (io.lt s (n'▸h))).1];rfl
  ·rw[(z0 _ (io.lt s (n'▸h))).2];rfl
  ·rcases List.mem_cons.mp hj with q|q
   ·rw[q];exact le
   ·obtain⟨s,h,q⟩:=(hm j).mp q
    exact q▸T.le s h
  ·exact steps (f:=fun s=>BB (up1 id sh.1 i (aR (B9 A 6 A.root) s))) (zQ R h2) h (bD (Nat.lt_of_lt_of_eq h' n'))
theorem MI{s:Nat}(e:Γ.id s=i)(h:s<Γ.k):bn Γ (.nd s) (.ref 179 (some i)):=e▸ .nd h
theorem tR(T:Tr G tr l BB EE)(hr:G.raw=[])(hi:i∈l)(hK:400<=K)
  (g:∀u G',TF l tr G G'->Tr G' tr (l.erase i) BB EE->Loose G' i->G'.I 67 179 i=BB i->G'.I 68 179 i=EE i->k u G'):aD P K G 16 [.ref 180 (some tr), .ref 179 (some i)] k:=by
 obtain⟨nd,sh,id,F,m,hn,T,hm⟩:=T
 obtain⟨x,hx,e⟩:=(hm i).mp hi
 refine(sd _ 100).cal (bj (nW Gy T.mem) x hx) hK (.cons .tr (.cons (MI e hx) .nil)) (T.sV (mark:=0) hr (many:=1) (by decide)) fun v A u G' h V R=>?_
 obtain⟨h,h6⟩:=aa h
 obtain⟨h,h5⟩:=aa h
 obtain⟨h,h4⟩:=aa h
 obtain⟨h,h3⟩:=aa h
 obtain⟨h1,h2⟩:=aa h
 have io:=tB h1
 obtain⟨sh',hs',n',sm⟩:=uQ h6
 have pos:0<sh.1:=Nat.lt_of_le_of_lt (Nat.zero_le _) hx
 have z0:∀s,s<sh.1->A.sb s=0/\A.se s=0:=fun s hs=>fS h3 (R.k.symm▸hs)
 have lk:A.L x=none/\A.R x=none/\A.U x=none:=by
  rcases eL:A.L x with _|y
  ·rcases eR:A.R x with _|y
   ·rcases eU:A.U x with _|y
    ·exact⟨rfl,rfl,rfl⟩
    ·rw[eL,eR,eU] at h5;exact nomatch h5
   ·rw[eL,eR] at h5;exact nomatch h5
  ·rw[eL] at h5;exact nomatch h5
 obtain⟨f1,f2⟩:=R.fld hx h4 h3
 have f0:G'.I 66 179 (id x)=0:=R.out fun E m R f=>by
  refine(R.n.o x hx).trans ?_
  rw[f.z x hx h4]
  unfold Ep
  rw[lk.2.2];rfl
 have mem:∀j,j∈l.erase i↔∃s,s<sh.1/\s≠x/\id s=j:=fun j=>by
  rw[nd.mem_erase_iff,hm j]
  exact⟨fun⟨h,s,h',q⟩=>⟨s,h',fun w=>h (by rw[←q,w,e]),q⟩,fun⟨s,h,h',q⟩=>⟨fun w=>h' (T.inj s x h hx (by rw[q,w,e])),s,h,q⟩⟩
 have px:∀s,s<sh.1 - 1->aR (B9 A 6 A.root) s≠x:=fun s hs=>Fi (ma (io.ok s hs))
 refine g u G' (TF.of R rfl fun s h=>(hm _).mpr ⟨s,h,rfl⟩) (Tr.back R hs' (n'.symm▸sm) (fun s h=>io.lt s (n'▸h)) (fun s t h h'=>io.inj s t (n'▸h) (n'▸h')) (by rw[n',hn,List.length_erase_of_mem hi]) (nd.erase i) (fun j=>(mem j).trans ⟨fun⟨s,h,h',q⟩=>?_,fun⟨s,h,q⟩=>⟨_,io.lt s (n'▸h),px s (n'▸h),q⟩⟩) (fun s h=>?_) (fun s h=>?_) (fun j hj=>?_) fun s t h h'=>?_) ⟨?_,?_,?_,?_⟩ ?_ ?_
 ·obtain⟨t,h7,h8⟩:=io.sur s h (by rw[gm h'];rfl)
  exact⟨t,n'.symm▸h7,by rw[h8];exact q⟩
 ·rw[(z0 _ (io.lt s (n'▸h))).1];rfl
 ·rw[(z0 _ (io.lt s (n'▸h))).2];rfl
 ·obtain⟨s,h,q⟩:=(hm j).mp (List.mem_of_mem_erase hj)
  exact q▸T.le s h
 ·have a:=zQ R h2
  exact steps (f:=fun s=>BB (id (aR (B9 A 6 A.root) s))) a h (bD (ae h' (by rw[n'];omega)))
 ·exact e▸(R.l.L x hx).trans (by rw[lk.1];rfl)
 ·exact e▸(R.l.R x hx).trans (by rw[lk.2.1];rfl)
 ·exact e▸(R.l.U x hx).trans (by rw[lk.2.2];rfl)
 ·exact e▸f0
 ·exact e▸f1
 ·exact e▸f2
end
end Mine.Ab
end
section
namespace Mine
set_option genInjectivity false
theorem eh{K d B:Nat}(hK:B<=K)(hd:Nat.ble (d+31) B=true):25<=K - (d+1):=bF hK hd▸Nat.succ_le_succ (zw hK hd)
section
variable{K d B:Nat}{h h':H}{ρ:au}{e e1 e2 t elt:E}{x a c i f m j:Nat}{v w:V}{vs:List V}{ss as bs:List S}{es ifs:List E}{k:Fl->au->H->Prop}{kv:V->H->Prop}{kb:Bool->H->Prop}{b:Bool}
theorem aq(hK:B<=K)(hd:Nat.ble (d+31) B=true)(hr:h.raw=[])(p:(pv 12).ev ρ h e=some v)(g:kv v h):aN P (K - d) ρ h e kv:=(a7 hr 12).ev (af (by decide) (dR hK hd)) p g
theorem fM(hK:B<=K)(hd:Nat.ble (d+31) B=true)(hr:h.raw=[])(p:(pv 12).ev ρ h e=some (.bool b))(g:kb b h):cC P (K - d) ρ h e kb:=(a7 hr 12).tst (af (by decide) (dR hK hd)) p g
theorem bm(hK:B<=K)(hd:Nat.ble (d+31) B=true)(g:aN P (K - (d+2)) ρ h e fun v h=>aC P (K - (d+1)) (upd ρ x v) h ss k):aC P (K - d) ρ h (.asg (.var x) e::ss) k:=by
 rw[bc hK hd,bq,bF hK hd,dg,gZ hK hd]
 show aN P _ ρ h e fun v h=>aC P (K - (d+3)+1+1) (upd ρ x v) h ss k
 rw[←gZ hK hd,←bF hK hd];exact g
theorem bY{xs:List Nat}(hK:B<=K)(hd:Nat.ble (d+31) B=true)(g:aN P (K - (d+2)) ρ h e fun v h=>on (h.seq v) fun vs=>on (cw ρ xs vs) fun ρ=>aC P (K - (d+1)) ρ h ss k):aC P (K - d) ρ h (.asg (.tup xs) e::ss) k:=by
 rw[bc hK hd,bq,bF hK hd,dg,gZ hK hd]
 show aN P _ ρ h e fun v h=>on (h.seq v) fun vs=>on (cw ρ xs vs) fun ρ=>aC P (K - (d+3)+1+1) ρ h ss k
 rw[←gZ hK hd,←bF hK hd];exact g
theorem je(hK:B<=K)(hd:Nat.ble (d+31) B=true)(g:aN P (K - (d+2)) ρ h e fun v h=>bZ P (K - (d+2)) ρ h (.attr e1 a) v fun ρ h=>aC P (K - (d+1)) ρ h ss k):aC P (K - d) ρ h (.asg (.attr e1 a) e::ss) k:=by
 rw[bc hK hd,bq,bF hK hd,dg,←bF hK hd];exact g
theorem fh{T:T}(hK:B<=K)(hd:Nat.ble (d+31) B=true)(g:aN P (K - (d+2)) ρ h e fun v h=>bZ P (K - (d+2)) ρ h T v fun ρ h=>aC P (K - (d+1)) ρ h ss k):aC P (K - d) ρ h (.asg T e::ss) k:=by
 rw[bc hK hd,bq,bF hK hd,dg,←bF hK hd];exact g
theorem sy{ka:au->H->Prop}(hK:B<=K)(hd:Nat.ble (d+31) B=true)(hr:h.raw=[])(p:(pv 12).ev ρ h e1=some w)(q:pH P h w a v=some h')(g:ka ρ h'):bZ P (K - d) ρ h (.attr e1 a) v ka:=by
 rw[bc hK hd,dE]
 exact(a7 hr 12).ev (aI (eh hK hd)) p (Ab.bS q g)
theorem zc{ka:au->H->Prop}{o y:V}(hK:B<=K)(hd:Nat.ble (d+31) B=true)(hr:h.raw=[])(p:(pv 12).ev ρ h e1=some o)(p2:(pv 12).ev ρ h e2=some y)(q:FG h o y v=some h')(g:ka ρ h'):bZ P (K - d) ρ h (.sub e1 e2) v ka:=by
 rw[bc hK hd,DN]
 exact(a7 hr 12).ev (aI (eh hK hd)) p ((a7 hr 12).ev (aI (eh hK hd)) p2 (Ab.bS q g))
theorem iJ{ka:au->H->Prop}{o y z:V}{e3:E}(hK:B<=K)(hd:Nat.ble (d+31) B=true)(hr:h.raw=[])(p:(pv 12).ev ρ h e1=some o)(p2:(pv 12).ev ρ h e2=some y)(p3:(pv 12).ev ρ h e3=some z)(q:td h o y z v=some h')(g:ka ρ h'):bZ P (K - d) ρ h (.slice e1 e2 e3) v ka:=by
 rw[bc hK hd,mc]
 exact(a7 hr 12).ev (aI (eh hK hd)) p ((a7 hr 12).ev (aI (eh hK hd)) p2 ((a7 hr 12).ev (aI (eh hK hd)) p3 (Ab.bS q g)))
theorem bE(hK:B<=K)(hd:Nat.ble (d+31) B=true)(g:aN P (K - (d+2)) ρ h e fun _ h=>aC P (K - (d+1)) ρ h ss k):aC P (K - d) ρ h (.expr e::ss) k:=by
 rw[bc hK hd,bq,bF hK hd,lE,←bF hK hd];exact g
theorem bJ(hK:B<=K)(hd:Nat.ble (d+31) B=true)(g:aN P (K - (d+2)) ρ h e fun v h=>k (.ret v) ρ h):aC P (K - d) ρ h (.ret e::ss) k:=by
 rw[bc hK hd,bq,bF hK hd,nI];exact g
theorem cv(hK:B<=K)(hd:Nat.ble (d+31) B=true)(g:cC P (K - (d+2)) ρ h t fun b h=>fork b (aC P (K - (d+2)) ρ h as (kx (K - (d+1)) ss k)) (aC P (K - (d+2)) ρ h bs (kx (K - (d+1)) ss k))):aC P (K - d) ρ h (.ite t as bs::ss) k:=by
 rw[bc hK hd,bq,bF hK hd,nH,←bF hK hd];exact g
theorem eW(hK:B<=K)(hd:Nat.ble (d+31) B=true){T:T}(g:aN P (K - (d+2)) ρ h e fun v h=>dK P (K - (d+2)) ρ h T bs v 0 (kx (K - (d+1)) ss k)):aC P (K - d) ρ h (.for T e bs::ss) k:=by
 rw[bc hK hd,bq,bF hK hd,nT,←bF hK hd];exact g
theorem rj(hK:B<=K)(hd:Nat.ble (d+31) B=true)(hp:plainT e=true)(g:aN P (K - (d+1)) ρ h e fun v h=>pk v fun b=>kb b h):cC P (K - d) ρ h e kb:=by
 rw[bc hK hd,AW hp];exact g
theorem zS(hK:B<=K)(hd:Nat.ble (d+31) B=true)(g:cC P (K - (d+1)) ρ h e fun b h=>kb (!b) h):cC P (K - d) ρ h (.not e) kb:=by
 rw[bc hK hd,sG];exact g
theorem gI(hK:B<=K)(hd:Nat.ble (d+31) B=true)(g:cD P (K - (d+1)) ρ h b es kb):cC P (K - d) ρ h (.bool2 b es) kb:=by
 rw[bc hK hd,ub];exact g
theorem cq(hK:B<=K)(hd:Nat.ble (d+31) B=true)(g:kb b h):cD P (K - d) ρ h b [] kb:=by
 rw[bc hK hd];exact g
theorem bK(hK:B<=K)(hd:Nat.ble (d+31) B=true)(g:cC P (K - (d+1)) ρ h e fun r h=>same r b (cD P (K - (d+1)) ρ h b es kb) (kb r h)):cD P (K - d) ρ h b (e::es) kb:=by
 rw[bc hK hd,sk];exact g
theorem aV(hK:B<=K)(hd:Nat.ble (d+31) B=true)(hr:h.raw=[])(p:(pv 12).evs ρ h es=some vs)(g:aD P (K - (d+1)) h f vs kv):aN P (K - d) ρ h (.call f es) kv:=by
 rw[bc hK hd,fO]
 exact(a7 hr 12).evs (aI (eh hK hd)) p g
theorem bM(hK:B<=K)(hd:Nat.ble (d+31) B=true)(hr:h.raw=[])(p:(pv 12).ev ρ h e=some (.ref c (some i)))(q:P.meth c m=some f)(ps:(pv 12).evs ρ h es=some vs)(g:aD P (K - (d+2)) h f (.ref c (some i)::vs) kv):aN P (K - d) ρ h (.meth e m es) kv:=by
 rw[bc hK hd,jy]
 refine(a7 hr 12).ev (aI (eh hK hd)) p ?_
 rw[bF hK hd,II]
 exact Ab.bS q ((a7 hr 12).evs (zw hK hd) ps g)
theorem yb(hK:B<=K)(hd:Nat.ble (d+31) B=true)(hr:h.raw=[])(p:(pv 12).ev ρ h e=some (.ref c (some i)))(q:P.meth c m=some f)(g:cp P (K - (d+2)) ρ h es fun vs h=>aD P (K - (d+2)) h f (.ref c (some i)::vs) kv):aN P (K - d) ρ h (.meth e m es) kv:=by
 rw[bc hK hd,jy]
 refine(a7 hr 12).ev (aI (eh hK hd)) p ?_
 rw[bF hK hd,II]
 exact Ab.bS q g
theorem kX(hK:B<=K)(hd:Nat.ble (d+31) B=true)(g:cp P (K - (d+1)) ρ h es fun vs h=>aD P (K - (d+1)) h f vs kv):aN P (K - d) ρ h (.call f es) kv:=by
 rw[bc hK hd,fO];exact g
theorem wr(hK:B<=K)(hd:Nat.ble (d+31) B=true)(hr:h.raw=[])(p:(pv 12).ev ρ h e=some (.dict j))(q:nZ (.dict j) m=true)(ps:(pv 12).evs ρ h es=some vs)(r:vg h (.dict j) m vs=some (v,h'))(g:kv v h'):aN P (K - d) ρ h (.meth e m es) kv:=by
 rw[bc hK hd,jy]
 refine(a7 hr 12).ev (aI (eh hK hd)) p ?_
 rw[bF hK hd,LH,q,bx]
 exact(a7 hr 12).evs (zw hK hd) ps (cj r g)
theorem hH(hK:B<=K)(hd:Nat.ble (d+31) B=true)(hr:h.raw=[])(p:(pv 12).evs ρ h es=some vs)(g:kv (.list h.nl) (h.newL vs)):aN P (K - d) ρ h (.list es) kv:=by
 rw[bc hK hd,jD]
 exact(a7 hr 12).evs (aI (eh hK hd)) p g
theorem di(hK:B<=K)(hd:Nat.ble (d+31) B=true)(g:aN P (K - (d+1)) ρ h e fun v h=>gH P (K - (d+1)) ρ (h.newL []) elt x ifs v 0 h.nl fun h'=>kv (.list h.nl) h'):aN P (K - d) ρ h (.comp elt x e ifs) kv:=by
 rw[bc hK hd,sD];exact g
theorem Ag(hK:B<=K)(hd:Nat.ble (d+31) B=true)(g:aN P (K - (d+1)) ρ h e fun v h=>pk v fun b=>kv (.bool (!b)) h):aN P (K - d) ρ h (.not e) kv:=by
 rw[bc hK hd,w_not];exact g
theorem ig{o:Op}(hK:B<=K)(hd:Nat.ble (d+31) B=true)(g:aN P (K - (d+1)) ρ h e1 fun x h=>aN P (K - (d+1)) ρ h e2 fun y h=>fg (lN h o x y) kv):aN P (K - d) ρ h (.bop o e1 e2) kv:=by
 rw[bc hK hd,mG];exact g
theorem gh{o:Cm}(hK:B<=K)(hd:Nat.ble (d+31) B=true)(g:aN P (K - (d+1)) ρ h e1 fun x h=>aN P (K - (d+1)) ρ h e2 fun y h=>on (kg h o x y) fun r=>kv (.bool r) h):aN P (K - d) ρ h (.cmp e1 o e2) kv:=by
 rw[bc hK hd,tQ];exact g
theorem dD(hK:B<=K)(hd:Nat.ble (d+31) B=true)(hr:h.raw=[]){a1 a2:V}(p:(pv 12).ev ρ h e=some v)(p1:(pv 12).ev ρ h e1=some a1)(p2:(pv 12).ev ρ h e2=some a2)(r:m5 h v a1 a2=some (w,h'))(g:kv w h'):aN P (K - d) ρ h (.slice e e1 e2) kv:=by
 rw[bc hK hd,qe]
 exact(a7 hr 12).ev (aI (eh hK hd)) p ((a7 hr 12).ev (aI (eh hK hd)) p1 ((a7 hr 12).ev (aI (eh hK hd)) p2 (cj r g)))
theorem j6{bb:Bi}(hK:B<=K)(hd:Nat.ble (d+31) B=true)(g:cp P (K - (d+1)) ρ h es fun vs h=>fg (i9 h bb vs) kv):aN P (K - d) ρ h (.blt bb es) kv:=by
 rw[bc hK hd,oW];exact g
theorem kB(hK:B<=K)(hd:Nat.ble (d+31) B=true)(g:cp P (K - (d+1)) ρ h es fun vs h=>kv (.tup vs) h):aN P (K - d) ρ h (.tup es) kv:=by
 rw[bc hK hd,sZ];exact g
theorem bz{ks:List V->H->Prop}(hK:B<=K)(hd:Nat.ble (d+31) B=true)(g:ks [] h):cp P (K - d) ρ h [] ks:=by
 rw[bc hK hd];exact g
theorem aA{ks:List V->H->Prop}(hK:B<=K)(hd:Nat.ble (d+31) B=true)(g:aN P (K - (d+1)) ρ h e fun v h=>cp P (K - (d+1)) ρ h es fun vs h=>ks (v::vs) h):cp P (K - d) ρ h (e::es) ks:=by
 rw[bc hK hd,ul];exact g
theorem e_new(hK:B<=K)(hd:Nat.ble (d+31) B=true)(g:cp P (K - (d+1)) ρ h es fun vs h=>on (P.init c) fun f=>aD P (K - (d+1)) (h.aQ c) f (.ref c (some h.ni)::vs) fun r h'=>fg (whole P c h.ni r h') kv):aN P (K - d) ρ h (.new c es) kv:=by
 rw[bc hK hd,ze];exact g
end
theorem EA{p:Nat->Prop}{B K:Nat}(h:B+1<=K)(g:∀M,B<=M->p (M+1)):p K:=by
 rcases K with _|K
 ·exact absurd h (Nat.not_succ_le_zero _)
 ·exact g K (bG h)
theorem wn{a b c:Nat}(h:a+b<=c):a<=c:=af (Nat.le_add_right _ _) h
theorem tE{α:Type}{ws:List α}{j:Nat}(h:0+j=ws.length):ws[j]?=none:=List.getElem?_eq_none (Nat.le_of_eq (h.symm.trans (Nat.zero_add j)))
theorem zy{α:Type}{ws:List α}{n j:Nat}(h:n+1+j=ws.length):∃w,ws[j]?=some w:=⟨_,List.getElem?_eq_getElem (h▸Nat.succ_add n j▸Nat.lt_succ_of_le (Nat.le_add_left j n))⟩
theorem dM{ρ:au}{elt:E}{x a B:Nat}{ifs:List E}{v:V}{kh:H->Prop}{ws:List V}{I:Nat->H->Prop}(item:∀j G,I j G->itemAt G v j=some ws[j]?)
  (step:∀j w G K,ws[j]?=some w->I j G->B<=K->∀nx:H->Prop,(∀G,I (j+1) G->nx G)->cD P K (upd ρ x w) G true ifs fun c h=>fork c (aN P K (upd ρ x w) h elt fun y h=>(h.lst a).length<eg/\nx (h.ax a (h.lst a++[y]))) (nx h))
  (fin:∀G,I ws.length G->kh G)(n:Nat):∀j G K,n+j=ws.length->I j G->B+n+1<=K->gH P K ρ G elt x ifs v j a kh:=by
 induction n with
 |zero=>
  intro j G K hj hI hK
  refine EA (p:=fun K=>gH P K ρ G elt x ifs v j a kh) hK fun K _=>Ab.bS (item j G hI) ?_
  rw[tE hj]
  exact fin G (hj▸(Nat.zero_add j).symm▸hI)
 |succ n ih=>
  intro j G K hj hI hK
  refine EA (p:=fun K=>gH P K ρ G elt x ifs v j a kh) hK fun K hK=>Ab.bS (item j G hI) ?_
  obtain⟨w,hw⟩:=zy hj
  rw[hw]
  exact step j w G K hw hI (wn hK) _ fun G hI=>ih (j+1) G K (hj▸(Nat.succ_add n j).symm) hI hK
theorem to{T:T}{B:Nat}{bs:List S}{v:V}{k:Fl->au->H->Prop}{ws:List V}{I:Nat->au->H->Prop}(item:∀j ρ G,I j ρ G->itemAt G v j=some ws[j]?)
  (step:∀j w ρ G K,ws[j]?=some w->I j ρ G->B+1<=K->∀nx:au->H->Prop,(∀ρ G,I (j+1) ρ G->nx ρ G)->bZ P K ρ G T w fun ρ h=>aC P K ρ h bs fun f ρ h=>goes f (fun v=>k (.ret v) ρ h) (nx ρ h))
  (fin:∀ρ G,I ws.length ρ G->k .next ρ G)(n:Nat):∀j ρ G K,n+j=ws.length->I j ρ G->B+n+2<=K->dK P K ρ G T bs v j k:=by
 induction n with
 |zero=>
  intro j ρ G K hj hI hK
  refine EA (p:=fun K=>dK P K ρ G T bs v j k) hK fun K _=>Ab.bS (item j ρ G hI) ?_
  rw[tE hj]
  exact fin ρ G (hj▸(Nat.zero_add j).symm▸hI)
 |succ n ih=>
  intro j ρ G K hj hI hK
  refine EA (p:=fun K=>dK P K ρ G T bs v j k) hK fun K hK=>Ab.bS (item j ρ G hI) ?_
  obtain⟨w,hw⟩:=zy hj
  rw[hw]
  exact step j w ρ G K hw hI (af (Nat.succ_le_succ (Nat.le_add_right B _)) hK) _ fun ρ G hI=>ih (j+1) ρ G K (hj▸(Nat.succ_add n j).symm) hI hK
theorem kD{x B:Nat}{bs:List S}{v:V}{k:Fl->au->H->Prop}{ws:List V}{I:Nat->au->H->Prop}(item:∀j ρ G,I j ρ G->itemAt G v j=some ws[j]?)
  (step:∀j w ρ G K,ws[j]?=some w->I j ρ G->B<=K->∀nx:au->H->Prop,(∀ρ G,I (j+1) ρ G->nx ρ G)->aC P K (upd ρ x w) G bs fun f ρ h=>goes f (fun v=>k (.ret v) ρ h) (nx ρ h))
  (fin:∀ρ G,I ws.length ρ G->k .next ρ G)(n:Nat):∀j ρ G K,n+j=ws.length->I j ρ G->B+n+2<=K->dK P K ρ G (.var x) bs v j k:=
 to item (fun j w ρ G K hw hI hK nx hn=>EA (p:=fun K=>bZ P K ρ G (.var x) w fun ρ h=>aC P K ρ h bs fun f ρ h=>goes f (fun v=>k (.ret v) ρ h) (nx ρ h)) hK fun K hK=>step j w ρ G (K+1) hw hI (aL hK) nx hn) fin n
theorem fR{n:Nat}{f:Nat->V}:((List.range n).map f).length=n:=(ai _).trans aM
theorem k4{n j:Nat}{w:V}{f:Nat->V}(h:((List.range n).map f)[j]?=some w):j<n/\w=f j:=by
 have q:j<n:=Nat.lt_of_lt_of_eq (List.getElem?_eq_some_iff.mp h).1 fR
 rw[bO,List.getElem?_range q] at h
 exact⟨q,(ag h).symm⟩
theorem zz{n j:Nat}{G:H}:itemAt G (.range n) j=some ((List.range n).map fun(i:Nat)=>V.int (i:Int))[j]?:=by
 show some (if(j:Int)<n then some (V.int j) else none)=_
 by_cases q:j<n
 ·rw[if_pos (Int.ofNat_lt.mpr q),bO,List.getElem?_range q];rfl
 ·rw[if_neg fun w=>q (Int.ofNat_lt.mp w),List.getElem?_eq_none (af (Nat.le_of_eq fR) (Nat.not_lt.mp q))]
section
variable{n x a B:Nat}{f:Nat->V}{v:V}{bs:List S}{elt:E}{ifs:List E}{ρ:au}{kh:H->Prop}{k:Fl->au->H->Prop}{I:Nat->au->H->Prop}{J:Nat->H->Prop}{G:H}{K:Nat}
theorem xU(item:∀j G,J j G->itemAt G v j=some ((List.range n).map f)[j]?)
  (step:∀j G K,j<n->J j G->B<=K->∀nx:H->Prop,(∀G,J (j+1) G->nx G)->cD P K (upd ρ x (f j)) G true ifs fun c h=>fork c (aN P K (upd ρ x (f j)) h elt fun y h=>(h.lst a).length<eg/\nx (h.ax a (h.lst a++[y]))) (nx h))
  (fin:∀G,J n G->kh G)(hI:J 0 G)(hK:B+n+1<=K):gH P K ρ G elt x ifs v 0 a kh:=
 dM item (fun j _ G K hw hI hK nx hn=>(k4 hw).2▸step j G K (k4 hw).1 hI hK nx hn) (fR.symm▸fin) n 0 G K fR.symm hI hK
theorem C1(item:∀j ρ G,I j ρ G->itemAt G v j=some ((List.range n).map f)[j]?)
  (step:∀j ρ G K,j<n->I j ρ G->B<=K->∀nx:au->H->Prop,(∀ρ G,I (j+1) ρ G->nx ρ G)->aC P K (upd ρ x (f j)) G bs fun f ρ h=>goes f (fun v=>k (.ret v) ρ h) (nx ρ h))
  (fin:∀ρ G,I n ρ G->k .next ρ G)(hI:I 0 ρ G)(hK:B+n+2<=K):dK P K ρ G (.var x) bs v 0 k:=
 kD item (fun j _ ρ G K hw hI hK nx hn=>(k4 hw).2▸step j ρ G K (k4 hw).1 hI hK nx hn) (fR.symm▸fin) n 0 ρ G K fR.symm hI hK
end
end Mine
end
section
namespace Mine.Ab
set_option tactic.hygienic false
set_option genInjectivity false
section
variable{G G' G1:H}{tr a:Nat}{l:List Nat}{K:Nat}{k:V->H->Prop}{i:Nat}{B E:Nat->Int}{mark:Int}{c:Bool}{xs ys:List V}
theorem Ke:P.fn 22=some Oa:=by kernel_rfl
theorem Jt:P.fn 24=some Pj:=by kernel_rfl
noncomputable abbrev refs(rs:List Nat):List V:=rs.map fun i=> .ref 179 (some i)
theorem dc(h:G.lst a=xs):G.ax a xs=G:=by
 have:(fun j=>if j=a then xs else G.lst j)=G.lst:=by
  funext j
  by_cases q:j=a
  ·rw[if_pos q,q,h]
  ·rw[if_neg q]
 show {G with lst:=_}=G
 rw[this]
theorem cF:(G.ax a xs).ax a ys=G.ax a ys:=by
 show {G with lst:=fun j=>if j=a then ys else if j=a then xs else G.lst j}={G with lst:=_}
 congr 1
 funext j
 by_cases q:j=a
 ·rw[if_pos q,if_pos q]
 ·rw[if_neg q,if_neg q,if_neg q]
theorem aW:(G.ax a xs).lst a=xs:=if_pos rfl
theorem a8{j:Nat}(h:j≠a):(G.ax a xs).lst j=G.lst j:=if_neg h
theorem aU{j:Nat}(h:j<G.nl):(G.newL xs).lst j=G.lst j:=if_neg (aj h)
theorem a6:(G.newL xs).lst G.nl=xs:=if_pos rfl
theorem Tr.lists(T:Tr G tr l B E)(h1:G'.I=G.I)(h2:G'.Q=G.Q)(h3:G'.B=G.B):Tr G' tr l B E:=by
 obtain⟨nd,sh,id,F,m,hl,T,hm⟩:=T
 exact⟨nd,sh,id,F,m,hl,⟨T.mem,h2▸T.root,h2▸T.L,h2▸T.R,h2▸T.U,h3▸T.C,h1▸T.fb,h1▸T.fe,h1▸T.fm,h1▸T.fo,T.fmm,T.fem,T.inj,T.le,T.ord⟩,hm⟩
theorem TF.newL(x:TF l tr G G1):TF l tr G (G1.newL xs):=
 ⟨x.raw,x.I,x.B,x.Q,x.I97,x.B91,x.B92,x.N,x.F,x.ni,x.dct,x.nd,aL x.nl,fun j h=>(aU (ae h x.nl)).trans (x.lst j h)⟩
theorem TF.ax(x:TF l tr G G1)(h:G.nl<=a):TF l tr G (G1.ax a xs):=
 ⟨x.raw,x.I,x.B,x.Q,x.I97,x.B91,x.B92,x.N,x.F,x.ni,x.dct,x.nd,x.nl,fun j h'=>(a8 (aj (ae h' h))).trans (x.lst j h')⟩
noncomputable def led(f r c:Bool)(b e:Int):Bool:=c||(f&&(!decide (b=e)||r))
theorem yG(hK:60<=K)(hr:G.raw=[])(g:k (.bool (decide (G.I 67 179 i=mark)&&led (G.B 91 179 i) (G.B 92 179 i) c (G.I 67 179 i) (G.I 68 179 i))) G):aD P K G 22 [.ref 179 (some i), .int mark, .bool c] k:=by
 unfold led at g
 refine av hK rfl Ke rfl (aw hK rfl (b:= !decide (G.I 67 179 i=mark)) hr rfl ?_)
 rcases hx:decide (G.I 67 179 i=mark) with _|_
 ·rw[hx] at g;exact bg hK rfl hr rfl g
 ·rw[hx] at g
  refine s_end hK rfl (aw hK rfl hr rfl ?_)
  rcases c with _|_
  ·refine s_end hK rfl (bg hK rfl hr ?_ g)
   show(bif eb (G.B 91 179 i) true then(bif eb (!decide (G.I 67 179 i=G.I 68 179 i)) false then some (V.bool (G.B 92 179 i)) else some (V.bool (!decide (G.I 67 179 i=G.I 68 179 i)))) else some (V.bool (G.B 91 179 i)))=_
   cases G.B 91 179 i<;>cases decide (G.I 67 179 i=G.I 68 179 i)<;>rfl
  ·exact bg hK rfl hr rfl g
theorem gC{rs:List Nat}{j:Nat}{w:V}(h:(refs rs)[j]?=some w):∃i,rs[j]?=some i/\w= .ref 179 (some i):=by
 rw[bO] at h
 obtain⟨i,h1,h2⟩:=ji h
 exact⟨i,h1,h2.symm⟩
theorem fE{rs:List Nat}{j:Nat}(h:rs[j]?=some i):rs.take (j+1)=rs.take j++[i]:=by rw[List.take_add_one,h];rfl
theorem mR{α:Type}{f:Nat->Nat->Nat->α}{a c i a' c' i':Nat}{v:α}(h:¬(c'=c/\i'=i)):iH f a c i v a' c' i'=f a' c' i':=by
 by_cases q:c'=c
 ·exact uF fun e=>h ⟨q,e⟩
 ·exact Ah q
theorem lG{a' c:Nat}{x:Int}:(G.sI a' c i x).I a' c i=x:=lQ
theorem fw{a' c a'' c' i':Nat}{x:Int}(h:¬(c'=c/\i'=i)):(G.sI a' c i x).I a'' c' i'=G.I a'' c' i':=mR h
theorem TF.wI{a':Nat}{x:Int}(y:TF l tr G G1)(hi:i∈l)(ha:a'≠97):TF l tr G (G1.sI a' 179 i x):=
 ⟨gQ y.raw,fun a c j h h'=>(fw (c':=c) (i':=j) fun q=>h ⟨q.1,by rw[q.2];exact hi⟩).trans (y.I a c j h h'),y.B,y.Q,fun j=>(bw ha.symm).trans (y.I97 j),y.B91,y.B92,y.N,y.F,y.ni,y.dct,y.nd,y.nl,y.lst⟩
theorem Tr.wI{a':Nat}{x:Int}(T:Tr G tr l B E)(hi:i∉l):Tr (G.sI a' 179 i x) tr l B E:=by
 obtain⟨nd,sh,id,F,m,hl,T,hm⟩:=T
 have k:∀{a s},s<sh.1->(G.sI a' 179 i x).I a 179 (id s)=G.I a 179 (id s):=fun {a s} h=>fw (c':=179) (i':=id s) fun q=>hi (by rw[←q.2];exact(hm _).mpr ⟨_,h,rfl⟩)
 exact⟨nd,sh,id,F,m,hl,⟨T.mem,T.root,T.L,T.R,T.U,T.C,fun s h=>(k h).trans (T.fb s h),fun s h=>(k h).trans (T.fe s h),fun s h=>(k h).trans (T.fm s h),fun s h=>(k h).trans (T.fo s h),T.fmm,T.fem,T.inj,T.le,T.ord⟩,hm⟩
theorem wG{ρ:au}{x:Nat}{v:V}(h1:ρ x=some v):(pv 12).evs ρ G [.var x]=some [v]:=by
 show oB (ρ x) (fun a=>some [a])=_
 rw[h1];rfl
theorem HN{ρ:au}{x y:Nat}{v w:V}(h1:ρ x=some v)(h2:ρ y=some w):(pv 12).evs ρ G [.var x, .var y]=some [v,w]:=by
 show oB (ρ x) (fun a=>oB (oB (ρ y) fun b=>some [b]) fun r=>some (a::r))=_
 rw[h1,h2];rfl
theorem IM{ρ:au}{x y z:Nat}{v w u:V}(h1:ρ x=some v)(h2:ρ y=some w)(h3:ρ z=some u):(pv 12).evs ρ G [.var x, .var y, .var z]=some [v,w,u]:=by
 show oB (ρ x) (fun a=>oB (oB (ρ y) fun b=>oB (oB (ρ z) fun b=>some [b]) fun r=>some (b::r)) fun r=>some (a::r))=_
 rw[h1,h2,h3];rfl
theorem K6{ρ:au}{x y z t:Nat}{v w u s:V}(h1:ρ x=some v)(h2:ρ y=some w)(h3:ρ z=some u)(h4:ρ t=some s):(pv 12).evs ρ G [.var x, .var y, .var z, .var t]=some [v,w,u,s]:=by
 show oB (ρ x) (fun a=>oB (oB (ρ y) fun b=>oB (oB (ρ z) fun b=>oB (oB (ρ t) fun b=>some [b]) fun r=>some (b::r)) fun r=>some (b::r)) fun r=>some (a::r))=_
 rw[h1,h2,h3,h4];rfl
theorem xi{ρ:au}(p:Nat->Bool){rs:List Nat}{j0:Nat}{kh:H->Prop}(hK:150<=K)(h1:ρ 89=some (.int mark))(h2:ρ 90=some (.bool c))(hr:G.raw=[])(hj:j0<G.nl)(hl:G.lst j0=refs rs)(hn:rs.length<=4)
  (hp:∀i,i∈rs->(decide (G.I 67 179 i=mark)&&led (G.B 91 179 i) (G.B 92 179 i) c (G.I 67 179 i) (G.I 68 179 i))=p i)(g:kh ((G.newL []).ax G.nl (refs (rs.filter p)))):
  gH P K ρ (G.newL []) (.var 65) 65 [.call 22 [.var 65, .var 89, .var 90]] (.list j0) 0 G.nl kh:=by
 refine dM (B:=120) (I:=fun j H=>H=(G.newL []).ax G.nl (refs ((rs.take j).filter p))) (fun j H e=>?_) (fun j w H K hw e hK nx hn'=>?_) (fun H e=>?_) (refs rs).length 0 _ K rfl (dc (if_pos rfl)).symm (by rw[ai];lia)
 ·show some (H.lst j0)[j]?=_
  rw[e,a8 (aj hj),aU hj,hl]
 ·obtain⟨i,hi,rfl⟩:=gC hw
  have hm:=List.mem_of_getElem? hi
  have hr':H.raw=[]:=e▸hr
  have q:=hp i hm
  refine bK (d:=0) hK rfl (rj hK rfl rfl (aV hK rfl (vs:=[.ref 179 (some i), .int mark, .bool c]) hr' ?_ (yG (ac hK rfl) hr' ?_)))
  ·exact IM rfl h1 h2
  ·have:(decide (H.I 67 179 i=mark)&&led (H.B 91 179 i) (H.B 92 179 i) c (H.I 67 179 i) (H.I 68 179 i))=p i:=by rw[e];exact q
   rw[this]
   have nx':=hn' ((G.newL []).ax G.nl (refs ((rs.take (j+1)).filter p))) rfl
   rw[fE hi,List.filter_append] at nx'
   show Mine.same (p i) true _ _
   rcases hpi:p i with _|_
   ·rw[List.filter_cons_of_neg (by rw[hpi];exact nofun),List.filter_nil,List.append_nil] at nx'
    rw[e];exact nx'
   ·rw[List.filter_cons_of_pos hpi] at nx'
    refine cq hK rfl ?_
    rw[bx]
    refine aq (d:=0) hK rfl hr' rfl ⟨?_,?_⟩
    ·rw[e,aW,ai]
     exact Nat.lt_of_le_of_lt (af (List.length_filter_le _ _) (af (List.length_take_le' _ _) hn)) (by unfold eg;lia)
    ·rw[e,aW,cF]
     rw[List.filter_nil,refs,List.map_append] at nx'
     exact nx'
 ·rw[e,ai,List.take_length];exact g
end
section
variable{G:H}{tr a:Nat}{l:List Nat}{K:Nat}{i:Nat}{B E:Nat->Int}{mark many:Int}{c:Bool}
noncomputable def xR(mark many:Int)(l:Bool)(b:Int):Int:=if b>mark\/(b=mark/\l=true) then b+many else b
structure Ph(G H:Mine.H)(tr:Nat)(l:List Nat)(mv:List Nat)(out:List Nat)(B E B0 E0:Nat->Int)(a:Nat):Prop where
 f:TF l tr G H
 t:∃lj,Tr H tr lj B E/\(∀i,i∈lj↔i∈l/\i∉out)/\lj.length+out.length=l.length
 o:∀i,i∈out->i∈l/\Loose H i/\H.I 67 179 i=B0 i/\H.I 68 179 i=E0 i
 m:H.lst a=refs mv
 al:a<H.nl
theorem TF.loose{H H':Mine.H}{lj:List Nat}(x:TF lj tr H H')(hi:i∉lj){b e:Int}(h:Loose H i/\H.I 67 179 i=b/\H.I 68 179 i=e):Loose H' i/\H'.I 67 179 i=b/\H'.I 68 179 i=e:=by
 have n1:¬(179=179/\i∈lj):=fun h=>hi h.2
 have n2:¬(179=180/\i=tr):=fun h=>nomatch h.1
 exact⟨⟨(x.Q _ _ _ n1 n2).trans h.1.L,(x.Q _ _ _ n1 n2).trans h.1.R,(x.Q _ _ _ n1 n2).trans h.1.U,(x.I _ _ _ n1 n2).trans h.1.o⟩,(x.I _ _ _ n1 n2).trans h.2.1,(x.I _ _ _ n1 n2).trans h.2.2⟩
theorem ip{H:Mine.H}{j0 j:Nat}{ws:List V}(h:H.lst j0=ws):itemAt H (.list j0) j=some ws[j]?:=by rw[←h];rfl
theorem wo{H:Mine.H}{mv:List Nat}{ρ:au}{kf:Fl->au->Mine.H->Prop}(hK:520<=K)(h1:ρ 77=some (.ref 180 (some tr)))(hn:mv.length<=4)(nd:mv.Nodup)(hs:∀i,i∈mv->i∈l)(ha:G.nl<=a)
  (P0:Ph G H tr l mv [] B E B E a)(g:∀(ρ':au) (H':Mine.H),(∀y,y≠65->ρ' y=ρ y)->Ph G H' tr l mv mv B E B E a->kf .next ρ' H'):dK P K ρ H (.var 65) [.expr (.call 16 [.var 77, .var 65])] (.list a) 0 kf:=by
 refine kD (B:=500) (I:=fun j ρ' H'=>(∀y,y≠65->ρ' y=ρ y)/\Ph G H' tr l mv (mv.take j) B E B E a) (fun j ρ H h=>ip h.2.m) (fun j w ρ' H' K hw hI hK nx hnx=>?_) (fun ρ' H' hI=>g ρ' H' hI.1 ?_) (refs mv).length 0 ρ H K rfl ⟨fun _ _=>rfl,P0⟩ (by rw[ai];lia)
 ·obtain⟨i,hi,rfl⟩:=gC hw
  obtain⟨he,p⟩:=hI
  obtain⟨lj,T,hm,hl⟩:=p.t
  have hil:=hs i (List.mem_of_getElem? hi)
  obtain⟨hlt,hget⟩:=List.getElem?_eq_some_iff.mp hi
  have hio:i∉mv.take j:=fun h=>by
   obtain⟨n,hn,e⟩:=List.getElem_of_mem h
   rw[List.length_take] at hn
   rw[List.getElem_take,←hget] at e
   exact(List.pairwise_iff_getElem.mp nd) n j (by lia) hlt (by lia) e
  have hij:i∈lj:=(hm i).mpr ⟨hil,hio⟩
  refine s_call (d:=0) hK rfl p.f.raw ?_ (tR T p.f.raw hij (ac hK rfl) fun u H2 F2 T2 L2 b2 e2=>az hK rfl (hnx _ _ ⟨fun y hy=>?_,?_⟩))
  ·exact HN ((he 77 (by decide)).trans h1) rfl
  ·exact(ek hy).trans (he y hy)
  ·rw[fE hi]
   have F3:TF l tr H' H2:=F2.mono fun x hx=>((hm x).mp hx).1
   refine⟨p.f.trans F3,⟨lj.erase i,T2,fun x=>?_,?_⟩,fun x hx=>?_,?_,ae p.al F2.nl⟩
   ·rw[T.nd.mem_erase_iff,hm x,List.mem_append,List.mem_singleton]
    exact⟨fun h=>⟨h.2.1,fun q=>q.elim h.2.2 h.1⟩,fun h=>⟨fun q=>h.2 (.inr q),h.1,fun q=>h.2 (.inl q)⟩⟩
   ·rw[List.length_erase_of_mem hij,List.length_append,List.length_singleton]
    have:=List.length_pos_of_mem hij
    lia
   ·rcases List.mem_append.mp hx with h|h
    ·obtain⟨q1,q2⟩:=p.o x h
     exact⟨q1,F2.loose (fun w=>((hm x).mp w).2 h) q2⟩
    ·rw[List.mem_singleton.mp h];exact⟨hil,L2,b2,e2⟩
   ·rw[F2.lst a p.al];exact p.m
 ·have:=hI.2
  rw[ai,List.take_length] at this;exact this
theorem xI{H:Mine.H}{mv:List Nat}{ρ:au}{B1 E1:Nat->Int}{kf:Fl->au->Mine.H->Prop}(hK:530<=K)(h1:ρ 77=some (.ref 180 (some tr)))(h2:ρ 89=some (.int mark))(h3:ρ 93=some (.int many))(h4:ρ 90=some (.bool c))(hn:mv.length<=4)(hl4:l.length<=4)(nd:mv.Nodup)(ha:G.nl<=a)
  (hb:∀i,i∈mv->B1 i=B i+many)(he:∀i,i∈mv->E1 i=if E i≠mark\/G.B 92 179 i=true\/c=true then E i+many else E i)(le:∀i,i∈mv->B1 i<=E1 i)
  (P0:Ph G H tr l mv mv B1 E1 B E a)(g:∀(ρ':au) (H':Mine.H),Ph G H' tr l mv [] B1 E1 B E a->kf .next ρ' H'):
  dK P K ρ H (.var 65) [.ite (.bool2 false [.cmp (.attr (.var 65) 68) .ne (.var 89), .attr (.var 65) 92, .var 90]) [.asg (.attr (.var 65) 68) (.bop .add (.attr (.var 65) 68) (.var 93))] [], .asg (.attr (.var 65) 67) (.bop .add (.attr (.var 65) 67) (.var 93)), .expr (.call 13 [.var 77, .var 65])] (.list a) 0 kf:=by
 refine kD (B:=510) (I:=fun j ρ' H'=>(∀y,y≠65->ρ' y=ρ y)/\Ph G H' tr l mv (mv.drop j) B1 E1 B E a) (fun j ρ H h=>ip h.2.m) (fun j w ρ' H' K hw hI hK nx hnx=>?_) (fun ρ' H' hI=>g ρ' H' ?_) (refs mv).length 0 ρ H K rfl ⟨fun _ _=>rfl,P0⟩ (by rw[ai];lia)
 ·obtain⟨i,hi,rfl⟩:=gC hw
  obtain⟨hρ,p⟩:=hI
  obtain⟨lj,T,hm,hl⟩:=p.t
  have him:=List.mem_of_getElem? hi
  obtain⟨hlt,hget⟩:=List.getElem?_eq_some_iff.mp hi
  have hdr:mv.drop j=i::mv.drop (j+1):=by rw[←hget];exact List.drop_eq_getElem_cons hlt
  have hid:i∈mv.drop j:=by rw[hdr];exact bN
  have hio:i∉mv.drop (j+1):=by
   have:=(hdr▸(List.drop_sublist j mv).nodup nd:(i::mv.drop (j+1)).Nodup)
   exact(List.nodup_cons.mp this).1
  obtain⟨hil,hL,ebb,ee⟩:=p.o i hid
  have hij:i∉lj:=fun h=>((hm i).mp h).2 hid
  have hr:=p.f.raw
  have r77:upd ρ' 65 (.ref 179 (some i)) 77=some (.ref 180 (some tr)):=(hρ 77 (by decide)).trans h1
  have r89:upd ρ' 65 (.ref 179 (some i)) 89=some (.int mark):=(hρ 89 (by decide)).trans h2
  have r93:upd ρ' 65 (.ref 179 (some i)) 93=some (.int many):=(hρ 93 (by decide)).trans h3
  have r90:upd ρ' 65 (.ref 179 (some i)) 90=some (.bool c):=(hρ 90 (by decide)).trans h4
  have r65:upd ρ' 65 (.ref 179 (some i)) 65=some (.ref 179 (some i)):=rfl
  have hρ':∀y,y≠65->upd ρ' 65 (.ref 179 (some i)) y=ρ y:=fun y hy=>(ek hy).trans (hρ y hy)
  generalize upd ρ' 65 (.ref 179 (some i))=ρ2 at*
  have b92:H'.B 92 179 i=G.B 92 179 i:=p.f.B92 i
  have i1:i∈[i]:=List.mem_singleton.mpr rfl
  have rest:∀H2:Mine.H,TF [i] tr H' H2->Tr H2 tr lj B1 E1->Loose H2 i->H2.I 67 179 i=B i->H2.I 68 179 i=E1 i->aC P (K - (0+1)) ρ2 H2 [.asg (.attr (.var 65) 67) (.bop .add (.attr (.var 65) 67) (.var 93)), .expr (.call 13 [.var 77, .var 65])] fun f ρ h=>goes f (fun v=>kf (.ret v) ρ h) (nx ρ h):=fun H2 F2 T2 L2 b2 e2=>by
   have F3:=F2.wI (a':=67) (x:=H2.I 67 179 i+many) i1 (by decide)
   refine aX hK rfl F2.raw (v:= .int (H2.I 67 179 i+many)) ?_ r65 rfl ?_
   ·show oB (oB (ρ2 65) fun o=>fU H2 o 67) (fun x=>oB (ρ2 93) _)=_
    rw[r65,r93];rfl
   refine s_call hK rfl F3.raw (HN r77 r65) (zA (BB:=B1) (EE:=E1) (T2.wI hij) F3.raw ?_ hij ⟨L2.L,L2.R,L2.U,(bw (by decide)).trans L2.o⟩ ?_ ((bw (by decide)).trans e2) (le i him) (ac hK rfl) fun u H4 F4 T4=>az hK rfl (hnx _ _ ⟨hρ',?_⟩))
   ·rw[hdr,List.length_cons] at hl;lia
   ·exact lG.trans (by rw[b2,hb i him])
   ·have sub:∀x,x∈i::lj->x∈l:=fun x hx=>(List.mem_cons.mp hx).elim (fun e=>e▸hil) fun h=>((hm x).mp h).1
    have F5:TF l tr H' H4:=(F3.mono fun x hx=>List.mem_singleton.mp hx▸hil).trans (F4.mono sub)
    refine⟨p.f.trans F5,⟨i::lj,T4,fun x=>?_,?_⟩,fun x hx=>?_,?_,ae p.al F5.nl⟩
    ·rw[List.mem_cons,hm x,hdr,List.mem_cons]
     constructor
     ·intro h
      rcases h with h|h
      ·exact⟨h▸hil,h▸hio⟩
      ·exact⟨h.1,fun q=>h.2 (.inr q)⟩
     ·intro h
      by_cases q:x=i
      ·exact .inl q
      ·exact .inr ⟨h.1,fun w=>w.elim q h.2⟩
    ·rw[hdr,List.length_cons] at hl
     rw[List.length_cons];lia
    ·have hx':x∈mv.drop j:=by rw[hdr];exact cH _ hx
     have hne:x≠i:=fun q=>hio (q▸hx)
     obtain⟨q1,q2⟩:=p.o x hx'
     refine⟨q1,F4.loose (fun w=>(List.mem_cons.mp w).elim hne fun w=>((hm x).mp w).2 hx') (F3.loose (fun w=>hne (List.mem_singleton.mp w)) q2)⟩
    ·rw[F5.lst a p.al];exact p.m
  have E1i:=he i him
  have tst:(pv 12).ev ρ2 H' (.bool2 false [.cmp (.attr (.var 65) 68) .ne (.var 89), .attr (.var 65) 92, .var 90])=some (.bool (!decide (E i=mark)||(G.B 92 179 i||c))):=by
   show oB (oB (oB (ρ2 65) fun o=>fU H' o 68) fun x=>oB (ρ2 89) fun y=>oB (kg H' .ne x y) fun r=>some (V.bool r)) (fun x=>yf x fun b=>bif eb b false then oB (oB (ρ2 65) fun o=>fU H' o 92) (fun x=>yf x fun b=>bif eb b false then ρ2 90 else some (.bool b)) else some (.bool b))=_
   rw[r65,r89,r90,←b92,←ee]
   show(bif eb (!decide (H'.I 68 179 i=mark)) false then(bif eb (H'.B 92 179 i) false then some (V.bool c) else some (V.bool (H'.B 92 179 i))) else some (V.bool (!decide (H'.I 68 179 i=mark))))=_
   cases decide (H'.I 68 179 i=mark)<;>cases H'.B 92 179 i<;>rfl
  have iff:(!decide (E i=mark)||(G.B 92 179 i||c))=true↔(E i≠mark\/G.B 92 179 i=true\/c=true):=by
   rw[Bool.or_eq_true,Bool.or_eq_true,Bool.not_eq_true',decide_eq_false_iff_not]
  refine aw hK rfl hr tst (cg (fun q=>?_) fun q=>s_end hK rfl (rest H' (TF.refl hr) T hL ebb (ee.trans ?_)))
  ·have F2:=(TF.refl hr:TF [i] tr H' H').wI (a':=68) (x:=H'.I 68 179 i+many) i1 (by decide)
   refine aX hK rfl hr (v:= .int (H'.I 68 179 i+many)) ?_ r65 rfl (s_end hK rfl (rest _ F2 (T.wI hij) ⟨hL.L,hL.R,hL.U,(bw (by decide)).trans hL.o⟩ ((bw (by decide)).trans ebb) ?_))
   ·show oB (oB (ρ2 65) fun o=>fU H' o 68) (fun x=>oB (ρ2 93) _)=_
    rw[r65,r93];rfl
   ·refine lG.trans ?_
    rw[E1i,if_pos (iff.mp q),ee]
  ·rw[E1i,if_neg fun w=>Bool.noConfusion (q.symm.trans (iff.mpr w))]
 ·have:=hI.2
  rw[ai,List.drop_length] at this;exact this
end
section
variable{G G' G1:H}{tr:Nat}{l:List Nat}{K:Nat}{k:V->H->Prop}{i:Nat}{B E:Nat->Int}{mark many:Int}{c:Bool}
theorem Ak{b e:Int}{f r:Bool}(hp:0<many)(h:b<=e):xR mark many (led f r c b e) b<=rO mark many (c||r) e:=by
 unfold xR rO led
 by_cases q:b=e
 ·subst q
  rw[aK rfl]
  cases c<;>cases f<;>cases r<;>simp<;>(repeat' split)<;>lia
 ·rw[bB q]
  (repeat' split)<;>lia
theorem HK{b e:Int}{m:Bool}(h:b<=e)(hn:¬(b=mark/\m=true)):xR mark many m b=wp mark many b:=by
 unfold xR wp
 by_cases q:b>mark
 ·rw[if_pos (.inl q),if_pos q]
 ·rw[if_neg (fun w=>w.elim q hn),if_neg q]
theorem MO{e:Int}{r:Bool}(h:mark<=e):rO mark many (c||r) e=if e≠mark\/r=true\/c=true then e+many else e:=by
 unfold rO
 have:(e>mark\/(e=mark/\(c||r)=true))↔(e≠mark\/r=true\/c=true):=by
  rw[Bool.or_eq_true]
  constructor
  ·intro w
   rcases w with w|w
   ·exact .inl (by lia)
   ·exact .inr w.2.symm
  ·intro w
   by_cases q:e=mark
   ·exact .inr ⟨q,(w.resolve_left fun w=>w q).symm⟩
   ·exact .inl (by lia)
 by_cases q:e>mark\/(e=mark/\(c||r)=true)
 ·rw[if_pos q,if_pos (this.mp q)]
 ·rw[if_neg q,if_neg fun w=>q (this.mpr w)]
theorem DT(T:Tr G tr l B E)(hr:G.raw=[])(hl:l.length<=4)(hp:0<many)(hK:700<=K)
  (g:∀u G',TF l tr G G'->Tr G' tr l (fun i=>xR mark many (led (G.B 91 179 i) (G.B 92 179 i) c (B i) (E i)) (B i)) (fun i=>rO mark many (c||G.B 92 179 i) (E i))->k u G'):
  aD P K G 24 [.ref 180 (some tr), .int mark, .int many, .bool c] k:=by
 refine av hK rfl Jt rfl (aw hK rfl (b:=decide (many<=0)) hr rfl (cg (fun q=>absurd (ao q) (Int.not_le.mpr hp)) fun _=>s_end hK rfl ?_))
 refine bm hK rfl (di hK rfl (aV hK rfl hr (IM rfl rfl rfl) (Dq T hr (ac hK rfl) fun j0 rs G1 F1 T1 h1 h2 h3 nd h4 h5=>?_)))
 have hrs:rs.length<=4:=af (nd.length_le_of_subset fun x hx=>((h4 x).mp hx).1) hl
 refine xi (fun i=>decide (B i=mark)&&led (G.B 91 179 i) (G.B 92 179 i) c (B i) (E i)) (ac hK rfl) rfl rfl F1.raw h2 h3 hrs (fun i hi=>?_) ?_
 ·rw[(h5 i hi).1,(h5 i hi).2,F1.B91,F1.B92]
 have hm:∀i,i∈rs.filter (fun i=>decide (B i=mark)&&led (G.B 91 179 i) (G.B 92 179 i) c (B i) (E i))↔i∈l/\B i=mark/\led (G.B 91 179 i) (G.B 92 179 i) c (B i) (E i)=true:=fun i=>by
  rw[List.mem_filter,Bool.and_eq_true,decide_eq_true_iff,h4 i]
  exact⟨fun w=>⟨w.1.1,w.2⟩,fun w=>⟨⟨w.1,Int.le_of_eq w.2.1,w.2.1▸T.le w.1⟩,w.2⟩⟩
 have ndm:=nd.filter (fun i=>decide (B i=mark)&&led (G.B 91 179 i) (G.B 92 179 i) c (B i) (E i))
 have lm:=af (List.length_filter_le (fun i=>decide (B i=mark)&&led (G.B 91 179 i) (G.B 92 179 i) c (B i) (E i)) rs) hrs
 generalize rs.filter (fun i=>decide (B i=mark)&&led (G.B 91 179 i) (G.B 92 179 i) c (B i) (E i))=mv at*
 have F2:TF l tr G ((G1.newL []).ax G1.nl (refs mv)):=(F1.newL).ax F1.nl
 have T2:Tr ((G1.newL []).ax G1.nl (refs mv)) tr l B E:=T1.lists rfl rfl rfl
 have P0:Ph G ((G1.newL []).ax G1.nl (refs mv)) tr l mv [] B E B E G1.nl:=⟨F2,⟨l,T2,fun i=>⟨fun w=>⟨w,fun q=>(nomatch q)⟩,And.left⟩,rfl⟩,fun i q=>(nomatch q),aW,aE _⟩
 generalize (G1.newL []).ax G1.nl (refs mv)=G2 at*
 refine j9 hK rfl F2.raw rfl (wo (ac hK rfl) rfl lm ndm (fun i hi=>((hm i).mp hi).1) F1.nl P0 fun ρ3 G3 hρ P3=>?_)
 obtain⟨lj,T3,hj,hjl⟩:=P3.t
 have r77:ρ3 77=some (.ref 180 (some tr)):=hρ 77 (by decide)
 have r89:ρ3 89=some (.int mark):=hρ 89 (by decide)
 have r93:ρ3 93=some (.int many):=hρ 93 (by decide)
 have r90:ρ3 90=some (.bool c):=hρ 90 (by decide)
 have r94:ρ3 94=some (.list G1.nl):=hρ 94 (by decide)
 show aC P _ ρ3 G3 (.expr (.call 25 _)::_) _
 refine s_call hK rfl P3.f.raw (K6 r77 r89 r93 r90) (Ll T3 P3.f.raw hp (ac hK rfl) fun u G4 F4 T4=>?_)
 have sub:∀x,x∈lj->x∈l:=fun x hx=>((hj x).mp hx).1
 have F5:TF l tr G G4:=P3.f.trans (F4.mono sub)
 refine j9 hK rfl F5.raw (v:= .list G1.nl) r94 (xI (B:=B) (B1:=fun i=>xR mark many (led (G.B 91 179 i) (G.B 92 179 i) c (B i) (E i)) (B i)) (E1:=fun i=>rO mark many (c||G.B 92 179 i) (E i)) (ac hK rfl) r77 r89 r93 r90 lm hl ndm F1.nl (fun i hi=>?_) (fun i hi=>MO (((hm i).mp hi).2.1▸T.le ((hm i).mp hi).1)) (fun i hi=>Ak hp (T.le ((hm i).mp hi).1)) ⟨F5,⟨lj,T4.congr (fun i hi=>?_) (fun i hi=>?_),hj,hjl⟩,fun i hi=>?_,?_,ae P3.al F4.nl⟩ fun ρ6 G6 P6=>?_)
 ·exact if_pos (.inr ((hm i).mp hi).2)
 ·have w:=(hj i).mp hi
  exact(HK (T.le w.1) fun q=>w.2 ((hm i).mpr ⟨w.1,q⟩)).symm
 ·show rO _ _ (c||G3.B 92 179 i) _=_
  rw[P3.f.B92]
 ·obtain⟨q1,q2⟩:=P3.o i hi
  exact⟨q1,F4.loose (fun w=>((hj i).mp w).2 hi) q2⟩
 ·rw[F4.lst _ P3.al];exact P3.m
 ·obtain⟨lk,T6,hk,hkl⟩:=P6.t
  refine az hK rfl (g _ G6 P6.f ?_)
  obtain⟨_,sh,id,F,m,hn,T6,hm6⟩:=T6
  exact⟨T.nd,sh,id,F,m,by rw[hn];exact hkl,T6,fun i=>by rw[←hm6 i,hk i];exact⟨fun w=>⟨w,fun q=>(nomatch q)⟩,And.left⟩⟩
end
theorem Ge:P.fn 27=some Nk:=by kernel_rfl
theorem My:P.fn 28=some N9:=by kernel_rfl
theorem Mp:P.fn 29=some Ob:=by kernel_rfl
theorem KS:P.fn 32=some f32:=by kernel_rfl
theorem KU:P.fn 38=some M7:=by kernel_rfl
theorem Ln:P.fn 39=some Ni:=by kernel_rfl
theorem Dx:P.fn 1003=some zK:=by kernel_rfl
theorem Al:P.meth 152 109=some 1003:=by kernel_rfl
structure Ru(G:H)(ru:Nat):Prop where
 nil:G.F 104 152 ru= .none
 ev:G.I 110 152 ru=903
 cat:G.I 100 152 ru=900
noncomputable abbrev qa(s:Bool):List V:=bif s then [.tup [.int 903, .bool true]] else []
section
variable{G:H}{K ru j i:Nat}{k:V->H->Prop}{s:Bool}{z:Int}
theorem De{n:Int}(h:small n=true):ny G .range [.int n]=some (.range n):=by
 have:i9 G .range [.int n]=some (.range n,G):=if_pos h
 show oB (i9 G .range [.int n]) (fun p=>some p.1)=_
 rw[this];rfl
theorem tX{n:Nat}{ρ:au}{b:Bi}{es:List E}:(pv (n+1)).ev ρ G (.blt b es)=oB ((pv n).evs ρ G es) fun vs=>ny G b vs:=rfl
theorem lK{ρ:au}{es:List E}{n:Int}(h:(pv 11).evs ρ G es=some [.int n])(hs:small n=true):(pv 12).ev ρ G (.blt .range es)=some (.range n):=by
 rw[show(12:Nat)=11+1 from rfl,tX,h]
 exact De hs
theorem eq_nil{v:V}{b:Bool}(hK:60<=K)(hr:G.raw=[])(hv:(v= .none/\b=true)\/(∃x,v= .bool x/\b=false))(g:k (.bool b) G):aD P K G 27 [v, .none] k:=by
 rcases hv with⟨rfl,rfl⟩|⟨x,rfl,rfl⟩
 ·exact av hK rfl Ge rfl (aw hK rfl hr rfl (s_end hK rfl (bg hK rfl hr rfl g)))
 ·exact av hK rfl Ge rfl (aw hK rfl hr rfl (bg hK rfl hr rfl g))
theorem lU{v:V}{b:Bool}(R:Ru G ru)(hK:120<=K)(hr:G.raw=[])(hv:(v= .none/\b=true)\/(∃x,v= .bool x/\b=false))(g:k (.bool b) G):aD P K G 1003 [.ref 152 (some ru),v] k:=by
 refine av hK rfl Dx rfl (bJ hK rfl (aV hK rfl hr ?_ (eq_nil (ac hK rfl) hr hv g)))
 show some [v,G.F 104 152 ru]=_
 rw[R.nil]
theorem g0(hK:120<=K)(hr:G.raw=[])(hl:G.lst j=qa s)(g:k (.int (if s=true/\z=903 then 0 else -1)) G):aD P K G 28 [.list j, .int z] k:=by
 have len:(pv 12).ev (fun x=>([96,97].zip [V.list j,V.int z]).lookup x) G (.blt .range [.blt .len [.var 96]])=some (.range (G.lst j).length):=by
  have:small ((G.lst j).length:Int)=true:=by rw[hl];cases s<;>rfl
  have e1:(pv 11).evs (fun x=>([96,97].zip [V.list j,V.int z]).lookup x) G [.blt .len [.var 96]]=some [.int (G.lst j).length]:=rfl
  exact lK e1 this
 refine av hK rfl My rfl (j9 hK rfl hr len ?_)
 rw[hl]
 rcases s with _|_
 ·exact d8 hK rfl rfl (bg hK rfl hr rfl g)
 ·have it:eO G (.list j) (.int 0)=some (.tup [.int 903, .bool true]):=by
   show(pP (G.lst j).length 0).bind (fun i=>(G.lst j)[i]?)=_
   rw[hl];rfl
  refine cI hK rfl rfl (aw hK rfl (b:=decide ((903:Int)=z)) hr ?_ (cg (fun q=>bg hK rfl hr rfl ?_) fun q=>s_end hK rfl (az hK rfl (d8 hK rfl rfl (bg hK rfl hr rfl ?_)))))
  ·show oB (oB (eO G (.list j) (.int 0)) fun x=>oB (some (V.int 0)) fun y=>eO G x y) (fun x=>oB (some (V.int z)) _)=_
   rw[it];rfl
  ·rw[if_pos ⟨rfl,(ao q).symm⟩] at g;exact g
  ·rw[if_neg fun w=>Bool.noConfusion ((aK w.2.symm).symm.trans q)] at g;exact g
theorem mI(hK:180<=K)(hr:G.raw=[])(hl:G.lst j=qa s)(g:k (if s=true/\z=903 then .tup [.bool true] else .none) G):aD P K G 29 [.list j, .int z] k:=by
 refine av hK rfl Mp rfl (da hK rfl hr rfl (g0 (ac hK rfl) hr hl (bg hK rfl hr ?_ g)))
 by_cases q:s=true/\z=903
 ·rw[if_pos q,if_pos q]
  have it:eO G (.list j) (.int 0)=some (.tup [.int 903, .bool true]):=by
   show(pP (G.lst j).length 0).bind (fun i=>(G.lst j)[i]?)=_
   rw[hl,q.1];rfl
  show oB (oB (oB (eO G (.list j) (.int 0)) fun x=>oB (some (V.int 1)) fun y=>eO G x y) fun x=>oB (some []) fun y=>some (x::y)) (fun vs=>some (V.tup vs))=_
  rw[it];rfl
 ·rw[if_neg q,if_neg q];rfl
theorem oj(R:Ru G ru)(hK:260<=K)(hr:G.raw=[])(hl:G.lst j=qa s)(g:k (bif s then .bool true else .none) G):aD P K G 32 [.ref 152 (some ru), .list j, .int 903] k:=by
 refine av hK rfl KS rfl (da hK rfl hr rfl (mI (ac hK rfl) hr hl ?_))
 rcases s with _|_
 ·rw[if_neg fun w=>Bool.noConfusion w.1]
  refine aw hK rfl hr rfl (da hK rfl hr (vs:=[.list j, .int 900]) ?_ (mI (ac hK rfl) hr hl ?_))
  ·show some [V.list j,V.int (G.I 100 152 ru)]=_
   rw[R.cat]
  ·rw[if_neg fun w=>Bool.noConfusion w.1]
   refine cv hK rfl (gI hK rfl (bK hK rfl (fM hK rfl hr rfl ?_)))
   refine s_end hK rfl (s_end hK rfl (bg hK rfl hr rfl ?_))
   rw[R.nil];exact g
 ·rw[if_pos ⟨rfl,rfl⟩]
  exact aw hK rfl hr rfl (s_end hK rfl (bg hK rfl hr rfl g))
theorem nP(R:Ru G ru)(hK:420<=K)(hr:G.raw=[])(hp:G.N 96 108 i=j)(hl:G.lst j=qa s)(g:k (.bool s) G):aD P K G 39 [.ref 152 (some ru), .ref 108 (some i)] k:=by
 refine av hK rfl Ln rfl (bJ hK rfl (Ag hK rfl ?_))
 refine yb hK rfl hr rfl Al (aA hK rfl (aV hK rfl hr (vs:=[.ref 152 (some ru), .ref 108 (some i), .int 903]) ?_ (av (B:=380) (ac hK rfl) rfl KU rfl (bJ (ac (n:=380) hK rfl) rfl (aV (ac (n:=380) hK rfl) rfl hr ?_ (oj R (ac (ac (n:=380) hK rfl) rfl) hr hl (bz hK rfl (lU (b:= !s) R (ac hK rfl) hr ?_ ?_))))))))
 ·show some [V.ref 152 (some ru),V.ref 108 (some i),V.int (G.I 110 152 ru)]=_
  rw[R.ev]
 ·show some [V.ref 152 (some ru),V.list (G.N 96 108 i),V.int 903]=_
  rw[hp]
 ·cases s
  ·exact .inl ⟨rfl,rfl⟩
  ·exact .inr ⟨true,rfl,rfl⟩
 ·show k (.bool (!!s)) G
  rw[Bool.not_not];exact g
end
structure HR where
 hm:Nat
 tr:Nat
 od:Nat
 ru:Nat
 n:Nat
 ov:Nat->Nat
 nd:Nat->Nat
 pl:Nat->Nat
 f:Nat->Bool
 r:Nat->Bool
 s:Nat->Bool
abbrev eQ:=Nat->Option (Int×Int)
noncomputable def Ez(h:HR)(st:eQ)(k:Nat):Option V:=(st k).map fun _=> .ref 108 (some (h.ov k))
structure Hm(G:H)(h:HR)(st:eQ):Prop where
 n4:h.n<=4
 tr:G.N 77 156 h.hm=h.tr
 od:G.N 107 156 h.hm=h.od
 rl:G.N 99 156 h.hm=h.ru
 ru:Ru G h.ru
 ndI:∀k k',k<h.n->k'<h.n->h.nd k=h.nd k'->k=k'
 ovI:∀k k',k<h.n->k'<h.n->h.ov k=h.ov k'->k=k'
 t:∃L B E,Tr G h.tr L B E/\(∀i,i∈L↔∃k,k<h.n/\(st k).isSome=true/\h.nd k=i)/\∀k,k<h.n->∀b e,st k=some (b,e)->B (h.nd k)=b/\E (h.nd k)=e
 on:∀k,k<h.n->G.N 65 108 (h.ov k)=h.nd k
 oi:∀k,k<h.n->G.I 97 108 (h.ov k)=k
 oh:∀k,k<h.n->G.Q 106 108 (h.ov k)=(st k).map fun _=>h.hm
 op:∀k,k<h.n->G.N 96 108 (h.ov k)=h.pl k
 pl:∀k,k<h.n->h.pl k<G.nl/\G.lst (h.pl k)=qa (h.s k)
 ni:∀k,k<h.n->G.I 97 179 (h.nd k)=k
 nf:∀k,k<h.n->G.B 91 179 (h.nd k)=h.f k
 nr:∀k,k<h.n->G.B 92 179 (h.nd k)=h.r k
 d1:∀k,k<h.n->(G.dct h.od).1 k=Ez h st k
 d2:∀j:Int,(∀k:Nat,k<h.n->j≠k)->(G.dct h.od).1 j=none
 d3:h.n=0\/(G.dct h.od).2=false
structure Out(h:HR)(G G':H):Prop where
 raw:G'.raw=[]
 I:∀a c i,¬(c=179/\∃k,k<h.n/\h.nd k=i)->¬(c=180/\i=h.tr)->G'.I a c i=G.I a c i
 B:∀a c i,¬(c=179/\∃k,k<h.n/\h.nd k=i)->¬(c=180/\i=h.tr)->G'.B a c i=G.B a c i
 Q:∀a c i,¬(c=179/\∃k,k<h.n/\h.nd k=i)->¬(c=180/\i=h.tr)->¬(c=108/\∃k,k<h.n/\h.ov k=i)->G'.Q a c i=G.Q a c i
 N:G'.N=G.N
 F:G'.F=G.F
 ni:G'.ni=G.ni
 dct:∀d,d≠h.od->G'.dct d=G.dct d
 nd:G'.nd=G.nd
 nl:G.nl<=G'.nl
 lst:∀j,j<G.nl->G'.lst j=G.lst j
section
variable{G G' G1:H}{h:HR}{st st':eQ}{L:List Nat}{tr K j i:Nat}{k:V->H->Prop}{B E:Nat->Int}{c:Bool}
theorem Out.trans{G'':H}(x:Out h G G')(y:Out h G' G''):Out h G G'':=
 ⟨y.raw,fun a c i p q=>(y.I a c i p q).trans (x.I a c i p q),fun a c i p q=>(y.B a c i p q).trans (x.B a c i p q),fun a c i p q r=>(y.Q a c i p q r).trans (x.Q a c i p q r),y.N.trans x.N,y.F.trans x.F,y.ni.trans x.ni,fun d p=>(y.dct d p).trans (x.dct d p),y.nd.trans x.nd,af x.nl y.nl,fun j p=>(y.lst j (ae p x.nl)).trans (x.lst j p)⟩
theorem Out.refl(hr:G.raw=[]):Out h G G:=⟨hr,fun _ _ _ _ _=>rfl,fun _ _ _ _ _=>rfl,fun _ _ _ _ _ _=>rfl,rfl,rfl,rfl,fun _ _=>rfl,rfl,ab _,fun _ _=>rfl⟩
theorem TF.out(F:TF L h.tr G G')(hL:∀i,i∈L->∃k,k<h.n/\h.nd k=i):Out h G G':=
 ⟨F.raw,fun a c i p q=>F.I a c i (fun w=>p ⟨w.1,hL i w.2⟩) q,fun a c i p q=>F.B a c i (fun w=>p ⟨w.1,hL i w.2⟩) q,fun a c i p q _=>F.Q a c i (fun w=>p ⟨w.1,hL i w.2⟩) q,F.N,F.F,F.ni,fun d _=>by rw[F.dct],F.nd,F.nl,F.lst⟩
theorem Out.newL{xs:List V}(x:Out h G G1):Out h G (G1.newL xs):=
 ⟨x.raw,x.I,x.B,x.Q,x.N,x.F,x.ni,x.dct,x.nd,aL x.nl,fun j p=>(aU (ae p x.nl)).trans (x.lst j p)⟩
theorem Out.ax{a:Nat}{xs:List V}(x:Out h G G1)(ha:G.nl<=a):Out h G (G1.ax a xs):=
 ⟨x.raw,x.I,x.B,x.Q,x.N,x.F,x.ni,x.dct,x.nd,x.nl,fun j p=>(a8 (aj (ae p ha))).trans (x.lst j p)⟩
theorem Hm.tree(M:Hm G h st)(F:TF L h.tr G G')(hL:∀i,i∈L->∃k,k<h.n/\h.nd k=i)(hs:∀k,k<h.n->(st' k).isSome=(st k).isSome)
  (t:∃L B E,Tr G' h.tr L B E/\(∀i,i∈L↔∃k,k<h.n/\(st' k).isSome=true/\h.nd k=i)/\∀k,k<h.n->∀b e,st' k=some (b,e)->B (h.nd k)=b/\E (h.nd k)=e):Hm G' h st':=by
 have m:∀{α:Type} {x:α} {k},k<h.n->(st' k).map (fun _=>x)=(st k).map fun _=>x:=fun {α x k} hk=>by
  have:=hs k hk
  cases q:st k<;>cases q':st' k<;>rw[q,q'] at this<;>first|rfl|exact nomatch this
 have n1:∀{c i},c≠179->¬(c=179/\i∈L):=fun p w=>p w.1
 have n2:∀{c i},c≠180->¬(c=180/\i=h.tr):=fun p w=>p w.1
 exact⟨M.n4,by rw[F.N];exact M.tr,by rw[F.N];exact M.od,by rw[F.N];exact M.rl,⟨by rw[F.F];exact M.ru.nil,(F.I _ _ _ (n1 (by decide)) (n2 (by decide))).trans M.ru.ev,(F.I _ _ _ (n1 (by decide)) (n2 (by decide))).trans M.ru.cat⟩,M.ndI,M.ovI,t,
  fun k hk=>by rw[F.N];exact M.on k hk,fun k hk=>(F.I _ _ _ (n1 (by decide)) (n2 (by decide))).trans (M.oi k hk),fun k hk=>(F.Q _ _ _ (n1 (by decide)) (n2 (by decide))).trans ((M.oh k hk).trans (m hk).symm),fun k hk=>by rw[F.N];exact M.op k hk,
  fun k hk=>⟨ae (M.pl k hk).1 F.nl,(F.lst _ (M.pl k hk).1).trans (M.pl k hk).2⟩,fun k hk=>(F.I97 _).trans (M.ni k hk),fun k hk=>(F.B91 _).trans (M.nf k hk),fun k hk=>(F.B92 _).trans (M.nr k hk),fun k hk=>by rw[F.dct];exact(M.d1 k hk).trans (m hk).symm,fun j hj=>by rw[F.dct];exact M.d2 j hj,by rw[F.dct];exact M.d3⟩
theorem Hm.newL{xs:List V}(M:Hm G h st)(hr:G.raw=[]):Hm (G.newL xs) h st:=by
 obtain⟨L,B,E,T,hm,hv⟩:=M.t
 exact M.tree (L:=L) (TF.refl hr).newL (fun i hi=>by obtain⟨k,hk,_,q⟩:=(hm i).mp hi;exact⟨k,hk,q⟩) (fun _ _=>rfl) ⟨L,B,E,T.lists rfl rfl rfl,hm,hv⟩
theorem Hm.len(M:Hm G h st)(nd:L.Nodup)(hm:∀i,i∈L↔∃k,k<h.n/\(st k).isSome=true/\h.nd k=i):L.length<=4:=by
 have:L.length<=((List.range h.n).map h.nd).length:=nd.length_le_of_subset fun i hi=>by
  obtain⟨k,hk,_,q⟩:=(hm i).mp hi
  exact List.mem_map.mpr ⟨k,List.mem_range.mpr hk,q⟩
 rw[ai,aM] at this
 exact af this M.n4
theorem EP:P.fn 35=some NY:=by kernel_rfl
theorem L0:P.fn 41=some OE:=by kernel_rfl
theorem MM:P.fn 33=some Ow:=by kernel_rfl
theorem JZ:P.fn 34=some OT:=by kernel_rfl
noncomputable def tj(st:eQ)(k:Nat)(v:Option (Int×Int)):eQ:=fun j=>if j=k then v else st j
theorem yX{kk:Nat}{b e:Int}(M:Hm G h st)(hr:G.raw=[])(hk:kk<h.n)(hs:st kk=some (b,e))(hK:480<=K)(w:Bool)(g:∀G',Out h G G'->Hm G' h st->k (.int (bif w then e else b)) G'):aD P K G (bif w then 34 else 33) [.ref 108 (some (h.ov kk))] k:=by
 obtain⟨L,B,E,T,hm,hv⟩:=M.t
 have hi:h.nd kk∈L:=(hm _).mpr ⟨kk,hk,by rw[hs];rfl,rfl⟩
 have hL:∀i,i∈L->∃k,k<h.n/\h.nd k=i:=fun i hi=>by obtain⟨k,hk,_,q⟩:=(hm i).mp hi;exact⟨k,hk,q⟩
 obtain⟨vb,ve⟩:=hv kk hk b e hs
 have ar:∀ρ:au,ρ 105=some (.ref 108 (some (h.ov kk)))->(pv 12).evs ρ G [.attr (.var 105) 65]=some [.ref 179 (some (h.nd kk))]:=fun ρ e=>by
  show oB (oB (ρ 105) fun o=>fU G o 65) (fun x=>some [x])=_
  rw[e]
  show some [V.ref 179 (some (G.N 65 108 (h.ov kk)))]=_
  rw[M.on kk hk]
 have rd:∀{G':H} {a:Nat} {x:Int} (ρ:au),TF L h.tr G G'->P.ty 179 a=some .int->G'.I a 179 (h.nd kk)=x->ρ 105=some (.ref 108 (some (h.ov kk)))->(pv 12).ev ρ G' (.attr (.attr (.var 105) 65) a)=some (.int x):=fun {G' a x} ρ F t e e1=>by
  show oB (oB (ρ 105) fun o=>fU G' o 65) (fun o=>fU G' o a)=_
  rw[e1]
  show fU G' (.ref 179 (some (G'.N 65 108 (h.ov kk)))) a=_
  rw[F.N,M.on kk hk]
  show oB (P.ty 179 a) (xD G' a 179 (h.nd kk))=_
  rw[t]
  show some (V.int (G'.I a 179 (h.nd kk)))=_
  rw[e]
 rcases w with _|_
 ·exact av hK rfl MM rfl (s_call hK rfl hr (ar _ rfl) (Ga T hr hi (ac hK rfl) fun u G' F T' b' e'=>bg hK rfl F.raw (rd _ F xJ (b'.trans vb) rfl) (g G' (F.out hL) (M.tree F hL (fun _ _=>rfl) ⟨L,B,E,T',hm,hv⟩))))
 ·exact av hK rfl JZ rfl (s_call hK rfl hr (ar _ rfl) (Ga T hr hi (ac hK rfl) fun u G' F T' b' e'=>bg hK rfl F.raw (rd _ F yw (e'.trans ve) rfl) (g G' (F.out hL) (M.tree F hL (fun _ _=>rfl) ⟨L,B,E,T',hm,hv⟩))))
end
section
variable{G G' G1:H}{h:HR}{st:eQ}{L:List Nat}{tr K j i kk:Nat}{k:V->H->Prop}{B E:Nat->Int}{b e:Int}{c:Bool}
theorem kS{d:Nat}{f:Int->Option V}:(G.cA d f).dct d=(f,false):=if_pos rfl
theorem uM{d d':Nat}{f:Int->Option V}(h:d'≠d):(G.cA d f).dct d'=G.dct d':=if_neg h
theorem Hm.mem(M:Hm G h st)(hm:∀i,i∈L↔∃k,k<h.n/\(st k).isSome=true/\h.nd k=i):∀i,i∈L->∃k,k<h.n/\h.nd k=i:=fun i hi=>by
 obtain⟨k,hk,_,q⟩:=(hm i).mp hi
 exact⟨k,hk,q⟩
theorem wH{a c i:Nat}{x:Option Nat}:(G.sQ a c i x).Q a c i=x:=lQ
theorem v9{a c i a' c' i':Nat}{x:Option Nat}(h:¬(c'=c/\i'=i)):(G.sQ a c i x).Q a' c' i'=G.Q a' c' i':=mR h
theorem a9{n a:Nat}{ρ:au}{x:Mine.E}{o v:V}(h1:(pv n).ev ρ G x=some o)(h2:fU G o a=some v):(pv (n+1)).ev ρ G (.attr x a)=some v:=by
 show oB ((pv n).ev ρ G x) (fun o=>fU G o a)=_
 rw[h1];exact h2
theorem aZ{n:Nat}{ρ:au}{x y:Mine.E}{o:Cm}{v w:V}{r:Bool}(h1:(pv n).ev ρ G x=some v)(h2:(pv n).ev ρ G y=some w)(h3:kg G o v w=some r):(pv (n+1)).ev ρ G (.cmp x o y)=some (.bool r):=by
 show oB ((pv n).ev ρ G x) (fun x=>oB ((pv n).ev ρ G y) fun y=>oB (kg G o x y) fun r=>some (V.bool r))=_
 rw[h1,h2]
 show oB (kg G o v w) _=_
 rw[h3];rfl
theorem Ds(M:Hm G h st)(hr:G.raw=[])(hk:kk<h.n)(hs:st kk=some (b,e))(hK:480<=K)(g:∀u G',Out h G G'->Hm G' h (tj st kk none)->k u G'):aD P K G 35 [.ref 108 (some (h.ov kk))] k:=by
 obtain⟨L,B,E,T,hm,hv⟩:=M.t
 have hL:=M.mem hm
 have hi:h.nd kk∈L:=(hm _).mpr ⟨kk,hk,by rw[hs];rfl,rfl⟩
 have q0:G.Q 106 108 (h.ov kk)=some h.hm:=by rw[M.oh kk hk,hs];rfl
 have r0:∀{G1:H},G1.Q 106 108 (h.ov kk)=some h.hm->fU G1 (.ref 108 (some (h.ov kk))) 106=some (.ref 156 (some h.hm)):=fun {G1} q=>by
  show some (V.ref 156 (G1.Q 106 108 (h.ov kk)))=_
  rw[q]
 refine av hK rfl EP rfl (aw hK rfl (b:=true) hr (aZ (a9 rfl (r0 q0)) rfl rfl) ?_)
 rw[bx]
 refine s_call hK rfl hr ?_ (tR T hr hi (ac hK rfl) fun u G1 F T1 L1 _ _=>?_)
 ·show oB (oB (fU G (.ref 108 (some (h.ov kk))) 106) fun o=>fU G o 77) (fun x=>oB (oB (some (V.ref 179 (some (G.N 65 108 (h.ov kk))))) fun y=>some [y]) fun y=>some (x::y))=_
  rw[r0 q0,M.on kk hk]
  show some [V.ref 180 (some (G.N 77 156 h.hm)),_]=_
  rw[M.tr]
 have n1:∀{c i},c≠179->¬(c=179/\i∈L):=fun p w=>p w.1
 have n2:∀{c i},c≠180->¬(c=180/\i=h.tr):=fun p w=>p w.1
 have q1:G1.Q 106 108 (h.ov kk)=some h.hm:=(F.Q _ _ _ (n1 (by decide)) (n2 (by decide))).trans q0
 have d1:(G1.dct h.od).1 kk=some (.ref 108 (some (h.ov kk))):=by
  rw[F.dct,M.d1 kk hk]
  unfold Ez
  rw[hs];rfl
 refine bE hK rfl (wr hK rfl F.raw (j:=h.od) (vs:=[.int kk]) (v:= .ref 108 (some (h.ov kk))) (h':=G1.cA h.od fun j=>if j=(kk:Int) then none else(G1.dct h.od).1 j) (a9 (a9 rfl (r0 q1)) ?_) rfl ?_ ?_ ?_)
 ·show some (V.dict (G1.N 107 156 h.hm))=_
  rw[F.N,M.od]
 ·show some [V.int (G1.I 97 108 (h.ov kk))]=_
  rw[F.I _ _ _ (n1 (by decide)) (n2 (by decide)),M.oi kk hk]
 ·show(if 1=cY then((G1.dct h.od).1 kk).map _ else none)=_
  rw[if_pos (show 1=cY from rfl),d1];rfl
 refine aX hK rfl F.raw (h':=(G1.cA h.od fun j=>if j=(kk:Int) then none else(G1.dct h.od).1 j).sQ 106 108 (h.ov kk) none) rfl rfl rfl (s_end hK rfl (az hK rfl (g _ _ ?_ ?_)))
 ·have o:=F.out hL
  refine⟨Ey (x:=none) o.raw,o.I,o.B,fun a c i p q r=>?_,o.N,o.F,o.ni,fun d p=>?_,o.nd,o.nl,o.lst⟩
  ·exact(v9 fun w=>r ⟨w.1,kk,hk,w.2.symm⟩).trans (o.Q a c i p q r)
  ·exact(uM p).trans (o.dct d p)
 ·have us:∀{k'},k'≠kk->tj st kk none k'=st k':=fun p=>if_neg p
  have ue:tj st kk none kk=none:=if_pos rfl
  have oq:∀{k'},k'<h.n->k'≠kk->(G1.sQ 106 108 (h.ov kk) none).Q 106 108 (h.ov k')=G1.Q 106 108 (h.ov k'):=fun hk' p=>v9 fun w=>p (M.ovI _ _ hk' hk w.2)
  have nk:∀{k':Nat},(k':Int)=kk->k'=kk:=fun q=>Int.ofNat.inj q
  refine⟨M.n4,by show G1.N _ _ _=_;rw[F.N];exact M.tr,by show G1.N _ _ _=_;rw[F.N];exact M.od,by show G1.N _ _ _=_;rw[F.N];exact M.rl,⟨by show G1.F _ _ _=_;rw[F.F];exact M.ru.nil,(F.I _ _ _ (n1 (by decide)) (n2 (by decide))).trans M.ru.ev,(F.I _ _ _ (n1 (by decide)) (n2 (by decide))).trans M.ru.cat⟩,M.ndI,M.ovI,⟨L.erase (h.nd kk),B,E,?_,fun i=>?_,fun k' hk' b' e' q=>?_⟩,
   fun k hk=>by show G1.N _ _ _=_;rw[F.N];exact M.on k hk,fun k hk=>(F.I _ _ _ (n1 (by decide)) (n2 (by decide))).trans (M.oi k hk),fun k' hk'=>?_,fun k hk=>by show G1.N _ _ _=_;rw[F.N];exact M.op k hk,
   fun k hk=>⟨ae (M.pl k hk).1 F.nl,(F.lst _ (M.pl k hk).1).trans (M.pl k hk).2⟩,fun k hk=>(F.I97 _).trans (M.ni k hk),fun k hk=>(F.B91 _).trans (M.nf k hk),fun k hk=>(F.B92 _).trans (M.nr k hk),fun k' hk'=>?_,fun j hj=>?_, .inr (congrArg Prod.snd kS)⟩
  ·obtain⟨nd,sh,id,Fz,m,hl,T1,hm1⟩:=T1
   have rt:(iH G1.Q 106 108 (h.ov kk) none) 79 180 h.tr=G1.Q 79 180 h.tr:=iw (by decide)
   have fld:∀{a i},a≠106->(iH G1.Q 106 108 (h.ov kk) none) a 179 i=G1.Q a 179 i:=fun p=>iw p
   exact⟨nd,sh,id,Fz,m,hl,⟨T1.mem,rt.trans T1.root,fun s hs=>(fld (by decide)).trans (T1.L s hs),fun s hs=>(fld (by decide)).trans (T1.R s hs),fun s hs=>(fld (by decide)).trans (T1.U s hs),T1.C,T1.fb,T1.fe,T1.fm,T1.fo,T1.fmm,T1.fem,T1.inj,T1.le,T1.ord⟩,hm1⟩
  ·rw[T.nd.mem_erase_iff,hm i]
   constructor
   ·intro ⟨p,k',hk',q,w⟩
    have ne:k'≠kk:=fun x=>p (by rw[←w,x])
    exact⟨k',hk',by rw[us ne];exact q,w⟩
   ·intro ⟨k',hk',q,w⟩
    have ne:k'≠kk:=fun x=>by rw[x,ue] at q;exact nomatch q
    exact⟨fun x=>ne (M.ndI _ _ hk' hk (w.trans x)),k',hk',by rw[us ne] at q;exact q,w⟩
  ·have ne:k'≠kk:=fun x=>by rw[x,ue] at q;exact nomatch q
   rw[us ne] at q
   exact hv k' hk' b' e' q
  ·by_cases p:k'=kk
   ·rw[p,ue];exact wH
   ·rw[us p]
    exact(oq hk' p).trans ((F.Q _ _ _ (n1 (by decide)) (n2 (by decide))).trans (M.oh k' hk'))
  ·show((G1.cA h.od _).dct h.od).1 _=_
   rw[kS]
   show(if _ then none else(G1.dct h.od).1 k')=_
   unfold Ez
   by_cases p:k'=kk
   ·rw[if_pos (by rw[p]),p,ue];rfl
   ·rw[if_neg fun q=>p (nk q),us p,F.dct];exact M.d1 k' hk'
  ·show((G1.cA h.od _).dct h.od).1 _=_
   rw[kS]
   show(if _ then none else(G1.dct h.od).1 j)=_
   rw[if_neg (hj kk hk),F.dct];exact M.d2 j hj
noncomputable abbrev nY(h:HR)(ks:List Nat):List V:=ks.map fun k=> .ref 108 (some (h.ov k))
theorem Fq{ks:List Nat}{j0:Nat}(M:Hm G h st)(hr:G.raw=[])(hj:j0<G.nl)(hl:G.lst j0=refs (ks.map h.nd))(hks:∀k,k∈ks->k<h.n/\(st k).isSome=true)(hn:ks.length<=4)(hK:200<=K)
  (g:k (.list G.nl) ((G.newL []).ax G.nl (nY h ks))):aD P K G 41 [.ref 156 (some h.hm), .list j0] k:=by
 refine av hK rfl L0 rfl (bJ hK rfl (di hK rfl (aq hK rfl hr rfl ?_)))
 refine dM (B:=120) (I:=fun j H=>H=(G.newL []).ax G.nl (nY h (ks.take j))) (fun j H e=>?_) (fun j w H K hw e hK nx hn'=>?_) (fun H e=>?_) (refs (ks.map h.nd)).length 0 _ _ rfl (dc (if_pos rfl)).symm (by rw[ai,ai];lia)
 ·refine ip ?_
  rw[e,a8 (aj hj),aU hj,hl]
 ·obtain⟨i,hi,rfl⟩:=gC hw
  rw[bO] at hi
  obtain⟨k0,hk0,rfl⟩:=ji hi
  obtain⟨hk1,hk2⟩:=hks k0 (List.mem_of_getElem? hk0)
  have hr':H.raw=[]:=e▸hr
  have dv:(G.dct h.od).1 k0=some (.ref 108 (some (h.ov k0))):=by
   rw[M.d1 k0 hk1]
   unfold Ez
   rcases q:st k0 with _|x
   ·rw[q] at hk2;exact nomatch hk2
   ·rfl
  refine cq (d:=0) hK rfl ?_
  rw[bx]
  refine aq (d:=0) hK rfl hr' (v:= .ref 108 (some (h.ov k0))) ?_ ⟨?_,?_⟩
  ·show eO H (.dict (H.N 107 156 h.hm)) (.int (H.I 97 179 (h.nd k0)))=_
   rw[e]
   show(G.dct (G.N 107 156 h.hm)).1 (G.I 97 179 (h.nd k0))=_
   rw[M.od,M.ni k0 hk1,dv]
  ·rw[e,aW,ai]
   exact Nat.lt_of_le_of_lt (af (List.length_take_le' _ _) hn) (by unfold eg;lia)
  ·rw[e,aW,cF]
   have:=hn' ((G.newL []).ax G.nl (nY h (ks.take (j+1)))) rfl
   rw[fE hk0,nY,List.map_append] at this
   exact this
 ·rw[e,ai,ai,List.take_length];exact g
end
section
variable{G G' G1:H}{h:HR}{st:eQ}{L:List Nat}{tr K j i d Bd:Nat}{k:V->H->Prop}{B E:Nat->Int}{mark b e x y z:Int}{c:Bool}{ρ:au}{xs:List V}
theorem te{a b c:Mine.E}(hK:Bd<=K)(hd:Nat.ble (d+31) Bd=true)(hr:G.raw=[])(pa:(pv 12).ev ρ G a=some (.int x))(pb:(pv 12).ev ρ G b=some (.int y))(pc:(pv 12).ev ρ G c=some (.int z))(g:k (.bool (decide (x<=y)&&decide (y<z))) G):aN P (K - d) ρ G (.cmp2 a .le b .lt c) k:=by
 rw[bc hK hd,tc]
 refine(a7 hr 12).ev (aI (eh hK hd)) pa ((a7 hr 12).ev (aI (eh hK hd)) pb ?_)
 show fork (decide (x<=y)) _ _
 rcases q:decide (x<=y) with _|_
 ·rw[q] at g;exact g
 ·rw[q] at g
  exact(a7 hr 12).ev (aI (eh hK hd)) pc g
theorem Hm.sJ(M:Hm G h st)(hr:G.raw=[]):Hm ((G.newL []).ax G.nl xs) h st:=by
 obtain⟨L,B,E,T,hm,hv⟩:=M.t
 exact M.tree (L:=L) ((TF.refl hr).newL.ax (ab _)) (M.mem hm) (fun _ _=>rfl) ⟨L,B,E,T.lists rfl rfl rfl,hm,hv⟩
theorem qb{p:Nat->Prop}{f:Nat->Nat}:∀{rs:List Nat},(∀i,i∈rs->∃k,p k/\f k=i)->∃ks:List Nat,rs=ks.map f/\∀k,k∈ks->p k
 |[],_=>⟨[],rfl,fun _ q=>nomatch q⟩
 |i::rs,q=>by
  obtain⟨k,h1,h2⟩:=q i bN
  obtain⟨ks,h3,h4⟩:=qb fun i hi=>q i (cH _ hi)
  exact⟨k::ks,by rw[List.map_cons,←h3,h2],fun k' hk=>(List.mem_cons.mp hk).elim (fun e=>e▸h1) (h4 k')⟩
theorem pW{f:Nat->Nat}{ks:List Nat}(q:(ks.map f).Nodup):ks.Nodup:=(List.pairwise_map.mp q).imp fun h e=>h (congrArg f e)
theorem Hm.keys{rs:List Nat}(M:Hm G h st)(hm:∀i,i∈L↔∃k,k<h.n/\(st k).isSome=true/\h.nd k=i)(hr:∀i,i∈rs->i∈L):∃ks:List Nat,rs=ks.map h.nd/\∀k,k∈ks->k<h.n/\(st k).isSome=true:=
 qb fun i hi=>by
  obtain⟨k,h1,h2,h3⟩:=(hm i).mp (hr i hi)
  exact⟨k,⟨h1,h2⟩,h3⟩
theorem zq{p:Nat->Bool}(q:p i=true):[i].filter p=[i]:=by rw[List.filter_cons_of_pos q];rfl
theorem zG{p:Nat->Bool}(q:p i=false):[i].filter p=[]:=by rw[List.filter_cons_of_neg (by rw[q];exact nofun)];rfl
theorem Lr:P.fn 42=some OK:=by kernel_rfl
theorem KO:P.fn 43=some NR:=by kernel_rfl
theorem uL{o:Option (Int×Int)}(q:o.isSome=true):∃b e,o=some (b,e):=by
 rcases o with _|p
 ·exact nomatch q
 ·exact⟨p.1,p.2,rfl⟩
theorem JD(M:Hm G h st)(hr:G.raw=[])(hK:500<=K)
  (g:∀(j:Nat) (ks:List Nat) (G':H),Out h G G'->Hm G' h st->G.nl<=j->j<G'.nl->G'.lst j=nY h ks->ks.Nodup->(∀k,k∈ks↔k<h.n/\∃b e,st k=some (b,e)/\b<=mark/\mark<e)->k (.list j) G'):aD P K G 42 [.ref 156 (some h.hm), .int mark] k:=by
 obtain⟨L,B,E,T,hm,hv⟩:=M.t
 refine av hK rfl Lr rfl (bJ hK rfl (kX hK rfl (aA hK rfl (aq hK rfl hr rfl (aA hK rfl (di hK rfl (aV hK rfl hr (vs:=[.ref 180 (some h.tr), .int mark, .int mark]) ?_ (Dq T hr (ac hK rfl) fun j0 rs G1 F1 T1 h1 h2 h3 nd h4 h5=>?_))))))))
 ·show some [V.ref 180 (some (G.N 77 156 h.hm)),_,_]=_
  rw[M.tr]
 have M1:Hm G1 h st:=M.tree F1 (M.mem hm) (fun _ _=>rfl) ⟨L,B,E,T1,hm,hv⟩
 have O1:=F1.out (M.mem hm)
 have hr1:=F1.raw
 have l4:rs.length<=4:=af (nd.length_le_of_subset fun x hx=>((h4 x).mp hx).1) (M.len T.nd hm)
 refine dM (B:=150) (I:=fun j H=>H=(G1.newL []).ax G1.nl (refs ((rs.take j).filter fun i=>decide (B i<=mark)&&decide (mark<E i)))) (fun j H e=>?_) (fun j w H K hw e hK nx hn'=>?_) (fun H e=>?_) (refs rs).length 0 _ _ rfl (dc (if_pos rfl)).symm (by rw[ai];exact af (by lia) (ac (n:=160) hK rfl))
 ·refine ip ?_
  rw[e,a8 (aj h2),aU h2,h3]
 ·obtain⟨i,hi,rfl⟩:=gC hw
  have hr':H.raw=[]:=e▸hr1
  have f:=h5 i (List.mem_of_getElem? hi)
  refine bK (d:=0) hK rfl (rj hK rfl rfl (te (x:=B i) (z:=E i) hK rfl hr' ?_ rfl ?_ ?_))
  ·show some (V.int (H.I 67 179 i))=_
   rw[e,←f.1];rfl
  ·show some (V.int (H.I 68 179 i))=_
   rw[e,←f.2];rfl
  have nx':=hn' ((G1.newL []).ax G1.nl (refs ((rs.take (j+1)).filter fun i=>decide (B i<=mark)&&decide (mark<E i)))) rfl
  rw[fE hi,List.filter_append] at nx'
  show Mine.same (decide (B i<=mark)&&decide (mark<E i)) true _ _
  rcases q:decide (B i<=mark)&&decide (mark<E i) with _|_
  ·rw[zG (p:=fun i=>decide (B i<=mark)&&decide (mark<E i)) q,List.append_nil] at nx'
   rw[e];exact nx'
  ·rw[zq (p:=fun i=>decide (B i<=mark)&&decide (mark<E i)) q] at nx'
   refine cq hK rfl ?_
   rw[bx]
   refine aq (d:=0) hK rfl hr' rfl ⟨?_,?_⟩
   ·rw[e,aW,ai]
    exact Nat.lt_of_le_of_lt (af (List.length_filter_le _ _) (af (List.length_take_le' _ _) l4)) (by unfold eg;lia)
   ·rw[e,aW,cF]
    rw[refs,List.map_append] at nx'
    exact nx'
 ·rw[ai,List.take_length] at e
  obtain⟨ks,e1,e2⟩:=M.keys (rs:=rs.filter fun i=>decide (B i<=mark)&&decide (mark<E i)) hm fun i hi=>((h4 i).mp (List.mem_filter.mp hi).1).1
  have nd':=nd.filter fun i=>decide (B i<=mark)&&decide (mark<E i)
  have l4':=af (List.length_filter_le (fun i=>decide (B i<=mark)&&decide (mark<E i)) rs) l4
  have mem:∀i,i∈rs.filter (fun i=>decide (B i<=mark)&&decide (mark<E i))↔i∈L/\B i<=mark/\mark<E i:=fun i=>by
   rw[List.mem_filter,Bool.and_eq_true,decide_eq_true_iff,decide_eq_true_iff,h4 i]
   exact⟨fun w=>⟨w.1.1,w.2⟩,fun w=>⟨⟨w.1,w.2.1,ba w.2.2⟩,w.2⟩⟩
  rw[e1] at nd' e l4' mem
  rw[ai] at l4'
  have M2:=M1.sJ (xs:=refs (ks.map h.nd)) hr1
  rw[←e] at M2
  have hr2:H.raw=[]:=e▸hr1
  have O2:Out h G H:=by rw[e];exact O1.newL.ax O1.nl
  have hnl:H.nl=G1.nl+1:=by rw[e];rfl
  refine bz hK rfl (Fq (j0:=G1.nl) (ks:=ks) M2 hr2 (by rw[hnl];exact aE _) (by rw[e,aW]) e2 l4' (ac hK rfl) (g _ ks _ (O2.newL.ax O2.nl) (M2.sJ hr2) O2.nl (aE _) aW (pW nd') fun k'=>?_))
  constructor
  ·intro hk
   obtain⟨h6,h7⟩:=e2 k' hk
   obtain⟨b,e',q⟩:=uL h7
   obtain⟨_,h8,h9⟩:=(mem _).mp (List.mem_map_of_mem hk)
   obtain⟨v1,v2⟩:=hv k' h6 b e' q
   exact⟨h6,b,e',q,v1▸h8,v2▸h9⟩
  ·intro ⟨h6,b,e',q,h8,h9⟩
   obtain⟨v1,v2⟩:=hv k' h6 b e' q
   have:=(mem (h.nd k')).mpr ⟨(hm _).mpr ⟨k',h6,by rw[q];rfl,rfl⟩,v1.symm▸h8,v2.symm▸h9⟩
   obtain⟨k2,h10,h11⟩:=List.mem_map.mp this
   exact M.ndI _ _ (e2 k2 h10).1 h6 h11▸h10
end
section
variable{G G' G1:H}{h:HR}{st st':eQ}{L:List Nat}{tr K j i kk d:Nat}{k:V->H->Prop}{B E:Nat->Int}{mark many b e x y z:Int}{c:Bool}{ρ:au}
theorem Hm.congr(M:Hm G h st)(q:∀k,k<h.n->st k=st' k):Hm G h st':=by
 obtain⟨L,B,E,T,hm,hv⟩:=M.t
 refine⟨M.n4,M.tr,M.od,M.rl,M.ru,M.ndI,M.ovI,⟨L,B,E,T,fun i=>(hm i).trans ⟨fun⟨k,h1,h2,h3⟩=>⟨k,h1,q k h1▸h2,h3⟩,fun⟨k,h1,h2,h3⟩=>⟨k,h1,(q k h1).symm▸h2,h3⟩⟩,fun k hk b e w=>hv k hk b e ((q k hk).trans w)⟩,M.on,M.oi,fun k hk=>q k hk▸M.oh k hk,M.op,M.pl,M.ni,M.nf,M.nr,fun k hk=>?_,M.d2,M.d3⟩
 rw[M.d1 k hk]
 unfold Ez
 rw[q k hk]
theorem Tr.diff(T:Tr G tr L B E)(hi:i∈L):∃z,G.I 67 179 i=B i - z/\G.I 68 179 i=E i - z:=by
 obtain⟨_,sh,id,F,m,_,T,hm⟩:=T
 obtain⟨s,hs,e⟩:=(hm i).mp hi
 exact⟨F s,e▸T.fb s hs,e▸T.fe s hs⟩
noncomputable def xy(h:HR)(mark many:Int)(st:eQ):eQ:=fun k=>match st k with
 |none=>none
 |some (b,e)=>if cP mark many b=cP mark many e/\cP mark many b=mark/\h.s k=true then none else some (cP mark many b,cP mark many e)
noncomputable def rV(mark many:Int)(st:eQ):eQ:=fun k=>(st k).map fun p=>(cP mark many p.1,cP mark many p.2)
noncomputable def dead(h:HR)(st:eQ)(ks:List Nat):eQ:=fun k=>match st k with
 |none=>none
 |some (b,e)=>if k∈ks/\b=e/\h.s k=true then none else some (b,e)
theorem vy{ks:List Nat}(hn:kk∉ks):dead h st ks kk=st kk:=by
 unfold dead
 rcases q:st kk with _|p
 ·rfl
 ·exact if_neg fun w=>hn w.1
theorem u5{ks:List Nat}{k':Nat}(hs:st kk=some (b,e)):dead h st (ks++[kk]) k'=if k'=kk/\b=e/\h.s kk=true then none else dead h st ks k':=by
 unfold dead
 rcases q:st k' with _|p
 ·by_cases p:k'=kk/\b=e/\h.s kk=true
  ·rw[if_pos p]
  ·rw[if_neg p]
 ·obtain⟨b',e'⟩:=p
  dsimp only
  have im:k'∈ks++[kk]↔k'∈ks\/k'=kk:=by rw[List.mem_append,List.mem_singleton]
  by_cases p:k'=kk
  ·rw[p,hs] at q
   cases q
   by_cases w:b=e/\h.s kk=true
   ·rw[if_pos ⟨im.mpr (.inr p),w.1,by rw[p];exact w.2⟩,if_pos ⟨p,w⟩]
   ·rw[if_neg (fun v=>w ⟨v.2.1,by rw[←p];exact v.2.2⟩),if_neg (fun v=>w v.2),if_neg (fun v=>w ⟨v.2.1,by rw[←p];exact v.2.2⟩)]
  ·rw[if_neg (c:=k'=kk/\b=e/\h.s kk=true) (fun v=>p v.1)]
   by_cases w:k'∈ks/\b'=e'/\h.s k'=true
   ·rw[if_pos w,if_pos ⟨im.mpr (.inl w.1),w.2⟩]
   ·rw[if_neg w,if_neg fun v=>w ⟨(im.mp v.1).resolve_right p,v.2⟩]
theorem DK(M:Hm G h st)(hr:G.raw=[])(hp:0<many)(hK:700<=K)(g:∀u G',Out h G G'->Hm G' h (xy h mark many st)->k u G'):aD P K G 43 [.ref 156 (some h.hm), .int mark, .int many] k:=by
 obtain⟨L,B,E,T,hm,hv⟩:=M.t
 refine av hK rfl KO rfl (aw hK rfl hr rfl (cg (fun q=>absurd (ao q) (Int.not_le.mpr hp)) fun _=>s_end hK rfl ?_))
 have tv:∀{G:H},G.N 77 156 h.hm=h.tr->(pv 12).evs (fun x=>([106,89,93].zip [V.ref 156 (some h.hm),V.int mark,V.int many]).lookup x) G [.attr (.var 106) 77, .var 89, .var 93]=some [.ref 180 (some h.tr), .int mark, .int many]/\(pv 12).evs (fun x=>([106,89,93].zip [V.ref 156 (some h.hm),V.int mark,V.int many]).lookup x) G [.attr (.var 106) 77, .var 89, .var 89]=some [.ref 180 (some h.tr), .int mark, .int mark]:=fun {G} q=>by
  constructor
  ·show some [V.ref 180 (some (G.N 77 156 h.hm)),_,_]=_
   rw[q]
  ·show some [V.ref 180 (some (G.N 77 156 h.hm)),_,_]=_
   rw[q]
 refine s_call hK rfl hr (tv M.tr).1 (Js T hr hp (ac hK rfl) fun u G1 F1 T1=>?_)
 have cs:∀k,k<h.n->(rV mark many st k).isSome=(st k).isSome:=fun k _=>by
  unfold rV
  cases st k<;>rfl
 have hm1:∀i,i∈L↔∃k,k<h.n/\(rV mark many st k).isSome=true/\h.nd k=i:=fun i=>(hm i).trans ⟨fun⟨k,h1,h2,h3⟩=>⟨k,h1,(cs k h1).trans h2,h3⟩,fun⟨k,h1,h2,h3⟩=>⟨k,h1,(cs k h1).symm.trans h2,h3⟩⟩
 have hv1:∀k,k<h.n->∀b e,rV mark many st k=some (b,e)->cP mark many (B (h.nd k))=b/\cP mark many (E (h.nd k))=e:=fun k hk b e q=>by
  unfold rV at q
  obtain⟨p,h1,h2⟩:=ji q
  obtain⟨v1,v2⟩:=hv k hk p.1 p.2 h1
  rw[v1,v2]
  exact⟨congrArg Prod.fst h2,congrArg Prod.snd h2⟩
 have M1:Hm G1 h (rV mark many st):=M.tree F1 (M.mem hm) cs ⟨L,_,_,T1,hm1,hv1⟩
 refine eW hK rfl (kX hK rfl (aA hK rfl (aq hK rfl F1.raw rfl (aA hK rfl (aV hK rfl F1.raw (tv M1.tr).2 (Dq T1 F1.raw (ac hK rfl) fun j0 rs G2 F2 T2 h1 h2 h3 nd h4 _=>?_))))))
 have M2:Hm G2 h (rV mark many st):=M1.tree F2 (M1.mem hm1) (fun _ _=>rfl) ⟨L,_,_,T2,hm1,hv1⟩
 have O2:Out h G G2:=(F1.out (M.mem hm)).trans (F2.out (M1.mem hm1))
 obtain⟨ks,e1,e2⟩:=M2.keys (rs:=rs) hm1 fun i hi=>((h4 i).mp hi).1
 have l4:rs.length<=4:=af (nd.length_le_of_subset fun x hx=>((h4 x).mp hx).1) (M.len T.nd hm)
 subst e1
 have ndk:=pW nd
 rw[ai] at l4
 refine bz hK rfl (Fq M2 F2.raw h2 h3 e2 l4 (ac hK rfl) ?_)
 have O3:Out h G ((G2.newL []).ax G2.nl (nY h ks)):=O2.newL.ax O2.nl
 have M3:Hm ((G2.newL []).ax G2.nl (nY h ks)) h (rV mark many st):=M2.sJ F2.raw
 have L3:((G2.newL []).ax G2.nl (nY h ks)).lst G2.nl=nY h ks:=aW
 have N3:G2.nl<((G2.newL []).ax G2.nl (nY h ks)).nl:=aE _
 generalize (G2.newL []).ax G2.nl (nY h ks)=G3 at*
 refine kD (B:=560) (I:=fun j ρ' H'=>(∀y,y≠105->ρ' y=(fun x=>([106,89,93].zip [V.ref 156 (some h.hm),V.int mark,V.int many]).lookup x) y)/\Out h G H'/\Hm H' h (dead h (rV mark many st) (ks.take j))/\H'.lst G2.nl=nY h ks/\G2.nl<H'.nl) (fun j ρ H w=>ip w.2.2.2.1) (fun j w ρ' H' K hw hI hK nx hnx=>?_) (fun ρ' H' hI=>?_) (nY h ks).length 0 _ G3 _ rfl ⟨fun _ _=>rfl,O3,M3.congr fun k _=>(vy (fun q=>by rw[List.take_zero] at q;exact nomatch q)).symm,L3,N3⟩ (by rw[ai];exact af (by lia) (ac (n:=600) hK rfl))
 ·obtain⟨hρ,O,M',hl,hn⟩:=hI
  rw[bO] at hw
  obtain⟨k0,hk0,rfl⟩:=ji hw
  obtain⟨hk1,hk2⟩:=e2 k0 (List.mem_of_getElem? hk0)
  obtain⟨hlt,hget⟩:=List.getElem?_eq_some_iff.mp hk0
  have hko:k0∉ks.take j:=fun q=>by
   obtain⟨n,hn,w⟩:=List.getElem_of_mem q
   rw[List.length_take] at hn
   rw[List.getElem_take,←hget] at w
   exact(List.pairwise_iff_getElem.mp ndk) n j (by lia) hlt (by lia) w
  obtain⟨b,e,hs⟩:=uL hk2
  have hd:dead h (rV mark many st) (ks.take j) k0=some (b,e):=(vy hko).trans hs
  have hr':=O.raw
  have r106:upd ρ' 105 (.ref 108 (some (h.ov k0))) 106=some (.ref 156 (some h.hm)):=(hρ 106 (by decide)).trans rfl
  have r105:upd ρ' 105 (.ref 108 (some (h.ov k0))) 105=some (.ref 108 (some (h.ov k0))):=rfl
  have hρ':∀y,y≠105->upd ρ' 105 (.ref 108 (some (h.ov k0))) y=(fun x=>([106,89,93].zip [V.ref 156 (some h.hm),V.int mark,V.int many]).lookup x) y:=fun y hy=>(ek hy).trans (hρ y hy)
  generalize upd ρ' 105 (.ref 108 (some (h.ov k0)))=ρ2 at*
  obtain⟨L',B',E',T',hm',hv'⟩:=M'.t
  obtain⟨z,z1,z2⟩:=T'.diff ((hm' _).mpr ⟨k0,hk1,by rw[hd];rfl,rfl⟩)
  obtain⟨v1,v2⟩:=hv' k0 hk1 b e hd
  have rd:∀{n a x},P.ty 179 a=some .int->H'.I a 179 (h.nd k0)=x->(pv (n+3)).ev ρ2 H' (.attr (.attr (.var 105) 65) a)=some (.int x):=fun {n a x} t q=>a9 (a9 r105 (by show some (V.ref 179 (some (H'.N 65 108 (h.ov k0))))=_;rw[M'.on k0 hk1])) (by show oB (P.ty 179 a) (xD H' a 179 (h.nd k0))=_;rw[t];show some (V.int (H'.I a 179 (h.nd k0)))=_;rw[q])
  have eq1:(pv 12).ev ρ2 H' (.cmp (.attr (.attr (.var 105) 65) 67) .eq (.attr (.attr (.var 105) 65) 68))=some (.bool (decide (b - z=e - z))):=aZ (rd xJ (z1.trans (by rw[v1]))) (rd yw (z2.trans (by rw[v2]))) rfl
  have next:∀H2:H,Out h G H2->Hm H2 h (dead h (rV mark many st) (ks.take (j+1)))->H2.lst G2.nl=nY h ks->G2.nl<H2.nl->nx ρ2 H2:=fun H2 o m l n=>hnx _ _ ⟨hρ',o,m,l,n⟩
  have keep:¬(b=e/\h.s k0=true)->nx ρ2 H':=fun q=>next H' O (M'.congr fun k' _=>by rw[fE hk0,u5 hs,if_neg fun w=>q w.2]) hl hn
  refine cv (d:=0) hK rfl (gI hK rfl (bK hK rfl (fM hK rfl hr' eq1 ?_)))
  by_cases q:b=e
  ·rw[q,aK rfl]
   refine bK hK rfl (rj hK rfl rfl (aV hK rfl hr' ?_ (nP M'.ru (ac hK rfl) hr' (M'.op k0 hk1) (M'.pl k0 hk1).2 ?_)))
   ·show oB (oB (ρ2 106) fun o=>fU H' o 99) (fun x=>oB (oB (ρ2 105) fun y=>some [y]) fun y=>some (x::y))=_
    rw[r106,r105]
    show some [V.ref 152 (some (H'.N 99 156 h.hm)),_]=_
    rw[M'.rl]
   ·show Mine.same (h.s k0) true _ _
    rcases w:h.s k0 with _|_
    ·exact s_end hK rfl (az hK rfl (keep fun v=>Bool.noConfusion (w.symm.trans v.2)))
    ·refine cq hK rfl ?_
     rw[bx]
     refine s_call hK rfl hr' (wG r105) (Ds M' hr' hk1 hd (ac hK rfl) fun u H2 O' M''=>s_end hK rfl (az hK rfl (next H2 (O.trans O') (M''.congr fun k' _=>?_) ((O'.lst _ hn).trans hl) (ae hn O'.nl))))
     rw[fE hk0,u5 hs]
     unfold tj
     by_cases p:k'=k0
     ·rw[if_pos p,if_pos ⟨p,q,w⟩]
     ·rw[if_neg p,if_neg fun v=>p v.1]
  ·rw[bB (by lia)]
   exact s_end hK rfl (az hK rfl (keep fun v=>q v.1))
 ·obtain⟨_,O,M',_,_⟩:=hI
  refine az hK rfl (g _ H' O (M'.congr fun k' hk'=>?_))
  rw[ai,List.take_length]
  unfold dead xy rV
  rcases q:st k' with _|p
  ·rfl
  ·obtain⟨b,e⟩:=p
   have iff:(k'∈ks/\cP mark many b=cP mark many e/\h.s k'=true)↔(cP mark many b=cP mark many e/\cP mark many b=mark/\h.s k'=true):=by
    have i1:=h4 (h.nd k')
    obtain⟨v1,v2⟩:=hv k' hk' b e q
    rw[v1,v2] at i1
    have i2:k'∈ks↔h.nd k'∈ks.map h.nd:=⟨List.mem_map_of_mem,fun w=>by obtain⟨k2,h10,h11⟩:=List.mem_map.mp w;exact M.ndI _ _ (e2 k2 h10).1 hk' h11▸h10⟩
    rw[i2,i1]
    constructor
    ·intro ⟨⟨_,w1,w2⟩,w3,w4⟩
     exact⟨w3,Int.le_antisymm w1 (w3▸w2),w4⟩
    ·intro ⟨w1,w2,w3⟩
     exact⟨⟨(hm _).mpr ⟨k',hk',by rw[q];rfl,rfl⟩,Int.le_of_eq w2,w1▸Int.le_of_eq w2.symm⟩,w1,w3⟩
   show(if _ then none else some (cP mark many b,cP mark many e))=if _ then none else some (cP mark many b,cP mark many e)
   by_cases w:cP mark many b=cP mark many e/\cP mark many b=mark/\h.s k'=true
   ·rw[if_pos w,if_pos (iff.mpr w)]
   ·rw[if_neg w,if_neg fun v=>w (iff.mp v)]
end
section
variable{G G' G1:H}{h:HR}{st:eQ}{L:List Nat}{tr K i:Nat}{k:V->H->Prop}{B E:Nat->Int}{mark many b e x:Int}{c:Bool}
theorem C9:P.fn 1006=some Ad:=by kernel_rfl
theorem BU:P.fn 1007=some Av:=by kernel_rfl
noncomputable def vr(h:HR)(mark many:Int)(c:Bool)(st:eQ):eQ:=fun k=>(st k).map fun p=>(xR mark many (led (h.f k) (h.r k) c p.1 p.2) p.1,rO mark many (c||h.r k) p.2)
theorem C2(M:Hm G h st)(hr:G.raw=[])(hp:0<many)(hK:740<=K)(g:∀u G',Out h G G'->Hm G' h (vr h mark many c st)->k u G'):aD P K G 1006 [.ref 156 (some h.hm), .int mark, .int many, .bool c] k:=by
 obtain⟨L,B,E,T,hm,hv⟩:=M.t
 refine av hK rfl C9 rfl (s_call hK rfl hr (vs:=[.ref 180 (some h.tr), .int mark, .int many, .bool c]) ?_ (DT T hr (M.len T.nd hm) hp (ac hK rfl) fun u G1 F1 T1=>az hK rfl (g _ G1 (F1.out (M.mem hm)) (M.tree F1 (M.mem hm) (fun k _=>by unfold vr;cases st k<;>rfl) ⟨L,_,_,T1,fun i=>(hm i).trans ?_,fun k hk b e q=>?_⟩))))
 ·show some [V.ref 180 (some (G.N 77 156 h.hm)),_,_,_]=_
  rw[M.tr]
 ·have q:∀k,(vr h mark many c st k).isSome=(st k).isSome:=fun k=>by unfold vr;cases st k<;>rfl
  exact⟨fun⟨k,h1,h2,h3⟩=>⟨k,h1,(q k).trans h2,h3⟩,fun⟨k,h1,h2,h3⟩=>⟨k,h1,(q k).symm.trans h2,h3⟩⟩
 ·unfold vr at q
  obtain⟨p,h1,h2⟩:=ji q
  obtain⟨v1,v2⟩:=hv k hk p.1 p.2 h1
  rw[M.nf k hk,M.nr k hk,v1,v2]
  exact⟨congrArg Prod.fst h2,congrArg Prod.snd h2⟩
theorem Cq(M:Hm G h st)(hr:G.raw=[])(hp:mark<x)(hK:740<=K)(g:∀u G',Out h G G'->Hm G' h (xy h mark (x - mark) st)->k u G'):aD P K G 1007 [.ref 156 (some h.hm), .int mark, .int x] k:=
 av hK rfl BU rfl (s_call hK rfl hr (vs:=[.ref 156 (some h.hm), .int mark, .int (x - mark)]) rfl (DK M hr (by lia) (ac hK rfl) fun u G1 O M'=>az hK rfl (g _ G1 O M')))
end
structure Gp(G:H)(tx ce:Nat)(gs ge:Int)(n:Nat):Prop where
 raw:G.raw=[]
 fce:G.N 189 192 tx=ce
 fgs:G.I 190 192 tx=gs
 fge:G.I 191 192 tx=ge
 frm:G.I 188 192 tx=8
 len:(G.lst ce).length=n
 lt:ce<G.nl
 h0:0<=gs
 h1:gs<=ge
 h2:ge<=n
 h3:n<=5000
structure TB(tx ce:Nat)(G G':H):Prop where
 raw:G'.raw=[]
 I:∀a c i,¬(c=192/\i=tx)->G'.I a c i=G.I a c i
 B:G'.B=G.B
 Q:G'.Q=G.Q
 N:G'.N=G.N
 F:G'.F=G.F
 ni:G'.ni=G.ni
 dct:G'.dct=G.dct
 nd:G'.nd=G.nd
 nl:G.nl<=G'.nl
 lst:∀j,j<G.nl->j≠ce->G'.lst j=G.lst j
section
variable{G G' G1:H}{tx ce K n m a:Nat}{k:V->H->Prop}{gs ge at_ e x y:Int}{xs:List V}{ρ:au}
theorem TB.refl(hr:G.raw=[]):TB tx ce G G:=⟨hr,fun _ _ _ _=>rfl,rfl,rfl,rfl,rfl,rfl,rfl,rfl,ab _,fun _ _ _=>rfl⟩
theorem TB.trans{G'':H}(p:TB tx ce G G')(q:TB tx ce G' G''):TB tx ce G G'':=
 ⟨q.raw,fun a c i w=>(q.I a c i w).trans (p.I a c i w),q.B.trans p.B,q.Q.trans p.Q,q.N.trans p.N,q.F.trans p.F,q.ni.trans p.ni,q.dct.trans p.dct,q.nd.trans p.nd,af p.nl q.nl,fun j w v=>(q.lst j (ae w p.nl) v).trans (p.lst j w v)⟩
theorem TB.wI(p:TB tx ce G G1):TB tx ce G (G1.sI a 192 tx x):=
 ⟨gQ p.raw,fun b c i w=>(fw w).trans (p.I b c i w),p.B,p.Q,p.N,p.F,p.ni,p.dct,p.nd,p.nl,p.lst⟩
theorem TB.newL(p:TB tx ce G G1):TB tx ce G (G1.newL xs):=
 ⟨p.raw,p.I,p.B,p.Q,p.N,p.F,p.ni,p.dct,p.nd,aL p.nl,fun j w v=>(aU (ae w p.nl)).trans (p.lst j w v)⟩
theorem TB.setC(p:TB tx ce G G1):TB tx ce G (G1.ax ce xs):=
 ⟨p.raw,p.I,p.B,p.Q,p.N,p.F,p.ni,p.dct,p.nd,p.nl,fun j w v=>(a8 v).trans (p.lst j w v)⟩
theorem dA(h1:0<=x)(h2:x<=100000):small x=true:=by
 unfold small
 rw[aK (show -(2 ^ 40)<x by lia),aK (show x<2 ^ 40 by lia)];rfl
theorem mK{dd:Nat}(h1:0<=x)(h2:x<=100000):cutAt n (.int x) dd=some (if x>n then n else x.toNat):=by
 show(if small x then some (if x<0 then _ else if x>n then n else x.toNat) else none)=_
 rw[if_pos (dA h1 h2),if_neg (Int.not_lt.mpr h1)]
theorem aP{n:Nat}{ρ:au}{x y:Mine.E}{o:Op}{a b c:Int}(h1:(pv n).ev ρ G x=some (.int a))(h2:(pv n).ev ρ G y=some (.int b))(h3:oo o a b=some c):(pv (n+1)).ev ρ G (.bop o x y)=some (.int c):=by
 show oB ((pv n).ev ρ G x) (fun x=>oB ((pv n).ev ρ G y) fun y=>Cr o x y)=_
 rw[h1,h2]
 show oB (oo o a b) _=_
 rw[h3];rfl
theorem dz{n:Nat}{ρ:au}{x:Mine.E}{j:Nat}{z:Int}(h1:(pv (n+1)).ev ρ G x=some (.list j))(h2:((G.lst j).length:Int)=z):(pv (n+3)).ev ρ G (.blt .len [x])=some (.int z):=by
 show oB (oB ((pv (n+1)).ev ρ G x) fun v=>some [v]) (fun vs=>ny G .len vs)=_
 rw[h1,←h2];rfl
theorem mU{lo hi:Int}{j:Nat}(h1:0<=lo)(h2:lo<=hi)(h3:hi<=(G.lst j).length)(h4:hi<=100000):∃xs:List V,m5 G (.list j) (.int lo) (.int hi)=some (.list G.nl,G.newL xs)/\(xs.length:Int)=hi - lo:=by
 refine⟨((G.lst j).drop lo.toNat).take (hi.toNat - lo.toNat),?_,?_⟩
 ·show((cutAt (G.lst j).length (.int lo) 0).bind fun a=>(cutAt (G.lst j).length (.int hi) (G.lst j).length).bind fun b=>some (V.list G.nl,G.newL (((G.lst j).drop a).take (b - a))))=_
  rw[mK h1 (ak h2 h4),mK (ak h1 h2) h4,if_neg (Int.not_lt.mpr h3),if_neg (Int.not_lt.mpr (ak h2 h3))];rfl
 ·obtain⟨a,e⟩:=Int.eq_ofNat_of_zero_le h1
  obtain⟨b,e2⟩:=Int.eq_ofNat_of_zero_le (ak h1 h2)
  subst e e2
  exact(congrArg Nat.cast (List.length_take_of_le (List.length_drop▸Nat.sub_le_sub_right (Int.ofNat_le.mp h3) a))).trans (Int.ofNat_sub (Int.ofNat_le.mp h2))
theorem uI{lo hi:Int}{j jv:Nat}(h1:0<=lo)(h2:lo<=hi)(h3:hi<=(G.lst j).length)(h4:hi<=100000)(hne:j≠jv)(hs:(G.lst j).length+(G.lst jv).length<100000):∃xs:List V,td G (.list j) (.int lo) (.int hi) (.list jv)=some (G.ax j xs)/\(xs.length:Int)=(G.lst j).length - (hi - lo)+(G.lst jv).length:=by
 refine⟨(G.lst j).take lo.toNat++G.lst jv++(G.lst j).drop (max lo.toNat hi.toNat),?_,?_⟩
 ·show(if j≠jv/\(G.lst j).length+(G.lst jv).length<eg then((cutAt (G.lst j).length (.int lo) 0).bind fun a=>(cutAt (G.lst j).length (.int hi) (G.lst j).length).bind fun b=>some (G.ax j ((G.lst j).take a++G.lst jv++(G.lst j).drop (max a b)))) else none)=_
  rw[if_pos ⟨hne,hs⟩,mK h1 (ak h2 h4),mK (ak h1 h2) h4,if_neg (Int.not_lt.mpr h3),if_neg (Int.not_lt.mpr (ak h2 h3))];rfl
 ·obtain⟨a,e⟩:=Int.eq_ofNat_of_zero_le h1
  obtain⟨b,e2⟩:=Int.eq_ofNat_of_zero_le (ak h1 h2)
  subst e e2
  have h2:=Int.ofNat_le.mp h2
  have h3:=Int.ofNat_le.mp h3
  show((_:List V).length:Int)=_
  rw[List.length_append,List.length_append,List.length_drop,show max (a:Int).toNat (b:Int).toNat=b from Nat.max_eq_right h2,show(List.take (a:Int).toNat (G.lst j)).length=a from List.length_take_of_le (af h2 h3)]
  generalize (G.lst j).length=l at*
  clear hs h4 hne h1
  lia
theorem A3:P.fn 1010=some zm:=by kernel_rfl
theorem Eg:P.fn 1011=some zJ:=by kernel_rfl
theorem CR:P.fn 1012=some zR:=by kernel_rfl
theorem DO:P.fn 1013=some y7:=by kernel_rfl
theorem AQ:P.fn 1014=some Ac:=by kernel_rfl
theorem Ej:P.fn 1009=some Aj:=by kernel_rfl
theorem yP(T:Gp G tx ce gs ge n)(hK:60<=K)(g:k (.int (n - ge+gs)) G):aD P K G 1009 [.ref 192 (some tx)] k:=by
 refine av hK rfl Ej rfl (bg hK rfl T.raw rfl ?_)
 rw[T.fce,T.fgs,T.fge,T.len];exact g
theorem gD{j:Nat}(h:j<G.nl):((G.newL xs).lst j).length=(G.lst j).length:=by rw[aU h]
theorem Gp.copy(T:Gp G tx ce gs ge n){lo hi p q:Int}(h1:0<=lo)(h2:lo<=hi)(h3:hi<=n)(h4:0<=p)(h5:q - p=hi - lo)(h6:q<=n):
  ∃xs ys:List V,m5 G (.list ce) (.int lo) (.int hi)=some (.list G.nl,G.newL xs)/\(xs.length:Int)=hi - lo/\td (G.newL xs) (.list ce) (.int p) (.int q) (.list G.nl)=some ((G.newL xs).ax ce ys)/\Gp ((G.newL xs).ax ce ys) tx ce gs ge n/\TB tx ce G ((G.newL xs).ax ce ys):=by
 have t3:=T.h3
 obtain⟨xs,e1,e2⟩:=mU (lo:=lo) (hi:=hi) h1 h2 (by rw[T.len];lia) (by lia)
 have l1:((G.newL xs).lst ce).length=n:=by rw[gD T.lt,T.len]
 have l2:((G.newL xs).lst G.nl).length=xs.length:=by rw[a6]
 obtain⟨ys,e3,e4⟩:=uI (jv:=G.nl) (lo:=p) (hi:=q) h4 (by lia) (by rw[l1];lia) (by lia) (aj T.lt) (by rw[l1,l2];lia)
 refine⟨xs,ys,e1,e2,e3,⟨T.raw,T.fce,T.fgs,T.fge,T.frm,?_,aY T.lt,T.h0,T.h1,T.h2,T.h3⟩,((TB.refl T.raw).newL).setC⟩
 rw[aW]
 rw[l1,l2] at e4
 lia
theorem Gp.put(T:Gp G tx ce gs ge n){p q:Int}(h0:0<=p)(h1:p<=q)(h2:q<=n):Gp ((G.sI 191 192 tx q).sI 190 192 tx p) tx ce p q n:=
 ⟨gQ (gQ T.raw),T.fce,lG,(bw (by decide)).trans lG,(bw (by decide)).trans ((bw (by decide)).trans T.frm),T.len,T.lt,h0,h1,h2,T.h3⟩
theorem n9(T:Gp G tx ce gs ge n)(h1:0<=at_)(h2:at_<=n - ge+gs)(hK:80<=K)(g:∀u G',TB tx ce G G'->Gp G' tx ce at_ (ge+at_ - gs) n->k u G'):aD P K G 1011 [.ref 192 (some tx), .int at_] k:=by
 have hr:=T.raw
 have t0:=T.h0
 have t1:=T.h1
 have t2:=T.h2
 have t3:=T.h3
 have rg:∀{G:H} {m:Nat} {ρ:au} {x:Mine.E},(pv m).ev ρ G x=some (.ref 192 (some tx))->∀{gs ge},Gp G tx ce gs ge n->(pv (m+1)).ev ρ G (.attr x 189)=some (.list ce)/\(pv (m+1)).ev ρ G (.attr x 190)=some (.int gs)/\(pv (m+1)).ev ρ G (.attr x 191)=some (.int ge):=fun {G m ρ x} e {gs ge} T=>by
  refine⟨a9 e ?_,a9 e ?_,a9 e ?_⟩
  ·show some (V.list (G.N 189 192 tx))=_
   rw[T.fce]
  ·show some (V.int (G.I 190 192 tx))=_
   rw[T.fgs]
  ·show some (V.int (G.I 191 192 tx))=_
   rw[T.fge]
 have fin:∀{G2:H} {ρ:au} {q:Int},TB tx ce G G2->Gp G2 tx ce gs ge n->q=ge+at_ - gs->ρ 178=some (.ref 192 (some tx))->ρ 89=some (.int at_)->aC P (K - (1+1)) ρ (G2.sI 191 192 tx q) [.asg (.attr (.var 178) 190) (.var 89)] (fun r _ h=>goes r (fun v=>k v h) (k .none h)):=fun {G2 ρ q} F T2 e r1 r2=>by
  subst e
  exact aX hK rfl (gQ T2.raw) r2 r1 rfl (az hK rfl (g _ _ ((F.wI).wI) (T2.put h1 (by lia) (by lia))))
 refine av hK rfl Eg rfl (aw hK rfl (b:=decide (at_<gs)) hr (by rw[←T.fgs];rfl) ?_)
 rcases q:decide (at_<gs) with _|_
 ·have q:=bT q
  obtain⟨xs,ys,e1,e2,e3,T1,F1⟩:=T.copy (lo:=ge) (hi:=ge+at_ - gs) (p:=gs) (q:=gs+(at_ - gs)) (by lia) (by lia) (by lia) (by lia) (by lia) (by lia)
  have T0:Gp (G.newL xs) tx ce gs ge n:=⟨T.raw,T.fce,T.fgs,T.fge,T.frm,by rw[gD T.lt,T.len],aY T.lt,t0,t1,t2,t3⟩
  have e2':(xs.length:Int)=at_ - gs:=by lia
  refine bm hK rfl (dD hK rfl hr (rg rfl T).1 (rg rfl T).2.2 (a2:= .int (ge+at_ - gs)) ?_ e1 ?_)
  ·exact aP (aP (rg rfl T).2.2 rfl rfl) (rg rfl T).2.1 rfl
  refine fh hK rfl (aq hK rfl hr rfl (iJ hK rfl hr (rg rfl T0).1 (rg rfl T0).2.1 ?_ e3 ?_))
  ·exact aP (rg rfl T0).2.1 (dz (n:=8) rfl (by rw[a6,e2'])) rfl
  refine aX hK rfl hr (v:= .int (ge+(at_ - gs))) ?_ rfl rfl (s_end hK rfl (fin F1 T1 (by lia) rfl rfl))
  exact aP (rg rfl T1).2.2 (dz (n:=8) rfl (by rw[a8 (Nat.ne_of_gt T.lt),a6,e2'])) rfl
 ·have q:=ao q
  obtain⟨xs,ys,e1,e2,e3,T1,F1⟩:=T.copy (lo:=at_) (hi:=gs) (p:=ge - (gs - at_)) (q:=ge) h1 (by lia) (by lia) (by lia) (by lia) (by lia)
  have T0:Gp (G.newL xs) tx ce gs ge n:=⟨T.raw,T.fce,T.fgs,T.fge,T.frm,by rw[gD T.lt,T.len],aY T.lt,t0,t1,t2,t3⟩
  refine bm hK rfl (dD hK rfl hr (rg rfl T).1 rfl (rg rfl T).2.1 e1 ?_)
  refine fh hK rfl (aq hK rfl hr rfl (iJ hK rfl hr (rg rfl T0).1 ?_ (rg rfl T0).2.2 e3 ?_))
  ·exact aP (rg rfl T0).2.2 (dz (n:=8) rfl (by rw[a6,e2])) rfl
  refine aX hK rfl hr (v:= .int (ge - (gs - at_))) ?_ rfl rfl (s_end hK rfl (fin F1 T1 (by lia) rfl rfl))
  exact aP (rg rfl T1).2.2 (dz (n:=8) rfl (by rw[a8 (Nat.ne_of_gt T.lt),a6,e2])) rfl
end
section
variable{G G' G1:H}{tx ce K n m a jc:Nat}{k:V->H->Prop}{gs ge at_ s e x w:Int}{xs:List V}{ρ:au}
theorem Gp.newL(T:Gp G tx ce gs ge n):Gp (G.newL xs) tx ce gs ge n:=⟨T.raw,T.fce,T.fgs,T.fge,T.frm,by rw[gD T.lt,T.len],aY T.lt,T.h0,T.h1,T.h2,T.h3⟩
theorem rg{x:Mine.E}(T:Gp G tx ce gs ge n)(e:(pv m).ev ρ G x=some (.ref 192 (some tx))):(pv (m+1)).ev ρ G (.attr x 189)=some (.list ce)/\(pv (m+1)).ev ρ G (.attr x 190)=some (.int gs)/\(pv (m+1)).ev ρ G (.attr x 191)=some (.int ge)/\(pv (m+1)).ev ρ G (.attr x 188)=some (.int 8):=by
 refine⟨a9 e ?_,a9 e ?_,a9 e ?_,a9 e ?_⟩
 ·show some (V.list (G.N 189 192 tx))=_
  rw[T.fce]
 ·show some (V.int (G.I 190 192 tx))=_
  rw[T.fgs]
 ·show some (V.int (G.I 191 192 tx))=_
  rw[T.fge]
 ·show some (V.int (G.I 188 192 tx))=_
  rw[T.frm]
theorem sA{m:Nat}{ρ:au}{x:Mine.E}{v:V}(h:(pv (m+1)).ev ρ G x=some v):(pv (m+2)).evs ρ G [x]=some [v]:=by
 show oB ((pv (m+1)).ev ρ G x) (fun v=>some [v])=_
 rw[h];rfl
theorem Mc:P.meth 192 198=some 1012:=by kernel_rfl
theorem C3:P.meth 192 195=some 1011:=by kernel_rfl
theorem K9:P.meth 192 134=some 1010:=by kernel_rfl
theorem v7(T:Gp G tx ce gs ge n)(h1:0<=w)(h2:w<=100)(h3:n<=4000)(hK:80<=K)
  (g:∀u G' ge' n',TB tx ce G G'->Gp G' tx ce gs ge' n'->w<=ge' - gs->(n':Int) - ge'=n - ge->(n':Int)<=n+w+8->k u G'):aD P K G 1012 [.ref 192 (some tx), .int w] k:=by
 have hr:=T.raw
 have t0:=T.h0
 have t1:=T.h1
 have t2:=T.h2
 refine av hK rfl CR rfl (dP hK rfl hr (aP rfl (aP (rg T rfl).2.2.1 (rg T rfl).2.1 rfl) rfl) (aw hK rfl hr rfl ?_))
 rcases q:decide (w - (ge - gs)>0) with _|_
 ·have q:=bT q
  exact s_end hK rfl (az hK rfl (g _ G ge n (TB.refl hr) T (by lia) rfl (by lia)))
 ·have q:=ao q
  have fl:((List.replicate (w - (ge - gs)+8).toNat [V.int 0]).flatten.length:Int)=w - (ge - gs)+8:=by
   rw[List.flatten_replicate_singleton,List.length_replicate];lia
  have mul:lN ((G.newL [.int 0])) .mul (.list G.nl) (.int (w - (ge - gs)+8))=some (.list (G.nl+1),(G.newL [.int 0]).newL (List.replicate (w - (ge - gs)+8).toNat [V.int 0]).flatten):=by
   show(if((G.newL [.int 0]).lst G.nl).length=1/\0<=w - (ge - gs)+8/\w - (ge - gs)+8<eg then _ else none)=_
   rw[a6,if_pos ⟨rfl,by lia,by unfold eg;lia⟩];rfl
  have T2:Gp ((G.newL [.int 0]).newL (List.replicate (w - (ge - gs)+8).toNat [V.int 0]).flatten) tx ce gs ge n:=T.newL.newL
  have F2:TB tx ce G ((G.newL [.int 0]).newL (List.replicate (w - (ge - gs)+8).toNat [V.int 0]).flatten):=(TB.refl hr).newL.newL
  have L2:((((G.newL [.int 0]).newL (List.replicate (w - (ge - gs)+8).toNat [V.int 0]).flatten).lst (G.nl+1)).length:Int)=w - (ge - gs)+8:=by
   rw[show G.nl+1=(G.newL [.int 0]).nl from rfl,a6];exact fl
  generalize (G.newL [.int 0]).newL (List.replicate (w - (ge - gs)+8).toNat [V.int 0]).flatten=G2 at*
  obtain⟨ys,e3,e4⟩:=uI (jv:=G.nl+1) (lo:=ge) (hi:=ge) (by lia) (bQ _) (by rw[T2.len];exact t2) (by lia) (aj (aY T.lt)) (by rw[T2.len];lia)
  rw[T2.len] at e4
  have T3:Gp ((G2.ax ce ys).sI 191 192 tx (ge+(w - (ge - gs))+8)) tx ce gs (ge+(w - (ge - gs))+8) ys.length:=⟨gQ (G:=G2.ax ce ys) T2.raw,T2.fce,(bw (by decide)).trans T2.fgs,lG,(bw (by decide)).trans T2.frm,congrArg List.length aW,T2.lt,t0,by lia,by lia,by lia⟩
  refine fh hK rfl (ig hK rfl (hH hK rfl hr rfl (aq hK rfl hr (aP rfl (rg T.newL rfl).2.2.2 rfl) (cj mul (iJ hK rfl T2.raw (rg T2 rfl).1 (rg T2 rfl).2.2.1 (rg T2 rfl).2.2.1 e3 ?_)))))
  have T2':Gp (G2.ax ce ys) tx ce gs ge ys.length:=⟨T2.raw,T2.fce,T2.fgs,T2.fge,T2.frm,congrArg List.length aW,T2.lt,t0,t1,by lia,by lia⟩
  exact aX hK rfl T2.raw (aP (aP (rg T2' rfl).2.2.1 rfl rfl) (rg T2' rfl).2.2.2 rfl) rfl rfl (s_end hK rfl (az hK rfl (g _ _ _ _ F2.setC.wI T3 (by lia) (by lia) (by lia))))
theorem CD(T:Gp G tx ce gs ge n)(h1:0<=at_)(h2:at_<=n - ge+gs)(h3:n<=4000)(hj:jc<G.nl)(hne:jc≠ce)(hm:((G.lst jc).length:Int)=w)(hw:w<=100)(hK:160<=K)
  (g:∀u G' ge' n',TB tx ce G G'->Gp G' tx ce (at_+w) ge' n'->(n':Int) - ge'+(at_+w)=n - ge+gs+w->(n':Int)<=n+w+8->k u G'):aD P K G 1013 [.ref 192 (some tx), .int at_, .list jc] k:=by
 have hr:=T.raw
 have w0:0<=w:=hm▸Int.natCast_nonneg _
 refine av hK rfl DO rfl (bE hK rfl (bM hK rfl hr rfl Mc ?_ (v7 T w0 hw h3 (ac hK rfl) fun _ G1 ge1 n1 F1 T1 a1 a2 a3=>?_)))
 ·exact sA (dz (n:=8) rfl hm)
 refine bE hK rfl (bM hK rfl T1.raw rfl C3 rfl (n9 T1 h1 (by lia) (ac hK rfl) fun _ G2 F2 T2=>?_))
 have F3:=F1.trans F2
 have l2:(G2.lst jc).length=(G.lst jc).length:=congrArg List.length (F3.lst jc hj hne)
 have t2:=T2.h2
 have t3:=T2.h3
 obtain⟨ys,e3,e4⟩:=uI (jv:=jc) (lo:=at_) (hi:=at_+w) h1 (by lia) (by rw[T2.len];lia) (by lia) hne.symm (by rw[T2.len,l2];lia)
 rw[T2.len,l2,hm] at e4
 have T3:Gp (G2.ax ce ys) tx ce at_ (ge1+at_ - gs) n1:=⟨T2.raw,T2.fce,T2.fgs,T2.fge,T2.frm,by rw[aW];lia,T2.lt,h1,T2.h1,t2,t3⟩
 have ln:∀{G3:H} {m:Nat},G3.lst jc=G2.lst jc->∀{ρ:au},ρ 134=some (.list jc)->ρ 89=some (.int at_)->(pv (m+4)).ev ρ G3 (.bop .add (.var 89) (.blt .len [.var 134]))=some (.int (at_+w)):=fun {G3 m} q {ρ} r1 r2=>aP r2 (dz (n:=m) r1 (by rw[q,l2,hm])) rfl
 refine fh hK rfl (aq hK rfl T2.raw rfl (iJ hK rfl T2.raw (rg T2 rfl).1 rfl (ln rfl rfl rfl) e3 ?_))
 refine aX hK rfl T2.raw (ln (a8 hne) rfl rfl) rfl rfl (az hK rfl (g _ _ (ge1+at_ - gs) n1 F3.setC.wI ⟨gQ T3.raw,T3.fce,lG,(bw (by decide)).trans T3.fge,(bw (by decide)).trans T3.frm,T3.len,T3.lt,by lia,by lia,t2,t3⟩ (by lia) a3))
theorem xF(T:Gp G tx ce gs ge n)(h1:0<=s)(h2:s<=e)(h3:e<=n - ge+gs)(hK:80<=K)(g:∀u G',TB tx ce G G'->Gp G' tx ce gs ge n->k u G'):aD P K G 1010 [.ref 192 (some tx), .int s, .int e] k:=by
 have hr:=T.raw
 have t0:=T.h0
 have t1:=T.h1
 have t2:=T.h2
 have t3:=T.h3
 refine av hK rfl A3 rfl (dP hK rfl hr (aP (rg T rfl).2.2.1 (rg T rfl).2.1 rfl) (aw hK rfl hr (aZ rfl (rg T rfl).2.1 rfl) (cg (fun q=>?_) fun q=>s_end hK rfl (aw hK rfl hr (aZ rfl (rg T rfl).2.1 rfl) (cg (fun q'=>?_) fun q'=>s_end hK rfl ?_)))))
 ·have q:=ao q
  obtain⟨xs,e1,_⟩:=mU (lo:=s) (hi:=e) h1 h2 (by rw[T.len];lia) (by lia)
  exact bJ hK rfl (dD hK rfl hr (rg T rfl).1 rfl rfl e1 (g _ _ (TB.refl hr).newL T.newL))
 ·have q:=bT q
  have q':=ao q'
  obtain⟨xs,e1,_⟩:=mU (lo:=s+(ge - gs)) (hi:=e+(ge - gs)) (by lia) (by lia) (by rw[T.len];lia) (by lia)
  exact bJ hK rfl (dD hK rfl hr (rg T rfl).1 rfl rfl e1 (g _ _ (TB.refl hr).newL T.newL))
 ·have q:=bT q
  have q':=bT q'
  obtain⟨xs,e1,l1⟩:=mU (lo:=s) (hi:=gs) h1 (by lia) (by rw[T.len];lia) (by lia)
  have T1:Gp (G.newL xs) tx ce gs ge n:=T.newL
  obtain⟨ys,e2,l2⟩:=mU (lo:=ge) (hi:=e+(ge - gs)) (by lia) (by lia) (by rw[T1.len];lia) (by lia)
  refine bJ hK rfl (ig hK rfl (dD hK rfl hr (rg T rfl).1 rfl (rg T rfl).2.1 e1 (dD hK rfl T1.raw (rg T1 rfl).1 (rg T1 rfl).2.2.1 rfl e2 (cj (a:= .list (G.nl+2)) (b:=((G.newL xs).newL ys).newL (xs++ys)) ?_ (g _ _ (TB.refl hr).newL.newL.newL T1.newL.newL)))))
  have z1:((G.newL xs).newL ys).lst G.nl=xs:=(aU (aE _)).trans a6
  have z2:((G.newL xs).newL ys).lst (G.newL xs).nl=ys:=a6
  show(if(((G.newL xs).newL ys).lst G.nl).length+(((G.newL xs).newL ys).lst (G.newL xs).nl).length<eg then some (V.list (G.nl+2),((G.newL xs).newL ys).newL (((G.newL xs).newL ys).lst G.nl++((G.newL xs).newL ys).lst (G.newL xs).nl)) else none)=_
  rw[z1,z2,if_pos (by unfold eg;lia)]
theorem Bu(T:Gp G tx ce gs ge n)(h1:0<=s)(h2:s<=e)(h3:e<=n - ge+gs)(hK:160<=K)(g:∀u G' ge',TB tx ce G G'->Gp G' tx ce s ge' n->(n:Int) - ge'+s=n - ge+gs - (e - s)->k u G'):aD P K G 1014 [.ref 192 (some tx), .int s, .int e] k:=by
 have hr:=T.raw
 have t0:=T.h0
 have t1:=T.h1
 have t2:=T.h2
 refine av hK rfl AQ rfl (bm hK rfl (bM hK rfl hr rfl K9 rfl (xF T h1 h2 h3 (ac hK rfl) fun u0 G1 F1 T1=>?_)))
 have fin:∀{G2:H} {gs2 ge2:Int} {ρ:au} {d:Nat},Nat.ble (d+35) 160=true->TB tx ce G G2->Gp G2 tx ce gs2 ge2 n->ge2+e - gs2=ge+(e - s)+s - gs->s<=gs2->gs2<=e->ρ 178=some (.ref 192 (some tx))->ρ 68=some (.int e)->ρ 118=some (.int s)->ρ 84=some u0->aC P (K - d) ρ G2 [.asg (.attr (.var 178) 191) (.bop .sub (.bop .add (.attr (.var 178) 191) (.var 68)) (.attr (.var 178) 190)), .asg (.attr (.var 178) 190) (.var 118), .ret (.var 84)] (fun r _ h=>goes r (fun v=>k v h) (k .none h)):=fun {G2 gs2 ge2 ρ d} hd F2 T2 a1 a2 a3 r1 r2 r3 r4=>by
  have hd':=bP hd
  have b:∀i,i<=4->Nat.ble (d+i+31) 160=true:=fun i hi=>Nat.ble_eq_true_of_le (by lia)
  have tt0:=T2.h0
  have tt1:=T2.h1
  have tt2:=T2.h2
  refine aX hK (b 0 (by decide)) T2.raw (aP (aP (rg (m:=9) (x:= .var 178) T2 r1).2.2.1 r2 rfl) (rg (m:=10) (x:= .var 178) T2 r1).2.1 rfl) r1 rfl ?_
  exact aX hK (b 1 (by decide)) (gQ T2.raw) r3 r1 rfl (bg hK (b 2 (by decide)) (gQ (gQ T2.raw)) r4 (g _ _ _ F2.wI.wI (T2.put h1 (by lia) (by lia)) (by lia)))
 refine aw hK rfl T1.raw (aZ rfl (rg T1 rfl).2.1 rfl) (cg (fun q=>?_) fun q=>s_end hK rfl ?_)
 ·have q:=ao q
  refine bE hK rfl (bM hK rfl T1.raw rfl C3 rfl (n9 T1 (by lia) (by assumption) (ac hK rfl) fun _ G2 F2 T2=>s_end hK rfl (aw hK rfl T2.raw (aZ rfl (rg T2 rfl).2.1 rfl) (cg (fun q'=>absurd (ao q') (by lia)) fun _=>s_end hK rfl (fin rfl (F1.trans F2) T2 (by lia) (by assumption) (by lia) rfl rfl rfl rfl)))))
 ·have q:=bT q
  refine aw hK rfl T1.raw (aZ rfl (rg T1 rfl).2.1 rfl) (cg (fun q'=>?_) fun q'=>s_end hK rfl (fin rfl F1 T1 (by lia) (Int.not_lt.mp (bT q')) (by lia) rfl rfl rfl rfl))
  exact bE hK rfl (bM hK rfl T1.raw rfl C3 rfl (n9 T1 h1 (by lia) (ac hK rfl) fun _ G2 F2 T2=>s_end hK rfl (fin rfl (F1.trans F2) T2 (by lia) (by lia) (by assumption) rfl rfl rfl rfl)))
end
structure BR where
 bu:Nat
 tx:Nat
 mr:Nat
 md:Nat
 li:Nat
 ce:Nat
structure Bf(G:H)(r:BR)(sz:Int)(cap:Nat)(ho:Option Nat):Prop where
 raw:G.raw=[]
 tx:G.N 131 155 r.bu=r.tx
 mr:G.N 140 155 r.bu=r.mr
 md:G.N 143 199 r.mr=r.md
 dm:(G.dct r.md).2=true
 li:G.N 124 155 r.bu=r.li
 ll:G.lst r.li=[]
 lt:r.li<G.nl
 lc:r.li≠r.ce
 beg:G.I 121 155 r.bu=1
 zv:G.I 122 155 r.bu=sz+1
 ro:G.B 114 155 r.bu=false
 un:G.F 129 155 r.bu= .none
 pr:G.F 136 155 r.bu= .none
 ov:G.Q 107 155 r.bu=ho
 gp:∃gs ge n,Gp G r.tx r.ce gs ge n/\(n:Int) - ge+gs=sz/\n<=cap
structure BO(r:BR)(G G':H):Prop where
 raw:G'.raw=[]
 I:∀a c i,¬(c=155/\i=r.bu)->¬(c=192/\i=r.tx)->G'.I a c i=G.I a c i
 B:G'.B=G.B
 Q:G'.Q=G.Q
 N:G'.N=G.N
 F:G'.F=G.F
 ni:G'.ni=G.ni
 dct:G'.dct=G.dct
 nd:G'.nd=G.nd
 nl:G.nl<=G'.nl
 lst:∀j,j<G.nl->j≠r.ce->G'.lst j=G.lst j
section
variable{G G' G1:H}{r:BR}{ho:Option Nat}{cap K a i:Nat}{k:V->H->Prop}{sz s e x w g1:Int}{xs:List V}{ρ:au}{b:Bool}
theorem BO.refl(hr:G.raw=[]):BO r G G:=⟨hr,fun _ _ _ _ _=>rfl,rfl,rfl,rfl,rfl,rfl,rfl,rfl,ab _,fun _ _ _=>rfl⟩
theorem BO.trans{G'':H}(p:BO r G G')(q:BO r G' G''):BO r G G'':=
 ⟨q.raw,fun a c i w v=>(q.I a c i w v).trans (p.I a c i w v),q.B.trans p.B,q.Q.trans p.Q,q.N.trans p.N,q.F.trans p.F,q.ni.trans p.ni,q.dct.trans p.dct,q.nd.trans p.nd,af p.nl q.nl,fun j w v=>(q.lst j (ae w p.nl) v).trans (p.lst j w v)⟩
theorem BO.wI(p:BO r G G1):BO r G (G1.sI a 155 r.bu x):=⟨gQ p.raw,fun b c i w v=>(fw w).trans (p.I b c i w v),p.B,p.Q,p.N,p.F,p.ni,p.dct,p.nd,p.nl,p.lst⟩
theorem BO.newL(p:BO r G G1):BO r G (G1.newL xs):=
 ⟨p.raw,p.I,p.B,p.Q,p.N,p.F,p.ni,p.dct,p.nd,aL p.nl,fun j w v=>(aU (ae w p.nl)).trans (p.lst j w v)⟩
theorem TB.bo(p:TB r.tx r.ce G G'):BO r G G':=⟨p.raw,fun a c i _ w=>p.I a c i w,p.B,p.Q,p.N,p.F,p.ni,p.dct,p.nd,p.nl,p.lst⟩
theorem Gp.wI{tx ce n:Nat}{gs ge:Int}(T:Gp G tx ce gs ge n):Gp (G.sI a 155 i x) tx ce gs ge n:=
 ⟨gQ T.raw,T.fce,(fw fun w=>absurd w.1 (by decide)).trans T.fgs,(fw fun w=>absurd w.1 (by decide)).trans T.fge,(fw fun w=>absurd w.1 (by decide)).trans T.frm,T.len,T.lt,T.h0,T.h1,T.h2,T.h3⟩
theorem Bf.newL(T:Bf G r sz cap ho):Bf (G.newL xs) r sz cap ho:=by
 obtain⟨gs,ge,n,P,h1,h2⟩:=T.gp
 exact⟨T.raw,T.tx,T.mr,T.md,T.dm,T.li,(aU T.lt).trans T.ll,aY T.lt,T.lc,T.beg,T.zv,T.ro,T.un,T.pr,T.ov,gs,ge,n,P.newL,h1,h2⟩
theorem Bf.wI(T:Bf G r sz cap ho)(h1:a≠121)(h2:a≠122):Bf (G.sI a 155 r.bu x) r sz cap ho:=by
 obtain⟨gs,ge,n,P,h3,h4⟩:=T.gp
 exact⟨gQ T.raw,T.tx,T.mr,T.md,T.dm,T.li,T.ll,T.lt,T.lc,(bw h1.symm).trans T.beg,(bw h2.symm).trans T.zv,T.ro,T.un,T.pr,T.ov,gs,ge,n,P.wI,h3,h4⟩
theorem Bf.text{gs ge:Int}{n:Nat}{sz':Int}{cap':Nat}(T:Bf G r sz cap ho)(F:TB r.tx r.ce G G')(P:Gp G' r.tx r.ce gs ge n)(h1:(n:Int) - ge+gs=sz')(h2:n<=cap'):Bf (G'.sI 122 155 r.bu (sz'+1)) r sz' cap' ho:=by
 have n1:∀{c i},c≠192->¬(c=192/\i=r.tx):=fun p w=>p w.1
 exact⟨gQ F.raw,by show G'.N _ _ _=_;rw[F.N];exact T.tx,by show G'.N _ _ _=_;rw[F.N];exact T.mr,by show G'.N _ _ _=_;rw[F.N];exact T.md,by show(G'.dct _).2=_;rw[F.dct];exact T.dm,by show G'.N _ _ _=_;rw[F.N];exact T.li,(F.lst _ T.lt T.lc).trans T.ll,ae T.lt F.nl,T.lc,
  (bw (by decide)).trans ((F.I _ _ _ (n1 (by decide))).trans T.beg),lG,by show G'.B _ _ _=_;rw[F.B];exact T.ro,by show G'.F _ _ _=_;rw[F.F];exact T.un,by show G'.F _ _ _=_;rw[F.F];exact T.pr,by show G'.Q _ _ _=_;rw[F.Q];exact T.ov,gs,ge,n,P.wI,h1,h2⟩
theorem Jj:P.fn 44=some Of:=by kernel_rfl
theorem Me:P.fn 45=some Nt:=by kernel_rfl
theorem Ka:P.fn 46=some Ny:=by kernel_rfl
theorem JV:P.fn 47=some O8:=by kernel_rfl
theorem Le:P.fn 48=some Na:=by kernel_rfl
theorem Ji:P.fn 49=some NV:=by kernel_rfl
theorem K0:P.fn 50=some OF:=by kernel_rfl
theorem Do:P.fn 1021=some zk:=by kernel_rfl
theorem DE:P.fn 1022=some y8:=by kernel_rfl
theorem DL:P.fn 1016=some AB:=by kernel_rfl
theorem Dd:P.fn 1017=some zO:=by kernel_rfl
theorem Bx:P.fn 1018=some Au:=by kernel_rfl
theorem DS:P.fn 1019=some zg:=by kernel_rfl
theorem LX:P.meth 192 116=some 1009:=by kernel_rfl
theorem Aq:P.meth 155 116=some 1021:=by kernel_rfl
theorem KA:P.meth 155 127=some 1022:=by kernel_rfl
theorem Qm:P.meth 192 55=some 1013:=by kernel_rfl
theorem PP:P.meth 192 56=some 1014:=by kernel_rfl
theorem KP:P.meth 199 200=some 1016:=by kernel_rfl
theorem JF:P.meth 199 141=some 1017:=by kernel_rfl
theorem Mr:P.meth 199 142=some 1018:=by kernel_rfl
theorem Lm:P.meth 199 144=some 1019:=by kernel_rfl
theorem Cz(T:Bf G r sz cap ho)(hK:60<=K)(g:∀u,k u G):aD P K G 44 [.ref 155 (some r.bu)] k:=by
 refine av hK rfl Jj rfl (aw hK rfl (b:=false) T.raw ?_ (s_end hK rfl (az hK rfl (g _))))
 show some (V.bool (G.B 114 155 r.bu))=_
 rw[T.ro]
theorem gW(T:Bf G r sz cap ho)(h1:1<=s)(h2:s<=e)(h3:e<=sz+1)(hK:60<=K)(g:k (.tup [.int s, .int e]) G):aD P K G 46 [.ref 155 (some r.bu), .int s, .int e] k:=by
 have v1:(pv 12).ev (fun x=>([113,118,68].zip [V.ref 155 (some r.bu),V.int s,V.int e]).lookup x) G (.tup [.blt .min [.var 118, .var 68], .blt .max [.var 118, .var 68]])=some (.tup [.int s, .int e]):=by
  show some (V.tup [.int (if e<s then e else s), .int (if s<e then e else s)])=_
  rw[if_neg (by lia)]
  by_cases q:s<e
  ·rw[if_pos q]
  ·rw[if_neg q,show s=e by lia]
 refine av hK rfl Ka rfl (bY hK rfl (aq hK rfl T.raw v1 ?_))
 refine aw hK rfl (b:=false) T.raw ?_ (s_end hK rfl (bg hK rfl T.raw rfl g))
 show(bif eb (decide (s<G.I 121 155 r.bu)) false then some (V.bool (decide (e>G.I 122 155 r.bu))) else some (V.bool (decide (s<G.I 121 155 r.bu))))=_
 rw[T.beg,T.zv,bB (by lia),bB (by lia)];rfl
theorem ut(T:Bf G r sz cap ho)(hK:160<=K)(g:k (.int sz) G):aD P K G 1021 [.ref 155 (some r.bu)] k:=by
 obtain⟨gs,ge,n,Pg,h1,h2⟩:=T.gp
 refine av hK rfl Do rfl (bJ hK rfl (bM hK rfl T.raw ?_ LX rfl (yP Pg (ac hK rfl) (h1▸g))))
 show some (V.ref 192 (some (G.N 131 155 r.bu)))=_
 rw[T.tx]
theorem uV(T:Bf G r sz cap ho)(h:sz+g1<=4000000)(hK:260<=K)(g:∀u,k u G):aD P K G 45 [.ref 155 (some r.bu), .int g1] k:=by
 refine av hK rfl Me rfl (cv hK rfl (rj hK rfl rfl (gh hK rfl (ig hK rfl (bM hK rfl T.raw rfl Aq rfl (ut T (ac hK rfl) (aq hK rfl T.raw rfl ?_)))))))
 refine cj rfl (aq hK rfl T.raw rfl (bS rfl ?_))
 rw[bB (by lia)]
 exact s_end hK rfl (az hK rfl (g _))
theorem zn{ρ:au}{bs:List S}{kf:Fl->au->H->Prop}(T:Bf G r sz cap ho)(hρ:ρ 113=some (.ref 155 (some r.bu))){B d:Nat}(hK:B<=K)(hd:Nat.ble (d+37) B=true)(g:kf .next ρ (G.newL [])):aC P (K - d) ρ G [.for (.var 123) (.blt .list [.attr (.var 113) 124]) bs] kf:=by
 have hd':=bP hd
 have b:∀i,i<=6->Nat.ble (d+i+31) B=true:=fun i hi=>Nat.ble_eq_true_of_le (by lia)
 refine eW hK (b 0 (by decide)) (j6 hK (b 2 (by lia)) (aA hK (b 3 (by decide)) (aq hK (b 4 (by lia)) T.raw (v:= .list r.li) ?_ (bz hK (b 4 (by lia)) (cj (a:= .list G.nl) (b:=G.newL []) ?_ ?_)))))
 ·show oB (ρ 113) (fun o=>fU G o 124)=_
  rw[hρ]
  show some (V.list (G.N 124 155 r.bu))=_
  rw[T.li]
 ·show some (V.list G.nl,G.newL (G.lst r.li))=_
  rw[T.ll]
 ·refine d8 hK (b 2 (by lia)) (ip a6) (az hK (b 1 (by decide)) g)
theorem kU(T:Bf G r sz cap ho){v w:V}(hK:80<=K)(g:∀u,k u (G.newL [])):aD P K G 47 [.ref 155 (some r.bu),v,w] k:=
 av hK rfl JV rfl (zn T rfl hK rfl (g _))
theorem jH(T:Bf G r sz cap ho){v w z:V}(hK:160<=K)(g:∀u G',BO r G G'->Bf G' r sz cap ho->k u G'):aD P K G 48 [.ref 155 (some r.bu),v,w,z] k:=by
 have T1:Bf (G.sI 208 155 r.bu (G.I 208 155 r.bu+1)) r sz cap ho:=T.wI (by decide) (by decide)
 have T2:Bf ((G.sI 208 155 r.bu (G.I 208 155 r.bu+1)).sI 209 155 r.bu ((G.sI 208 155 r.bu (G.I 208 155 r.bu+1)).I 208 155 r.bu)) r sz cap ho:=T1.wI (by decide) (by decide)
 refine av hK rfl Le rfl (bE hK rfl (bM hK rfl T.raw rfl KA rfl (av (B:=100) (ac hK rfl) rfl DE rfl (aX (ac (n:=100) hK rfl) rfl T.raw rfl rfl rfl (aw (ac (n:=100) hK rfl) rfl T1.raw rfl (aX (ac (n:=100) hK rfl) rfl T1.raw rfl rfl rfl (s_end (ac (n:=100) hK rfl) rfl (az (ac (n:=100) hK rfl) rfl ?_))))))))
 exact zn T2 rfl hK rfl (g _ _ ((BO.refl T.raw).wI.wI.newL) T2.newL)
end
abbrev OO:=Option (HR×eQ)
structure BH(G:H)(r:BR)(sz:Int)(cap:Nat)(o:OO):Prop where
 b:Bf G r sz cap (o.map fun p=>p.1.hm)
 h:∀p,o=some p->Hm G p.1 p.2/\(∀k,k<p.1.n->p.1.pl k≠r.ce)/\r.md≠p.1.od
structure FB(r:BR)(o:Option HR)(G G':H):Prop where
 raw:G'.raw=[]
 I:∀a c i,¬(c=155/\i=r.bu)->¬(c=192/\i=r.tx)->(∀h,o=some h->¬(c=179/\∃k,k<h.n/\h.nd k=i)/\¬(c=180/\i=h.tr))->G'.I a c i=G.I a c i
 B:∀a c i,(∀h,o=some h->¬(c=179/\∃k,k<h.n/\h.nd k=i)/\¬(c=180/\i=h.tr))->G'.B a c i=G.B a c i
 Q:∀a c i,(∀h,o=some h->¬(c=179/\∃k,k<h.n/\h.nd k=i)/\¬(c=180/\i=h.tr)/\¬(c=108/\∃k,k<h.n/\h.ov k=i))->G'.Q a c i=G.Q a c i
 N:G'.N=G.N
 F:G'.F=G.F
 ni:G'.ni=G.ni
 dct:∀d,(∀h,o=some h->d≠h.od)->G'.dct d=G.dct d
 nd:G'.nd=G.nd
 nl:G.nl<=G'.nl
 lst:∀j,j<G.nl->j≠r.ce->G'.lst j=G.lst j
section
variable{G G' G1:H}{r:BR}{h:HR}{st:eQ}{ho:Option Nat}{o:OO}{oh:Option HR}{cap cap' K m a jc i:Nat}{k:V->H->Prop}{sz sz' s e x y w:Int}{ρ:au}{c:Bool}
theorem FB.trans{G'':H}(p:FB r oh G G')(q:FB r oh G' G''):FB r oh G G'':=
 ⟨q.raw,fun a c i w v u=>(q.I a c i w v u).trans (p.I a c i w v u),fun a c i u=>(q.B a c i u).trans (p.B a c i u),fun a c i u=>(q.Q a c i u).trans (p.Q a c i u),q.N.trans p.N,q.F.trans p.F,q.ni.trans p.ni,fun d u=>(q.dct d u).trans (p.dct d u),q.nd.trans p.nd,af p.nl q.nl,fun j w v=>(q.lst j (ae w p.nl) v).trans (p.lst j w v)⟩
theorem BO.fb(p:BO r G G'):FB r oh G G':=
 ⟨p.raw,fun a c i w v _=>p.I a c i w v,fun a c i _=>by rw[p.B],fun a c i _=>by rw[p.Q],p.N,p.F,p.ni,fun d _=>by rw[p.dct],p.nd,p.nl,p.lst⟩
theorem Out.fb(p:Out h G G'):FB r (some h) G G':=
 ⟨p.raw,fun a c i _ _ u=>p.I a c i (u h rfl).1 (u h rfl).2,fun a c i u=>p.B a c i (u h rfl).1 (u h rfl).2,fun a c i u=>p.Q a c i (u h rfl).1 (u h rfl).2.1 (u h rfl).2.2,p.N,p.F,p.ni,fun d u=>p.dct d (u h rfl),p.nd,p.nl,fun j w _=>p.lst j w⟩
theorem Hm.bo(M:Hm G h st)(p:BO r G G')(hc:∀k,k<h.n->h.pl k≠r.ce):Hm G' h st:=by
 have ii:∀{a c i},c≠155->c≠192->G'.I a c i=G.I a c i:=fun {a c i} x y=>p.I a c i (fun w=>x w.1) fun w=>y w.1
 obtain⟨L,B,E,T,hm,hv⟩:=M.t
 have T':Tr G' h.tr L B E:=by
  obtain⟨nd,sh,id,F,m,hl,T,hm⟩:=T
  have e:∀{a i},G'.I a 179 i=G.I a 179 i:=ii (by decide) (by decide)
  exact⟨nd,sh,id,F,m,hl,⟨T.mem,by rw[p.Q];exact T.root,by rw[p.Q];exact T.L,by rw[p.Q];exact T.R,by rw[p.Q];exact T.U,by exact p.B▸T.C,fun s h=>e.trans (T.fb s h),fun s h=>e.trans (T.fe s h),fun s h=>e.trans (T.fm s h),fun s h=>e.trans (T.fo s h),T.fmm,T.fem,T.inj,T.le,T.ord⟩,hm⟩
 exact⟨M.n4,by rw[p.N];exact M.tr,by rw[p.N];exact M.od,by rw[p.N];exact M.rl,⟨by rw[p.F];exact M.ru.nil,(ii (by decide) (by decide)).trans M.ru.ev,(ii (by decide) (by decide)).trans M.ru.cat⟩,M.ndI,M.ovI,⟨L,B,E,T',hm,hv⟩,fun k hk=>by rw[p.N];exact M.on k hk,fun k hk=>(ii (by decide) (by decide)).trans (M.oi k hk),fun k hk=>by rw[p.Q];exact M.oh k hk,fun k hk=>by rw[p.N];exact M.op k hk,
  fun k hk=>⟨ae (M.pl k hk).1 p.nl,(p.lst _ (M.pl k hk).1 (hc k hk)).trans (M.pl k hk).2⟩,fun k hk=>(ii (by decide) (by decide)).trans (M.ni k hk),fun k hk=>by rw[p.B];exact M.nf k hk,fun k hk=>by rw[p.B];exact M.nr k hk,fun k hk=>by rw[p.dct];exact M.d1 k hk,fun j hj=>by rw[p.dct];exact M.d2 j hj,by exact p.dct▸M.d3⟩
theorem Bf.out(T:Bf G r sz cap ho)(p:Out h G G')(hc:r.ce<G.nl)(hd:r.md≠h.od):Bf G' r sz cap ho:=by
 have ii:∀{a c i},c≠179->c≠180->G'.I a c i=G.I a c i:=fun {a c i} x y=>p.I a c i (fun w=>x w.1) fun w=>y w.1
 obtain⟨gs,ge,n,P,h1,h2⟩:=T.gp
 exact⟨p.raw,by rw[p.N];exact T.tx,by rw[p.N];exact T.mr,by rw[p.N];exact T.md,by rw[p.dct _ hd];exact T.dm,by rw[p.N];exact T.li,(p.lst _ T.lt).trans T.ll,ae T.lt p.nl,T.lc,(ii (by decide) (by decide)).trans T.beg,(ii (by decide) (by decide)).trans T.zv,
  (p.B _ _ _ (fun w=>absurd w.1 (by decide)) fun w=>absurd w.1 (by decide)).trans T.ro,by rw[p.F];exact T.un,by rw[p.F];exact T.pr,(p.Q _ _ _ (fun w=>absurd w.1 (by decide)) (fun w=>absurd w.1 (by decide)) fun w=>absurd w.1 (by decide)).trans T.ov,
  gs,ge,n,⟨p.raw,by rw[p.N];exact P.fce,(ii (by decide) (by decide)).trans P.fgs,(ii (by decide) (by decide)).trans P.fge,(ii (by decide) (by decide)).trans P.frm,by rw[p.lst _ hc];exact P.len,ae P.lt p.nl,P.h0,P.h1,P.h2,P.h3⟩,h1,h2⟩
theorem Bf.oO(T:Bf G r sz cap ho):r.ce<G.nl:=by
 obtain⟨gs,ge,n,P,h1,h2⟩:=T.gp
 exact P.lt
theorem BH.bo(T:BH G r sz cap o)(p:BO r G G')(b:Bf G' r sz' cap' (o.map fun p=>p.1.hm)):BH G' r sz' cap' o:=⟨b,fun q e=>⟨(T.h q e).1.bo p (T.h q e).2.1,(T.h q e).2⟩⟩
theorem zd(T:Bf G r sz cap ho)(h1:1<=x)(h2:x<=sz+1)(hj:jc<G.nl)(hne:jc≠r.ce)(hm:(G.lst jc).length=m)(hw:m<=100)(hc:cap<=3900)(hK:260<=K)(g:∀u G',BO r G G'->Bf G' r (sz+m) (cap+m+8) ho->k u G'):aD P K G 50 [.ref 155 (some r.bu), .int x, .list jc] k:=by
 obtain⟨gs,ge,n,Pg,e1,e2⟩:=T.gp
 refine av hK rfl K0 rfl (aw hK rfl (b:=false) T.raw ?_ (s_end hK rfl (bE hK rfl (bM hK rfl T.raw ?_ Qm rfl (CD Pg (by lia) (by lia) (by lia) hj hne (congrArg Nat.cast hm) (by lia) (ac hK rfl) fun _ G1 ge1 n1 F1 P1 a1 a2=>?_)))))
 ·refine aZ (v:= .none) (a9 rfl ?_) rfl rfl
  show some (G.F 129 155 r.bu)=_
  rw[T.un]
 ·show some (V.ref 192 (some (G.N 131 155 r.bu)))=_
  rw[T.tx]
 have B1:Bf (G1.sI 122 155 r.bu (sz+m+1)) r (sz+m) (cap+m+8) ho:=T.text F1 P1 (by lia) (by lia)
 have l1:((G1.lst jc).length:Int)=m:=by rw[F1.lst jc hj hne,hm]
 have F2:BO r G (G1.sI 122 155 r.bu (sz+m+1)):=F1.bo.wI
 have ln:∀{G:H} {n:Nat},G.lst jc=G1.lst jc->∀{ρ:au},ρ 134=some (.list jc)->(pv (n+3)).ev ρ G (.blt .len [.var 134])=some (.int m):=fun {G n} q {ρ} r1=>dz r1 (by rw[q];exact l1)
 refine aX hK rfl F1.raw (h':=G1.sI 122 155 r.bu (sz+m+1)) (aP (a:=sz+1) (a9 rfl ?_) (ln (n:=8) rfl rfl) (congrArg some (by lia))) rfl rfl ?_
 ·show some (V.int (G1.I 122 155 r.bu))=_
  rw[F1.I _ _ _ (fun w=>absurd w.1 (by decide)),T.zv]
 refine aw hK rfl F2.raw rfl (cg (fun _=>?_) fun _=>s_end hK rfl (az hK rfl (g _ _ F2 B1)))
 exact aX hK rfl F2.raw (aP (a9 rfl rfl) (ln (G:=G1.sI 122 155 r.bu (sz+m+1)) (n:=8) rfl rfl) rfl) rfl rfl (s_end hK rfl (az hK rfl (g _ _ F2.wI (B1.wI (by decide) (by decide)))))
theorem uA(T:Bf G r sz cap ho)(h1:1<=s)(h2:s<=e)(h3:e<=sz+1)(hK:260<=K)(g:∀u G',BO r G G'->Bf G' r (sz - (e - s)) cap ho->k u G'):aD P K G 49 [.ref 155 (some r.bu), .int s, .int e] k:=by
 obtain⟨gs,ge,n,Pg,e1,e2⟩:=T.gp
 refine av hK rfl Ji rfl (aw hK rfl (b:=false) T.raw ?_ (s_end hK rfl (bm hK rfl (bM hK rfl T.raw ?_ PP rfl (Bu Pg (by lia) (by lia) (by lia) (ac hK rfl) fun u G1 ge1 F1 P1 a1=>?_)))))
 ·refine aZ (v:= .none) (a9 rfl ?_) rfl rfl
  show some (G.F 129 155 r.bu)=_
  rw[T.un]
 ·show some (V.ref 192 (some (G.N 131 155 r.bu)))=_
  rw[T.tx]
 have B1:Bf (G1.sI 122 155 r.bu (sz - (e - s)+1)) r (sz - (e - s)) cap ho:=T.text F1 P1 (by lia) e2
 have F2:BO r G (G1.sI 122 155 r.bu (sz - (e - s)+1)):=F1.bo.wI
 refine aX hK rfl F1.raw (v:= .int (sz - (e - s)+1)) (aP (a:=sz+1) (a9 rfl ?_) rfl (congrArg some (by lia))) rfl rfl ?_
 ·show some (V.int (G1.I 122 155 r.bu))=_
  rw[F1.I _ _ _ (fun w=>absurd w.1 (by decide)),T.zv]
 refine aw hK rfl F2.raw rfl (cg (fun _=>?_) fun _=>s_end hK rfl (bg hK rfl F2.raw rfl (g _ _ F2 B1)))
 exact aX hK rfl F2.raw rfl rfl rfl (s_end hK rfl (bg hK rfl (gQ F2.raw) rfl (g _ _ F2.wI (B1.wI (by decide) (by decide)))))
theorem n7{ρ:au}{bs:List S}{kf:Fl->au->H->Prop}(T:Bf G r sz cap ho)(hρ:ρ 178=some (.ref 199 (some r.mr))){B d:Nat}(hK:B<=K)(hd:Nat.ble (d+100) B=true)(g:kf .next ρ (G.newL [])):aC P (K - d) ρ G [.for (.var 97) (.meth (.var 178) 200 []) bs] kf:=by
 have hd':=bP hd
 have b:∀i,i<=6->Nat.ble (d+i+31) B=true:=fun i hi=>Nat.ble_eq_true_of_le (by lia)
 have le:60<=K - (d+2+2):=by lia
 refine eW hK (b 0 (by decide)) (bM hK (b 2 (by lia)) T.raw hρ KP rfl (av le rfl DL rfl (bJ le rfl (j6 le rfl (aA le rfl (aq le rfl T.raw (v:= .dict r.md) ?_ (bz le rfl (cj (a:= .list G.nl) (b:=G.newL []) ?_ ?_))))))))
 ·show some (V.dict (G.N 143 199 r.mr))=_
  rw[T.md]
 ·show(if(G.dct r.md).2 then some (V.list G.nl,G.newL []) else none)=_
  rw[if_pos T.dm]
 ·exact d8 hK (b 2 (by lia)) (ip (ws:=[]) a6) (az hK (b 1 (by decide)) g)
theorem J2(T:Bf G r sz cap ho){v w z:V}(hK:160<=K)(g:∀u,k u (G.newL [])):aD P K G 1017 [.ref 199 (some r.mr),v,w,z] k:=av hK rfl Dd rfl (n7 T rfl hK rfl (g _))
theorem Jv(T:Bf G r sz cap ho){v w:V}(hK:160<=K)(g:∀u,k u (G.newL [])):aD P K G 1018 [.ref 199 (some r.mr),v,w] k:=av hK rfl Bx rfl (n7 T rfl hK rfl (g _))
theorem JC(T:Bf G r sz cap ho){v w z:V}(hK:160<=K)(g:∀u,k u (G.newL [])):aD P K G 1019 [.ref 199 (some r.mr),v,w,z] k:=av hK rfl DS rfl (n7 T rfl hK rfl (g _))
theorem JQ:P.fn 51=some Pc:=by kernel_rfl
theorem MS:P.fn 52=some NK:=by kernel_rfl
theorem K4:P.meth 156 138=some 1006:=by kernel_rfl
theorem JR:P.meth 156 137=some 1007:=by kernel_rfl
noncomputable abbrev EY(x w:Int)(c:Bool)(o:OO):OO:=o.map fun p=>(p.1,vr p.1 x w c p.2)
noncomputable abbrev MH(x w:Int)(o:OO):OO:=o.map fun p=>(p.1,xy p.1 x w p.2)
theorem Af(T:BH G r sz cap o)(hp:0<w)(hK:840<=K)(g:∀u G',FB r (o.map (·.1)) G G'->BH G' r sz cap (EY (x - 1) w c o)->k u G'):aD P K G 52 [.ref 155 (some r.bu), .int x, .int w, .bool c] k:=by
 have pr:(pv 12).ev (fun y=>([113,133,93,90].zip [V.ref 155 (some r.bu),V.int x,V.int w,V.bool c]).lookup y) G (.cmp (.attr (.var 113) 136) .isNot .none)=some (.bool false):=by
  refine aZ (v:= .none) (w:= .none) (a9 (o:= .ref 155 (some r.bu)) rfl ?_) rfl rfl
  show some (G.F 136 155 r.bu)=_
  rw[T.b.pr]
 refine av hK rfl MS rfl (aw hK rfl T.b.raw pr (s_end hK rfl ?_))
 have ov:=T.b.ov
 rcases o with _|p
 ·refine aw hK rfl (b:=false) T.b.raw (aZ (v:= .ref 156 none) (w:= .none) (a9 (o:= .ref 155 (some r.bu)) rfl ?_) rfl rfl) (s_end hK rfl (az hK rfl (g _ G (BO.refl T.b.raw).fb T)))
  show some (V.ref 156 (G.Q 107 155 r.bu))=_
  rw[ov];rfl
 ·obtain⟨h,st⟩:=p
  obtain⟨M,hc,hd⟩:=T.h _ rfl
  have rd:fU G (.ref 155 (some r.bu)) 107=some (.ref 156 (some h.hm)):=by
   show some (V.ref 156 (G.Q 107 155 r.bu))=_
   rw[ov];rfl
  refine aw hK rfl (b:=true) T.b.raw (aZ (v:= .ref 156 (some h.hm)) (w:= .none) (a9 (o:= .ref 155 (some r.bu)) rfl rd) rfl rfl) ?_
  rw[bx]
  exact bE hK rfl (bM hK rfl T.b.raw (vs:=[.int (x - 1), .int w, .bool c]) (a9 (o:= .ref 155 (some r.bu)) rfl rd) K4 rfl (C2 M T.b.raw hp (ac hK rfl) fun u G1 O M1=>s_end hK rfl (az hK rfl (g _ G1 O.fb ⟨T.b.out O T.b.oO hd,fun q e=>by cases e;exact⟨M1,hc,hd⟩⟩))))
theorem vd(T:BH G r sz cap o)(hp:s<e)(hK:840<=K)(g:∀u G',FB r (o.map (·.1)) G G'->BH G' r sz cap (MH (s - 1) (e - s) o)->k u G'):aD P K G 51 [.ref 155 (some r.bu), .int s, .int e] k:=by
 have pr:(pv 12).ev (fun y=>([113,118,68].zip [V.ref 155 (some r.bu),V.int s,V.int e]).lookup y) G (.cmp (.attr (.var 113) 136) .isNot .none)=some (.bool false):=by
  refine aZ (v:= .none) (w:= .none) (a9 (o:= .ref 155 (some r.bu)) rfl ?_) rfl rfl
  show some (G.F 136 155 r.bu)=_
  rw[T.b.pr]
 refine av hK rfl JQ rfl (aw hK rfl T.b.raw pr (s_end hK rfl ?_))
 have ov:=T.b.ov
 cases o with
 |none=>
  refine aw hK rfl (b:=false) T.b.raw (aZ (v:= .ref 156 none) (w:= .none) (a9 (o:= .ref 155 (some r.bu)) rfl ?_) rfl rfl) (s_end hK rfl (az hK rfl (g _ G (BO.refl T.b.raw).fb T)))
  show some (V.ref 156 (G.Q 107 155 r.bu))=_
  rw[ov];rfl
 |some p=>
  obtain⟨h,st⟩:=p
  obtain⟨M,hc,hd⟩:=T.h _ rfl
  have rd:fU G (.ref 155 (some r.bu)) 107=some (.ref 156 (some h.hm)):=by
   show some (V.ref 156 (G.Q 107 155 r.bu))=_
   rw[ov];rfl
  refine aw hK rfl (b:=true) T.b.raw (aZ (v:= .ref 156 (some h.hm)) (w:= .none) (a9 (o:= .ref 155 (some r.bu)) rfl rd) rfl rfl) ?_
  rw[bx]
  refine bE hK rfl (bM hK rfl T.b.raw (vs:=[.int (s - 1), .int (e - 1)]) (a9 (o:= .ref 155 (some r.bu)) rfl rd) JR rfl (Cq M T.b.raw (by lia) (ac hK rfl) fun u G1 O M1=>s_end hK rfl (az hK rfl (g _ G1 O.fb ⟨T.b.out O T.b.oO hd,fun q e'=>by obtain rfl:=ag e';exact⟨(show e - 1 - (s - 1)=e - s by lia)▸M1,hc,hd⟩⟩))))
end
section
variable{G G' G1:H}{r:BR}{h:HR}{ho:Option Nat}{o:OO}{oh:Option HR}{cap K m jc i:Nat}{k:V->H->Prop}{sz s e x y:Int}{xs:List V}{ρ:au}{c:Bool}
theorem FB.refl(hr:G.raw=[]):FB r oh G G:=(BO.refl hr).fb
theorem ah{n:Nat}{e:Mine.E}{es:List Mine.E}{v:V}{vs:List V}(h1:(pv n).ev ρ G e=some v)(h2:(pv n).evs ρ G es=some vs):(pv (n+1)).evs ρ G (e::es)=some (v::vs):=by
 show oB ((pv n).ev ρ G e) (fun x=>oB ((pv n).evs ρ G es) fun y=>some (x::y))=_
 rw[h1,h2];rfl
theorem BH.newL(T:BH G r sz cap o):BH (G.newL xs) r sz cap o:=T.bo (BO.refl T.b.raw).newL T.b.newL
theorem Bf.MR(T:Bf G r sz cap ho):sz<=cap/\0<=sz:=by
 obtain⟨gs,ge,n,P,h1,h2⟩:=T.gp
 have:=P.h0
 have:=P.h1
 have:=P.h2
 lia
theorem Jl:P.fn 53=some NB:=by kernel_rfl
theorem LP:P.fn 54=some IY:=by kernel_rfl
theorem Kh:P.fn 55=some IV:=by kernel_rfl
theorem LA:P.fn 56=some NF:=by kernel_rfl
theorem JN:P.fn 57=some IR:=by kernel_rfl
theorem uf(T:Bf G r sz cap ho){n:Nat}(h:ρ 113=some (.ref 155 (some r.bu))):(pv (n+2)).ev ρ G (.attr (.var 113) 140)=some (.ref 199 (some r.mr)):=by
 refine a9 h ?_
 show some (V.ref 199 (some (G.N 140 155 r.bu)))=_
 rw[T.mr]
theorem pf{bh:Bool}(T:BH G r sz cap o)(h1:1<=x)(h2:x<=sz+1)(hj:jc<G.nl)(hne:jc≠r.ce)(hm:(G.lst jc).length=m)(hm0:0<m)(hw:m<=100)(hc:cap<=3900)(hK:1000<=K)
  (g:∀u G',FB r (o.map (·.1)) G G'->BH G' r (sz+m) (cap+m+8) (EY (x - 1) m c o)->k u G'):aD P K G 53 [.ref 155 (some r.bu), .int x, .list jc, .bool c, .bool bh] k:=by
 have hr:=T.b.raw
 have ss:=T.b.MR
 have ln:∀{G1:H} {n:Nat},G1.lst jc=G.lst jc->∀{ρ:au},ρ 134=some (.list jc)->(pv (n+3)).ev ρ G1 (.blt .len [.var 134])=some (.int m):=fun {G1 n} q {ρ} r1=>dz r1 (by rw[q,hm])
 refine av hK rfl Jl rfl (s_call hK rfl hr rfl (Cz T.b (ac hK rfl) fun _=>s_call hK rfl hr rfl (gW T.b h1 (bQ _) h2 (ac hK rfl) ?_)))
 refine aw hK rfl hr (aZ (ln rfl rfl) rfl rfl) (cg (fun q=>absurd (ao q) (by lia)) fun _=>s_end hK rfl ?_)
 refine s_call hK rfl hr (ah rfl (ah (ln rfl rfl) rfl)) (uV T.b (by lia) (ac hK rfl) fun _=>s_call hK rfl hr rfl (kU T.b (ac hK rfl) fun _=>?_))
 have T1:BH (G.newL []) r sz cap o:=T.newL
 have F1:FB r (o.map (·.1)) G (G.newL []):=(BO.refl hr).newL.fb
 have l1:(G.newL []).lst jc=G.lst jc:=aU hj
 have n1:jc<(G.newL []).nl:=aY hj
 generalize G.newL []=G1 at*
 refine s_call hK rfl T1.b.raw rfl (zd T1.b h1 h2 n1 hne (by rw[l1];exact hm) hw hc (ac hK rfl) fun _ G2 O2 B2=>?_)
 have T2:BH G2 r (sz+m) (cap+m+8) o:=T1.bo O2 B2
 have F2:FB r (o.map (·.1)) G G2:=F1.trans O2.fb
 have l2:G2.lst jc=G.lst jc:=(O2.lst jc n1 hne).trans l1
 have rest:∀{G3:H} {ρ:au} {d:Nat},Nat.ble (d+120) 1000=true->Nat.ble (d+880) 1000=true->BH G3 r (sz+m) (cap+m+8) o->FB r (o.map (·.1)) G G3->G3.lst jc=G.lst jc->jc<G3.nl->ρ 113=some (.ref 155 (some r.bu))->ρ 133=some (.int x)->ρ 134=some (.list jc)->ρ 90=some (.bool c)->
   aC P (K - d) ρ G3 [.expr (.meth (.attr (.var 113) 140) 141 [.var 133, .bop .add (.var 133) (.blt .len [.var 134]), .var 90]), .expr (.call 52 [.var 113, .var 133, .blt .len [.var 134], .var 90]), .expr (.call 48 [.var 113, .var 133, .bop .add (.var 133) (.blt .len [.var 134]), .int 0])] fun r _ h=>goes r (fun v=>k v h) (k .none h):=fun {G3 ρ d} hd hd2 T3 F3 l3 n3 r1 r2 r3 r4=>by
  have hd':=bP hd
  have hd2':=bP hd2
  have b:∀i,i<=8->Nat.ble (d+i+31) 1000=true:=fun i hi=>Nat.ble_eq_true_of_le (by lia)
  have T4:BH (G3.newL []) r (sz+m) (cap+m+8) o:=T3.newL
  have F4:FB r (o.map (·.1)) G (G3.newL []):=F3.trans (BO.refl T3.b.raw).newL.fb
  have l4:(G3.newL []).lst jc=G.lst jc:=(aU n3).trans l3
  have n4:jc<(G3.newL []).nl:=aY n3
  refine bE hK (b 0 (by decide)) (bM hK (b 2 (by lia)) T3.b.raw (uf T3.b r1) JF (ah r2 (ah (aP r2 (ln l3 r3) rfl) (ah r4 rfl))) (J2 T3.b (by lia) fun _=>?_))
  generalize G3.newL []=G4 at*
  refine s_call hK (b 1 (by decide)) T4.b.raw (ah r1 (ah r2 (ah (ln l4 r3) (ah r4 rfl)))) (Af T4 (by lia) (by lia) fun _ G5 F5 T5=>?_)
  have l5:G5.lst jc=G.lst jc:=(F5.lst jc n4 hne).trans l4
  refine s_call hK (b 2 (by lia)) T5.b.raw (ah r1 (ah r2 (ah (aP r2 (ln l5 r3) rfl) rfl))) (jH T5.b (by lia) fun _ G6 O6 B6=>az hK (b 3 (by decide)) (g _ _ ((F4.trans F5).trans O6.fb) (T5.bo O6 B6)))
 refine aw hK rfl T2.b.raw rfl (cg (fun _=>?_) fun _=>s_end hK rfl (rest rfl rfl T2 F2 l2 (ae n1 O2.nl) rfl rfl rfl rfl))
 have O3:BO r G2 (G2.sI 132 155 r.bu (x+m)):=(BO.refl T2.b.raw).wI
 exact aX hK rfl T2.b.raw (aP rfl (ln l2 rfl) rfl) rfl rfl (s_end hK rfl (rest rfl rfl (T2.bo O3 (T2.b.wI (by decide) (by decide))) (F2.trans O3.fb) l2 (ae n1 O2.nl) rfl rfl rfl rfl))
theorem E3(T:BH G r sz cap o)(h1:1<=s)(h2:s<e)(h3:e<=sz+1)(hK:1000<=K)(g:∀u G',FB r (o.map (·.1)) G G'->BH G' r (sz - (e - s)) cap (MH (s - 1) (e - s) o)->k u G'):aD P K G 56 [.ref 155 (some r.bu), .int s, .int e] k:=by
 have hr:=T.b.raw
 refine av hK rfl LA rfl (s_call hK rfl hr rfl (Cz T.b (ac hK rfl) fun _=>bY hK rfl (aV hK rfl hr rfl (gW T.b h1 (ba h2) h3 (ac hK rfl) (bS rfl (bS rfl ?_))))))
 refine aw hK rfl hr rfl (cg (fun q=>absurd (ao q) (by lia)) fun _=>s_end hK rfl ?_)
 refine s_call hK rfl hr rfl (kU T.b (ac hK rfl) fun _=>?_)
 have T1:BH (G.newL []) r sz cap o:=T.newL
 have F1:FB r (o.map (·.1)) G (G.newL []):=(BO.refl hr).newL.fb
 generalize G.newL []=G1 at*
 refine da hK rfl T1.b.raw rfl (uA T1.b h1 (ba h2) h3 (ac hK rfl) fun _ G2 O2 B2=>?_)
 have T2:BH G2 r (sz - (e - s)) cap o:=T1.bo O2 B2
 refine bE hK rfl (bM hK rfl T2.b.raw (uf T2.b rfl) Mr rfl (Jv T2.b (ac hK rfl) fun _=>?_))
 have T3:BH (G2.newL []) r (sz - (e - s)) cap o:=T2.newL
 have F3:FB r (o.map (·.1)) G (G2.newL []):=(F1.trans O2.fb).trans (BO.refl T2.b.raw).newL.fb
 generalize G2.newL []=G3 at*
 exact s_call hK rfl T3.b.raw rfl (vd T3 h2 (ac hK rfl) fun _ G4 F4 T4=>s_call hK rfl T4.b.raw rfl (jH T4.b (ac hK rfl) fun _ G5 O5 B5=>bg hK rfl O5.raw rfl (g _ _ ((F3.trans F4).trans O5.fb) (T4.bo O5 B5))))
theorem Im(T:BH G r sz cap o)(h1:1<=s)(h2:s<e)(h3:e<=sz+1)(hj:jc<G.nl)(hne:jc≠r.ce)(hm:(G.lst jc).length=m)(hm0:0<m)(hw:m<=100)(hc:cap<=3900)(hK:1000<=K)
  (g:∀u G',FB r (o.map (·.1)) G G'->BH G' r (sz - (e - s)+m) (cap+m+8) (MH (s - 1) (e - s) (EY (e - 1) m true o))->k u G'):aD P K G 57 [.ref 155 (some r.bu), .int s, .int e, .list jc] k:=by
 have hr:=T.b.raw
 have ss:=T.b.MR
 have ln:∀{G1:H} {n:Nat},G1.lst jc=G.lst jc->∀{ρ:au},ρ 134=some (.list jc)->(pv (n+3)).ev ρ G1 (.blt .len [.var 134])=some (.int m):=fun {G1 n} q {ρ} r1=>dz r1 (by rw[q,hm])
 refine av hK rfl JN rfl (s_call hK rfl hr rfl (Cz T.b (ac hK rfl) fun _=>bY hK rfl (aV hK rfl hr rfl (gW T.b h1 (ba h2) h3 (ac hK rfl) (bS rfl (bS rfl ?_))))))
 refine aw hK rfl hr rfl (cg (fun q=>absurd (ao q) (by lia)) fun _=>s_end hK rfl ?_)
 refine aw hK rfl hr (aZ (ln rfl rfl) rfl rfl) (cg (fun q=>absurd (ao q) (by lia)) fun _=>s_end hK rfl ?_)
 refine s_call hK rfl hr (ah rfl (ah (aP (ln rfl rfl) rfl rfl) rfl)) (uV (g1:=m - (e - s)) T.b (by lia) (ac hK rfl) fun _=>?_)
 refine dP hK rfl hr rfl (s_call hK rfl hr rfl (kU T.b (ac hK rfl) fun _=>?_))
 have T1:BH (G.newL []) r sz cap o:=T.newL
 have F1:FB r (o.map (·.1)) G (G.newL []):=(BO.refl hr).newL.fb
 have l1:(G.newL []).lst jc=G.lst jc:=aU hj
 have n1:jc<(G.newL []).nl:=aY hj
 generalize G.newL []=G1 at*
 refine da hK rfl T1.b.raw rfl (uA T1.b h1 (ba h2) h3 (ac hK rfl) fun _ G2 O2 B2=>?_)
 have T2:BH G2 r (sz - (e - s)) cap o:=T1.bo O2 B2
 have l2:G2.lst jc=G.lst jc:=(O2.lst jc n1 hne).trans l1
 have n2:jc<G2.nl:=ae n1 O2.nl
 refine s_call hK rfl T2.b.raw rfl (zd T2.b h1 (by lia) n2 hne (by rw[l2];exact hm) hw hc (ac hK rfl) fun _ G3 O3 B3=>?_)
 have T3:BH G3 r (sz - (e - s)+m) (cap+m+8) o:=T2.bo O3 B3
 have l3:G3.lst jc=G.lst jc:=(O3.lst jc n2 hne).trans l2
 have n3:jc<G3.nl:=ae n2 O3.nl
 have F3:FB r (o.map (·.1)) G G3:=(F1.trans O2.fb).trans O3.fb
 have rest:∀{G3:H} {ρ:au} {d:Nat},Nat.ble (d+120) 1000=true->Nat.ble (d+880) 1000=true->BH G3 r (sz - (e - s)+m) (cap+m+8) o->FB r (o.map (·.1)) G G3->G3.lst jc=G.lst jc->jc<G3.nl->ρ 113=some (.ref 155 (some r.bu))->ρ 119=some (.int s)->ρ 120=some (.int e)->ρ 134=some (.list jc)->ρ 143=some .none->(∃v,ρ 84=some v)->
   aC P (K - d) ρ G3 [.expr (.meth (.attr (.var 113) 140) 144 [.var 119, .var 120, .blt .len [.var 134]]), .expr (.call 52 [.var 113, .var 120, .blt .len [.var 134], .bool true]), .expr (.call 51 [.var 113, .var 119, .var 120]), .ite (.cmp (.var 143) .isNot .none) [.expr (.meth (.attr (.var 113) 136) 145 [.var 143])] [], .expr (.call 48 [.var 113, .var 119, .bop .add (.var 119) (.blt .len [.var 134]), .bop .sub (.var 120) (.var 119)]), .ret (.var 84)] fun r _ h=>goes r (fun v=>k v h) (k .none h):=fun {G3 ρ d} hd hd2 T3 F3 l3 n3 r1 r2 r3 r4 r5 r6=>by
  have hd':=bP hd
  have hd2':=bP hd2
  have b:∀i,i<=12->Nat.ble (d+i+31) 1000=true:=fun i hi=>Nat.ble_eq_true_of_le (by lia)
  have T4:BH (G3.newL []) r (sz - (e - s)+m) (cap+m+8) o:=T3.newL
  have F4:FB r (o.map (·.1)) G (G3.newL []):=F3.trans (BO.refl T3.b.raw).newL.fb
  have l4:(G3.newL []).lst jc=G.lst jc:=(aU n3).trans l3
  have n4:jc<(G3.newL []).nl:=aY n3
  obtain⟨v84,r6⟩:=r6
  refine bE hK (b 0 (by decide)) (bM hK (b 2 (by lia)) T3.b.raw (uf T3.b r1) Lm (ah r2 (ah r3 (ah (ln l3 r4) rfl))) (JC T3.b (by lia) fun _=>?_))
  generalize G3.newL []=G4 at*
  refine s_call hK (b 1 (by decide)) T4.b.raw (ah r1 (ah r3 (ah (ln l4 r4) rfl))) (Af T4 (by lia) (by lia) fun _ G5 F5 T5=>?_)
  have F5':=F4.trans F5
  have l5:G5.lst jc=G.lst jc:=(F5.lst jc n4 hne).trans l4
  have n5:jc<G5.nl:=ae n4 F5.nl
  have om:∀{f:HR×eQ->eQ},(o.map fun p=>(p.1,f p)).map (·.1)=o.map (·.1):=fun {f}=>by rcases o with _|_<;>rfl
  refine s_call hK (b 2 (by lia)) T5.b.raw (ah r1 (ah r2 (ah r3 rfl))) (vd T5 h2 (by lia) fun _ G6 F6 T6=>?_)
  rw[om] at F6
  have l6:G6.lst jc=G.lst jc:=(F6.lst jc n5 hne).trans l5
  refine aw hK (b 3 (by decide)) T6.b.raw (aZ r5 rfl rfl) (s_end hK (b 5 (by lia)) ?_)
  refine s_call hK (b 4 (by decide)) T6.b.raw (ah r1 (ah r2 (ah (aP r2 (ln l6 r4) rfl) (ah (aP r3 r2 rfl) rfl)))) (jH T6.b (by lia) fun _ G7 O7 B7=>bg hK (b 5 (by lia)) O7.raw r6 (g _ _ ((F5'.trans F6).trans O7.fb) (T6.bo O7 B7)))
 refine aw hK rfl T3.b.raw rfl (cg (fun _=>?_) fun _=>s_end hK rfl (rest rfl rfl T3 F3 l3 n3 rfl rfl rfl rfl rfl ⟨_,rfl⟩))
 have O4:BO r G3 (G3.sI 132 155 r.bu (G.I 132 155 r.bu+m - (e - s))):=(BO.refl T3.b.raw).wI
 exact aX hK rfl T3.b.raw (aP (aP rfl (ln l3 rfl) rfl) rfl rfl) rfl rfl (s_end hK rfl (rest rfl rfl (T3.bo O4 (T3.b.wI (by decide) (by decide))) (F3.trans O4.fb) l3 n3 rfl rfl rfl rfl rfl ⟨_,rfl⟩))
theorem wW(T:BH G r sz cap o)(h1:1<=x)(h2:x<=sz+1)(hj:jc<G.nl)(hne:jc≠r.ce)(hm:(G.lst jc).length=m)(hm0:0<m)(hw:m<=100)(hc:cap<=3900)(hK:1040<=K)
  (g:∀u G',FB r (o.map (·.1)) G G'->BH G' r (sz+m) (cap+m+8) (EY (x - 1) m c o)->k u G'):aD P K G 54 [.ref 155 (some r.bu), .int x, .list jc, .bool c] k:=
 av hK rfl LP rfl (s_call hK rfl T.b.raw rfl (pf T h1 h2 hj hne hm hm0 hw hc (ac hK rfl) fun u G1 F1 T1=>az hK rfl (g _ G1 F1 T1)))
end
structure Nw(G G':H):Prop where
 I:∀a c i,i<G.ni->G'.I a c i=G.I a c i
 B:∀a c i,i<G.ni->G'.B a c i=G.B a c i
 Q:∀a c i,i<G.ni->G'.Q a c i=G.Q a c i
 N:∀a c i,i<G.ni->G'.N a c i=G.N a c i
 F:∀a c i,i<G.ni->G'.F a c i=G.F a c i
 lst:∀j,j<G.nl->G'.lst j=G.lst j
 dct:∀d,d<G.nd->G'.dct d=G.dct d
 ni:G.ni<=G'.ni
 nl:G.nl<=G'.nl
 nd:G.nd<=G'.nd
abbrev Rw:=List (Nat×Nat×List Nat)
noncomputable def mE(c:Nat)(l:Rw):Bool:=l.all fun p=> !Nat.beq p.1 c
section
variable{G G' G1:H}{c i a a' c' i' K d B:Nat}{as:List Nat}{rest:Rw}{kf:Fl->au->H->Prop}{ρ:au}{v:V}{e:Mine.E}{ss:List S}
theorem Nw.refl:Nw G G:=⟨fun _ _ _ _=>rfl,fun _ _ _ _=>rfl,fun _ _ _ _=>rfl,fun _ _ _ _=>rfl,fun _ _ _ _=>rfl,fun _ _=>rfl,fun _ _=>rfl,ab _,ab _,ab _⟩
theorem Nw.trans{G'':H}(p:Nw G G')(q:Nw G' G''):Nw G G'':=
 ⟨fun a c i h=>(q.I a c i (ae h p.ni)).trans (p.I a c i h),fun a c i h=>(q.B a c i (ae h p.ni)).trans (p.B a c i h),fun a c i h=>(q.Q a c i (ae h p.ni)).trans (p.Q a c i h),fun a c i h=>(q.N a c i (ae h p.ni)).trans (p.N a c i h),fun a c i h=>(q.F a c i (ae h p.ni)).trans (p.F a c i h),
  fun j h=>(q.lst j (ae h p.nl)).trans (p.lst j h),fun d h=>(q.dct d (ae h p.nd)).trans (p.dct d h),af p.ni q.ni,af p.nl q.nl,af p.nd q.nd⟩
theorem Bj{x:Nat}:(G.sN a c i x).N a c i=x:=lQ
theorem rm{x:Nat}(h:a'≠a):(G.sN a c i x).N a' c' i'=G.N a' c' i':=iw h
theorem K7{x:Bool}(h:¬(c'=c/\i'=i)):(G.sB a c i x).B a' c' i'=G.B a' c' i':=mR h
theorem IC{x:Nat}(h:¬(c'=c/\i'=i)):(G.sN a c i x).N a' c' i'=G.N a' c' i':=mR h
theorem Ks{x:V}(h:¬(c'=c/\i'=i)):(G.sF a c i x).F a' c' i'=G.F a' c' i':=mR h
section
variable(p:Nw G G1)(hi:G.ni<=i)
include p hi
theorem Nw.sI{x:Int}:Nw G (G1.sI a c i x):=⟨fun a' c' i' h=>(fw fun w=>absurd (w.2▸h) (Nat.not_lt.mpr hi)).trans (p.I a' c' i' h),p.B,p.Q,p.N,p.F,p.lst,p.dct,p.ni,p.nl,p.nd⟩
theorem Nw.sB{x:Bool}:Nw G (G1.sB a c i x):=⟨p.I,fun a' c' i' h=>(K7 fun w=>absurd (w.2▸h) (Nat.not_lt.mpr hi)).trans (p.B a' c' i' h),p.Q,p.N,p.F,p.lst,p.dct,p.ni,p.nl,p.nd⟩
theorem Nw.sQ{x:Option Nat}:Nw G (G1.sQ a c i x):=⟨p.I,p.B,fun a' c' i' h=>(v9 fun w=>absurd (w.2▸h) (Nat.not_lt.mpr hi)).trans (p.Q a' c' i' h),p.N,p.F,p.lst,p.dct,p.ni,p.nl,p.nd⟩
theorem Nw.sN{x:Nat}:Nw G (G1.sN a c i x):=⟨p.I,p.B,p.Q,fun a' c' i' h=>(IC fun w=>absurd (w.2▸h) (Nat.not_lt.mpr hi)).trans (p.N a' c' i' h),p.F,p.lst,p.dct,p.ni,p.nl,p.nd⟩
theorem Nw.sF{x:V}:Nw G (G1.sF a c i x):=⟨p.I,p.B,p.Q,p.N,fun a' c' i' h=>(Ks fun w=>absurd (w.2▸h) (Nat.not_lt.mpr hi)).trans (p.F a' c' i' h),p.lst,p.dct,p.ni,p.nl,p.nd⟩
end
theorem Nw.aQ(p:Nw G G1):Nw G (G1.aQ c):=⟨p.I,p.B,p.Q,p.N,p.F,p.lst,p.dct,aL p.ni,p.nl,p.nd⟩
theorem Nw.newL{xs:List V}(p:Nw G G1):Nw G (G1.newL xs):=⟨p.I,p.B,p.Q,p.N,p.F,fun j h=>(aU (ae h p.nl)).trans (p.lst j h),p.dct,p.ni,aL p.nl,p.nd⟩
theorem Nw.newD(p:Nw G G1):Nw G G1.newD:=⟨p.I,p.B,p.Q,p.N,p.F,p.lst,fun j h=>(if_neg (aj (ae h p.nd))).trans (p.dct j h),p.ni,p.nl,aL p.nd⟩
theorem Nw.rw(p:Nw G G1){l:Rw}:Nw G {G1 with raw:=l}:=⟨p.I,p.B,p.Q,p.N,p.F,p.lst,p.dct,p.ni,p.nl,p.nd⟩
theorem sS:jI c i (c,i,as)=true:=by
 show(Nat.beq c c&&Nat.beq i i)=true
 rw[Nat.beq_refl,Nat.beq_refl];rfl
theorem uC{p:Nat×Nat×List Nat}(h:Nat.beq p.1 c=false):jI c i p=false:=by
 show(Nat.beq p.1 c&&Nat.beq p.2.1 i)=false
 rw[h];rfl
theorem ou(h:mE c rest=true){p:Nat×Nat×List Nat}(hp:p∈rest):Nat.beq p.1 c=false:=ma (List.all_eq_true.mp h p hp)
theorem wt(h:mE c rest=true):bL a c i rest=rest:=by
 unfold bL
 refine(List.map_congr_left fun p hp=>?_).trans (List.map_id _)
 rw[uC (ou h hp)];rfl
theorem aG(h:mE c rest=true)(q:G.raw=(c,i,as)::rest):bL a c i G.raw=(c,i,a::as)::rest:=by
 rw[q]
 show(bif jI c i (c,i,as) then _ else _)::bL a c i rest=_
 rw[sS,wt h];rfl
theorem cz(h:mE c rest=true)(q:G.raw=(c,i,as)::rest)(hall:((P.all c).all fun a=>as.any (Nat.beq a))=true):whole P c i .none G=some (.ref c (some i),{G with raw:=rest}):=by
 have h1:((P.all c).all fun a=>fj a c i G.raw)=true:=List.all_eq_true.mpr fun a ha=>by
  rw[q]
  show((!jI c i (c,i,as)||as.any (Nat.beq a))&&(rest.all fun p=> !jI c i p||p.2.2.any (Nat.beq a)))=true
  rw[sS,List.all_eq_true.mp hall a ha]
  show(rest.all fun p=> !jI c i p||p.2.2.any (Nat.beq a))=true
  exact List.all_eq_true.mpr fun p hp=>by rw[uC (ou h hp)];rfl
 have h2:dY c i G.raw=rest:=by
  rw[q]
  unfold dY
  rw[List.filter_cons_of_neg (by rw[sS];exact nofun)]
  exact List.filter_eq_self.mpr fun p hp=>by rw[uC (ou h hp)];rfl
 show(bif _ then some (V.ref c (some i),{G with raw:=dY c i G.raw}) else none)=_
 rw[h1,h2];rfl
theorem aJ{h':H}(hK:B<=K)(hd:Nat.ble (d+31) B=true)(he:∀n kk,aN P (n+16) ρ G e kk=kk v G1)(hs:ρ 178=some (.ref c (some i)))(q:pH P G1 (.ref c (some i)) a v=some h')(g:aC P (K - (d+1)) ρ h' ss kf):aC P (K - d) ρ G (.asg (.attr (.var 178) a) e::ss) kf:=by
 rw[bc hK hd,bq,bF hK hd,dg]
 obtain⟨n,e1⟩:∃n,K - (d+2)=n+16:=⟨K - (d+2) - 16,(Nat.sub_add_cancel (af (by decide) (zw hK hd))).symm⟩
 rw[e1,he]
 show bZ P (n+15+1) ρ G1 _ _ _
 dsimp only[dE,w_var]
 refine bS hs (bS q ?_)
 show aC P (n+16+1) _ _ _ _
 rw[←e1,←bF hK hd];exact g
end
theorem CL:P.fn 1000=some zD:=by kernel_rfl
theorem Dj:P.fn 1001=some Ax:=by kernel_rfl
theorem CH:P.fn 1002=some y9:=by kernel_rfl
theorem Du:P.fn 1004=some zi:=by kernel_rfl
theorem DC:P.fn 1005=some AA:=by kernel_rfl
theorem Bz:P.fn 1008=some zY:=by kernel_rfl
theorem Da:P.fn 1015=some zx:=by kernel_rfl
theorem AY:P.fn 1020=some pU:=by kernel_rfl
theorem BE:P.fn 1023=some Ay:=by kernel_rfl
section
variable{G G1 h h':H}{K B d c i a f:Nat}{kf:Fl->au->H->Prop}{kl:List V->H->Prop}{ρ:au}{v:V}{ss:List S}{es:List Mine.E}{vs:List V}
theorem ND(hK:B<=K)(hd:Nat.ble (d+31) B=true):∃n,K - d=n+16:=⟨K - d - 16,(Nat.sub_add_cancel (af (by decide) (dR hK hd))).symm⟩
theorem xm(hK:B<=K)(hd:Nat.ble (d+31) B=true)(he:∀n kk,cp P (n+16) ρ G es kk=kk vs G1)(g:kl vs G1):cp P (K - d) ρ G es kl:=by
 obtain⟨n,e1⟩:=ND hK hd
 rw[e1,he];exact g
theorem pE{cn:Nat}(hK:B<=K)(hd:Nat.ble (d+41) B=true)(he:∀n kk,cp P (n+16) ρ G es kk=kk vs G1)(hn:P.init cn=some f)(hs:ρ 178=some (.ref c (some i)))
  (g:aD P (K - (d+3)) (G1.aQ cn) f (.ref cn (some G1.ni)::vs) fun r h'=>fg (whole P cn G1.ni r h') fun v h=>∃h',pH P h (.ref c (some i)) a v=some h'/\aC P (K - (d+1)) ρ h' ss kf):aC P (K - d) ρ G (.asg (.attr (.var 178) a) (.new cn es)::ss) kf:=by
 have hd':=bP hd
 have b:∀i,i<=8->Nat.ble (d+i+31) B=true:=fun i hi=>Nat.ble_eq_true_of_le (by lia)
 have key:(fun v h=>∃h',pH P h (.ref c (some i)) a v=some h'/\aC P (K - (d+1)) ρ h' ss kf)=fun v h=>bZ P (K - (d+2)) ρ h (.attr (.var 178) a) v fun ρ h=>aC P (K - (d+1)) ρ h ss kf:=by
  funext v h
  obtain⟨n,e1⟩:=ND hK (b 2 (by lia))
  rw[e1]
  show _=bZ P (n+15+1) _ _ _ _ _
  rw[dE,w_var,hs,BK]
  rcases pH P h (.ref c (some i)) a v with _|h'
  ·exact propext ⟨fun⟨_,q,_⟩=>(nomatch q),fun q=>q.elim⟩
  ·exact propext ⟨fun⟨_,q,w⟩=>ag q▸w,fun q=>⟨h',rfl,q⟩⟩
 rw[key] at g
 exact je hK (b 0 (by decide)) (e_new hK (b 2 (by lia)) (xm hK (b 3 (by decide)) he (bS hn g)))
end
section
variable{G G' G1:H}{K:Nat}{rest:Rw}{kv:V->H->Prop}{z:Int}{f r:Bool}
theorem bV{α:Type}{i:Nat}{z w:α}:(bif Nat.beq i i then z else w)=z:=iA rfl
theorem DF(hr:G.raw=rest)(ho:mE 180 rest=true)(hK:60<=K)(g:∀G',Nw G G'->G'.raw=rest->G'.ni=G.ni+1->G'.nl=G.nl->G'.nd=G.nd->G'.Q 79 180 G.ni=none->kv (.ref 180 (some G.ni)) G'):
  aD P K (G.aQ 180) 1001 [.ref 180 (some G.ni)] fun r h'=>fg (whole P 180 G.ni r h') kv:=by
 have r0:(G.aQ 180).raw=(180,G.ni,[])::rest:=by show _::G.raw=_;rw[hr]
 have r1:((G.aQ 180).sQ 79 180 G.ni none).raw=(180,G.ni,[79])::rest:=aG ho r0
 have r2:(((G.aQ 180).sQ 79 180 G.ni none).sI 83 180 G.ni 0).raw=(180,G.ni,[83,79])::rest:=aG ho r1
 refine av hK rfl Dj rfl (aJ hK rfl (fun _ _=>rfl) rfl rfl (aJ hK rfl (fun _ _=>rfl) rfl rfl (az hK rfl ?_)))
 exact cj (cz ho r2 (by kernel_rfl)) (g _ (((Nw.refl.aQ).sQ (ab _)).sI (ab _)).rw rfl rfl rfl rfl (wH (a:=79) (c:=180)))
theorem Bc(hr:G.raw=rest)(ho:mE 179 rest=true)(hK:60<=K)(g:∀G',Nw G G'->G'.raw=rest->G'.ni=G.ni+1->G'.nl=G.nl->G'.nd=G.nd->Loose G' G.ni->G'.I 97 179 G.ni=z->G'.B 91 179 G.ni=f->G'.B 92 179 G.ni=r->kv (.ref 179 (some G.ni)) G'):
  aD P K (G.aQ 179) 1000 [.ref 179 (some G.ni), .int z, .int 0, .int 0, .bool f, .bool r] fun r h'=>fg (whole P 179 G.ni r h') kv:=by
 have r0:(G.aQ 179).raw=(179,G.ni,[])::rest:=by show _::G.raw=_;rw[hr]
 have q1:=aG (a:=97) ho r0
 have q2:=aG (G:=(G.aQ 179).sI 97 179 G.ni z) (a:=67) ho q1
 have q3:=aG (G:=((G.aQ 179).sI 97 179 G.ni z).sI 67 179 G.ni 0) (a:=68) ho q2
 generalize e3:(((G.aQ 179).sI 97 179 G.ni z).sI 67 179 G.ni 0).sI 68 179 G.ni 0=G3
 have w3:Nw G G3:=e3▸((Nw.refl.aQ.sI (ab _)).sI (ab _)).sI (ab _)
 have q3:G3.raw=(179,G.ni,[68,67,97])::rest:=e3▸q3
 have i3:G3.I 97 179 G.ni=z:=e3▸bV
 have n3:G3.ni=G.ni+1/\G3.nl=G.nl/\G3.nd=G.nd:=e3▸⟨rfl,rfl,rfl⟩
 have q4:=aG (a:=91) ho q3
 have q5:=aG (G:=G3.sB 91 179 G.ni f) (a:=92) ho q4
 have q6:=aG (G:=(G3.sB 91 179 G.ni f).sB 92 179 G.ni r) (a:=69) ho q5
 have q7:=aG (G:=((G3.sB 91 179 G.ni f).sB 92 179 G.ni r).sI 69 179 G.ni 0) (a:=66) ho q6
 have q8:=aG (G:=(((G3.sB 91 179 G.ni f).sB 92 179 G.ni r).sI 69 179 G.ni 0).sI 66 179 G.ni 0) (a:=10) ho q7
 generalize e8:((((G3.sB 91 179 G.ni f).sB 92 179 G.ni r).sI 69 179 G.ni 0).sI 66 179 G.ni 0).sB 10 179 G.ni false=G8
 have w8:Nw G G8:=e8▸((((w3.sB (ab _)).sB (ab _)).sI (ab _)).sI (ab _)).sB (ab _)
 have q8:G8.raw=(179,G.ni,[10,66,69,92,91,68,67,97])::rest:=e8▸q8
 have i8:G8.I 97 179 G.ni=z/\G8.I 66 179 G.ni=0/\G8.B 91 179 G.ni=f/\G8.B 92 179 G.ni=r:=e8▸⟨i3,bV,bV,bV⟩
 have n8:G8.ni=G.ni+1/\G8.nl=G.nl/\G8.nd=G.nd:=e8▸n3
 have q9:=aG (a:=71) ho q8
 have q10:=aG (G:=G8.sQ 71 179 G.ni none) (a:=72) ho q9
 have q11:=aG (G:=(G8.sQ 71 179 G.ni none).sQ 72 179 G.ni none) (a:=74) ho q10
 refine av hK rfl CL rfl (aJ hK rfl (fun _ _=>rfl) rfl rfl (aJ hK rfl (fun _ _=>rfl) rfl rfl (aJ hK rfl (fun _ _=>rfl) rfl (congrArg some e3) ?_)))
 refine aJ hK rfl (fun _ _=>rfl) rfl rfl (aJ hK rfl (fun _ _=>rfl) rfl rfl (aJ hK rfl (fun _ _=>rfl) rfl rfl (aJ hK rfl (fun _ _=>rfl) rfl rfl (aJ hK rfl (fun _ _=>rfl) rfl (congrArg some e8) ?_))))
 refine aJ hK rfl (fun _ _=>rfl) rfl rfl (aJ hK rfl (fun _ _=>rfl) rfl rfl (aJ hK rfl (fun _ _=>rfl) rfl rfl (az hK rfl ?_)))
 exact cj (cz ho q11 (by kernel_rfl)) (g _ (((w8.sQ (ab _)).sQ (ab _)).sQ (ab _)).rw rfl n8.1 n8.2.1 n8.2.2 ⟨bV,bV,bV,i8.2.1⟩ i8.1 i8.2.2.1 i8.2.2.2)
theorem Kg(hr:G.raw=[])(hK:140<=K)(g:∀G',Nw G G'->G'.raw=[]->G'.ni=G.ni+2->G'.nl=G.nl+1->G'.nd=G.nd->Loose G' (G.ni+1)->G'.I 97 179 (G.ni+1)=z->G'.B 91 179 (G.ni+1)=f->G'.B 92 179 (G.ni+1)=r->G'.I 97 108 G.ni=z->G'.N 65 108 G.ni=G.ni+1->G'.Q 106 108 G.ni=none->G'.N 96 108 G.ni=G.nl->G'.lst G.nl=[]->kv (.ref 108 (some G.ni)) G'):
  aD P K (G.aQ 108) 1004 [.ref 108 (some G.ni), .int z, .bool f, .bool r] fun r h'=>fg (whole P 108 G.ni r h') kv:=by
 have r0:(G.aQ 108).raw=(108,G.ni,[])::[]:=by show _::G.raw=_;rw[hr]
 have q1:((G.aQ 108).sI 97 108 G.ni z).raw=(108,G.ni,[97])::[]:=aG rfl r0
 refine av hK rfl Du rfl (aJ hK rfl (fun _ _=>rfl) rfl rfl ?_)
 have w1:Nw G ((G.aQ 108).sI 97 108 G.ni z):=Nw.refl.aQ.sI (ab _)
 have j1:((G.aQ 108).sI 97 108 G.ni z).I 97 108 G.ni=z:=lG
 have n1:((G.aQ 108).sI 97 108 G.ni z).ni=G.ni+1/\((G.aQ 108).sI 97 108 G.ni z).nl=G.nl/\((G.aQ 108).sI 97 108 G.ni z).nd=G.nd:=⟨rfl,rfl,rfl⟩
 generalize (G.aQ 108).sI 97 108 G.ni z=G1 at*
 refine pE hK rfl (fun _ _=>rfl) (show P.init 179=some 1000 by kernel_rfl) rfl (Bc (rest:=[(108,G.ni,[97])]) q1 rfl (ac hK rfl) fun G2 w2 q2 m1 m2 m3 L2 a1 a2 a3=>?_)
 rw[n1.1] at L2 a1 a2 a3
 have j2:G2.I 97 108 G.ni=z:=(w2.I _ _ _ (by rw[n1.1];exact aE _)).trans j1
 refine⟨G2.sN 65 108 G.ni G1.ni,rfl,?_⟩
 have q3:(G2.sN 65 108 G.ni G1.ni).raw=(108,G.ni,[65,97])::[]:=aG rfl q2
 have q4:((G2.sN 65 108 G.ni G1.ni).sQ 106 108 G.ni none).raw=(108,G.ni,[106,65,97])::[]:=aG rfl q3
 have q5:((((G2.sN 65 108 G.ni G1.ni).sQ 106 108 G.ni none).newL []).sN 96 108 G.ni G2.nl).raw=(108,G.ni,[96,106,65,97])::[]:=aG rfl q4
 have w:Nw G ((((G2.sN 65 108 G.ni G1.ni).sQ 106 108 G.ni none).newL []).sN 96 108 G.ni G2.nl):=((((w1.trans w2).sN (ab _)).sQ (ab _)).newL).sN (ab _)
 refine aJ hK rfl (fun _ _=>rfl) rfl rfl (aJ hK rfl (G1:=((G2.sN 65 108 G.ni G1.ni).sQ 106 108 G.ni none).newL []) (fun _ _=>rfl) rfl rfl (az hK rfl ?_))
 refine cj (cz rfl q5 (by kernel_rfl)) (g _ w.rw rfl ?_ ?_ ?_ ⟨?_,?_,?_,L2.o⟩ a1 a2 a3 j2 ?_ ?_ ?_ ?_)
 ·show G2.ni=_
  rw[m1,n1.1]
 ·show G2.nl+1=_
  rw[m2,n1.2.1]
 ·show G2.nd=_
  rw[m3,n1.2.2]
 ·exact L2.L
 ·exact L2.R
 ·exact L2.U
 ·exact Eq.trans bV n1.1
 ·exact bV
 ·exact Eq.trans bV (m2.trans n1.2.1)
 ·have:G.nl=((G2.sN 65 108 G.ni G1.ni).sQ 106 108 G.ni none).nl:=(m2.trans n1.2.1).symm
  exact this.symm▸a6
end
structure Bd(G:H)(h:HR):Prop where
 hm:h.hm<G.ni
 tr:h.tr<G.ni
 ru:h.ru<G.ni
 od:h.od<G.nd
 nd:∀k,k<h.n->h.nd k<G.ni
 ov:∀k,k<h.n->h.ov k<G.ni
structure Lo(G0:H)(h:HR):Prop where
 tr:G0.ni<=h.tr
 od:G0.nd<=h.od
 nd:∀k,k<h.n->G0.ni<=h.nd k
 ov:∀k,k<h.n->G0.ni<=h.ov k
 pl:∀k,k<h.n->G0.nl<=h.pl k
noncomputable def HR.add(h:HR)(o n p:Nat)(f r:Bool):HR:={h with n:=h.n+1,ov:=up1 h.ov h.n o,nd:=up1 h.nd h.n n,pl:=up1 h.pl h.n p,f:=up1 h.f h.n f,r:=up1 h.r h.n r,s:=up1 h.s h.n false}
theorem JP:P.fn 36=some NZ:=by kernel_rfl
theorem Kw:P.fn 37=some O0:=by kernel_rfl
theorem GS:P.init 108=some 1004:=by kernel_rfl
section
variable{G0 G G' G1:H}{h:HR}{st:eQ}{L:List Nat}{tr K j i:Nat}{k:V->H->Prop}{B E:Nat->Int}{b e:Int}{f r:Bool}
theorem Tr.of(T:Tr G tr L B E)(q:G'.Q 79 180 tr=G.Q 79 180 tr)(hI:∀a i,i∈L->G'.I a 179 i=G.I a 179 i)(hQ:∀a i,i∈L->G'.Q a 179 i=G.Q a 179 i)(hB:∀a i,i∈L->G'.B a 179 i=G.B a 179 i):Tr G' tr L B E:=by
 obtain⟨nd,sh,id,F,m,hl,T,hm⟩:=T
 have l:∀s,s<sh.1->id s∈L:=fun s h=>(hm _).mpr ⟨s,h,rfl⟩
 exact⟨nd,sh,id,F,m,hl,⟨T.mem,q.trans T.root,fun s h=>(hQ _ _ (l s h)).trans (T.L s h),fun s h=>(hQ _ _ (l s h)).trans (T.R s h),fun s h=>(hQ _ _ (l s h)).trans (T.U s h),fun s h=>(hB _ _ (l s h)).trans (T.C s h),
  fun s h=>(hI _ _ (l s h)).trans (T.fb s h),fun s h=>(hI _ _ (l s h)).trans (T.fe s h),fun s h=>(hI _ _ (l s h)).trans (T.fm s h),fun s h=>(hI _ _ (l s h)).trans (T.fo s h),T.fmm,T.fem,T.inj,T.le,T.ord⟩,hm⟩
theorem Tr.nw(T:Tr G tr L B E)(w:Nw G G')(hL:∀i,i∈L->i<G.ni)(ht:tr<G.ni):Tr G' tr L B E:=
 T.of (w.Q _ _ _ ht) (fun a i h=>w.I _ _ _ (hL i h)) (fun a i h=>w.Q _ _ _ (hL i h)) fun a i h=>w.B _ _ _ (hL i h)
theorem Hm.nw(M:Hm G h st)(D:Bd G h)(w:Nw G G'):Hm G' h st:=by
 obtain⟨L,B,E,T,hm,hv⟩:=M.t
 exact⟨M.n4,(w.N _ _ _ D.hm).trans M.tr,(w.N _ _ _ D.hm).trans M.od,(w.N _ _ _ D.hm).trans M.rl,⟨(w.F _ _ _ D.ru).trans M.ru.nil,(w.I _ _ _ D.ru).trans M.ru.ev,(w.I _ _ _ D.ru).trans M.ru.cat⟩,M.ndI,M.ovI,⟨L,B,E,T.nw w (fun i hi=>by obtain⟨k,hk,_,q⟩:=(hm i).mp hi;exact q▸D.nd k hk) D.tr,hm,hv⟩,
  fun k hk=>(w.N _ _ _ (D.ov k hk)).trans (M.on k hk),fun k hk=>(w.I _ _ _ (D.ov k hk)).trans (M.oi k hk),fun k hk=>(w.Q _ _ _ (D.ov k hk)).trans (M.oh k hk),fun k hk=>(w.N _ _ _ (D.ov k hk)).trans (M.op k hk),fun k hk=>⟨ae (M.pl k hk).1 w.nl,(w.lst _ (M.pl k hk).1).trans (M.pl k hk).2⟩,
  fun k hk=>(w.I _ _ _ (D.nd k hk)).trans (M.ni k hk),fun k hk=>(w.B _ _ _ (D.nd k hk)).trans (M.nf k hk),fun k hk=>(w.B _ _ _ (D.nd k hk)).trans (M.nr k hk),fun k hk=>by rw[w.dct _ D.od];exact M.d1 k hk,fun j hj=>by rw[w.dct _ D.od];exact M.d2 j hj,by exact(w.dct _ D.od)▸M.d3⟩
theorem sp{n:Nat}{P:Nat->Prop}(f:∀k,k<n->P k)(g:P n):∀k,k<n+1->P k:=fun k hk=>(Nat.lt_or_eq_of_le (bD hk)).elim (f k) fun e=>e▸g
theorem Ew{x:Nat->Nat}{n v:Nat}(P:Nat->Prop)(f:∀k,k<n->P (x k))(g:P v):∀k,k<n+1->P (up1 x n v k):=
 sp (fun k c=>(aB (aj c)).symm▸f k c) ((ay).symm▸g)
structure Made(G1 G6:H)(h:HR)(o n p:Nat)(f r:Bool):Prop where
 N:G6.N=G1.N
 F:G6.F=G1.F
 I:∀{a c i},c≠179->c≠180->G6.I a c i=G1.I a c i
 Q:∀k,k<h.n->G6.Q 106 108 (h.ov k)=G1.Q 106 108 (h.ov k)
 Qn:G6.Q 106 108 o=some h.hm
 i97:∀{i},G6.I 97 179 i=G1.I 97 179 i
 b91:∀{i},G6.B 91 179 i=G1.B 91 179 i
 b92:∀{i},G6.B 92 179 i=G1.B 92 179 i
 l6:∀j,j<G1.nl->G6.lst j=G1.lst j
 nl6:G1.nl<=G6.nl
 dd:G6.dct h.od=(fun j=>if j=(h.n:Int) then some (.ref 108 (some o)) else(G1.dct h.od).1 j,false)
 ndne:∀k,k<h.n->h.nd k≠n
 ovne:∀k,k<h.n->h.ov k≠o
 x1:G1.I 97 179 n=h.n
 x2:G1.B 91 179 n=f
 x3:G1.B 92 179 n=r
 x4:G1.I 97 108 o=h.n
 x5:G1.N 65 108 o=n
 x7:G1.N 96 108 o=p
 pl:p<G1.nl
 x8:G1.lst p=qa false
theorem HZ{x:Nat->Nat}{n v:Nat}(f:∀k k',k<n->k'<n->x k=x k'->k=k')(g:∀k,k<n->x k≠v)(k k':Nat)(hk:k<n+1)(hk':k'<n+1)(q:up1 x n v k=up1 x n v k'):k=k':=by
 rcases Nat.lt_or_eq_of_le (bD hk) with c|c<;>rcases Nat.lt_or_eq_of_le (bD hk') with c'|c'
 ·rw[aB (aj c),aB (aj c')] at q;exact f k k' c c' q
 ·rw[aB (aj c),c',ay] at q;exact absurd q (g k c)
 ·rw[c,ay,aB (aj c')] at q;exact absurd q.symm (g k' c')
 ·rw[c,c']
theorem wJ{α β:Type}{x:Nat->α}{y z:Nat->β}{n:Nat}{v:α}{w:β}(P:Nat->α->β->Prop)(hz:∀k,k<n->z k=y k)(hn:z n=w)(f:∀k,k<n->P k (x k) (y k))(g:P n v w):∀k,k<n+1->P k (up1 x n v k) (z k):=
 sp (fun k c=>(aB (aj c)).symm▸hz k c▸f k c) ((ay).symm▸hn▸g)
theorem Hm.grow{G6:H}{o n p:Nat}(M:Hm G1 h st)(hn:h.n<=3)(X:Made G1 G6 h o n p f r)(T:Tr G6 h.tr (n::L) (fun i=>if i=n then b else B i) (fun i=>if i=n then e else E i))
  (hm:∀i,i∈L↔∃k,k<h.n/\(st k).isSome=true/\h.nd k=i)(hv:∀k,k<h.n->∀b e,st k=some (b,e)->B (h.nd k)=b/\E (h.nd k)=e):Hm G6 (h.add o n p f r) (tj st h.n (some (b,e))):=by
 have u1:∀{α:Type} {x:Nat->α} {v:α} k,k<h.n->up1 x h.n v k=x k:=fun k q=>aB (aj q)
 have us:∀k,k<h.n->tj st h.n (some (b,e)) k=st k:=fun k q=>if_neg (aj q)
 have ue:tj st h.n (some (b,e)) h.n=some (b,e):=if_pos rfl
 have N:=fun a c i=>congrFun (congrFun (congrFun X.N a) c) i
 have i8:∀{a i},G6.I a 108 i=G1.I a 108 i:=X.I (by decide) (by decide)
 refine⟨Nat.succ_le_succ hn,(N ..).trans M.tr,(N ..).trans M.od,(N ..).trans M.rl,⟨(congrFun (congrFun (congrFun X.F _) _) _).trans M.ru.nil,(X.I (by decide) (by decide)).trans M.ru.ev,(X.I (by decide) (by decide)).trans M.ru.cat⟩,
  HZ M.ndI X.ndne,HZ M.ovI X.ovne,⟨_,_,_,T,fun i=>?_,sp (fun k c b' e' q=>?_) fun b' e' q=>?_⟩,
  wJ (fun _ i j=>G6.N 65 108 i=j) u1 ay (fun k c=>(N ..).trans (M.on k c)) ((N ..).trans X.x5),
  wJ (β:=Unit) (z:=fun _=>()) (fun k i _=>G6.I 97 108 i=k) (fun _ _=>rfl) rfl (fun k c=>i8.trans (M.oi k c)) (i8.trans X.x4),
  wJ (fun _ i (s:Option (Int×Int))=>G6.Q 106 108 i=s.map fun _=>h.hm) us ue (fun k c=>(X.Q k c).trans (M.oh k c)) X.Qn,
  wJ (fun _ i j=>G6.N 96 108 i=j) u1 ay (fun k c=>(N ..).trans (M.op k c)) ((N ..).trans X.x7),
  wJ (fun _ i j=>i<G6.nl/\G6.lst i=qa j) u1 ay (fun k c=>⟨ae (M.pl k c).1 X.nl6,(X.l6 _ (M.pl k c).1).trans (M.pl k c).2⟩) ⟨ae X.pl X.nl6,(X.l6 _ X.pl).trans X.x8⟩,
  wJ (β:=Unit) (z:=fun _=>()) (fun k i _=>G6.I 97 179 i=k) (fun _ _=>rfl) rfl (fun k c=>X.i97.trans (M.ni k c)) (X.i97.trans X.x1),
  wJ (fun _ i j=>G6.B 91 179 i=j) u1 ay (fun k c=>X.b91.trans (M.nf k c)) (X.b91.trans X.x2),
  wJ (fun _ i j=>G6.B 92 179 i=j) u1 ay (fun k c=>X.b92.trans (M.nr k c)) (X.b92.trans X.x3),
  wJ (fun k i (s:Option (Int×Int))=>(G6.dct h.od).1 k=s.map fun _=> .ref 108 (some i)) us ue (fun k c=>(congrArg (fun d=>d.1 (k:Int)) X.dd).trans ((if_neg fun w=>aj c (Int.ofNat.inj w)).trans (M.d1 k c))) ((congrArg (fun d=>d.1 (h.n:Int)) X.dd).trans (if_pos rfl)),
  fun j hj=>(congrArg (fun d=>d.1 j) X.dd).trans ((if_neg (hj h.n (aE _))).trans (M.d2 j fun k hk=>hj k (aY hk))), .inr (congrArg Prod.snd X.dd)⟩
 ·rw[List.mem_cons,hm i]
  constructor
  ·intro q
   rcases q with q|⟨k,h1,h2,h3⟩
   ·exact⟨h.n,aE _,by rw[ue];rfl,ay.trans q.symm⟩
   ·exact⟨k,aY h1,by rw[us _ h1];exact h2,(u1 _ h1).trans h3⟩
  ·intro ⟨k,h1,h2,h3⟩
   rcases Nat.lt_or_eq_of_le (bD h1) with c|c
   ·rw[us _ c] at h2;exact .inr ⟨k,c,h2,(u1 _ c).symm.trans h3⟩
   ·rw[c] at h3;exact .inl (h3.symm.trans ay)
 ·show(if up1 h.nd h.n n k=n then b else B (up1 h.nd h.n n k))=b'/\(if up1 h.nd h.n n k=n then e else E (up1 h.nd h.n n k))=e'
  rw[us _ c] at q
  rw[u1 _ c,if_neg (X.ndne k c),if_neg (X.ndne k c)]
  exact hv k c b' e' q
 ·show(if up1 h.nd h.n n h.n=n then b else B (up1 h.nd h.n n h.n))=b'/\(if up1 h.nd h.n n h.n=n then e else E (up1 h.nd h.n n h.n))=e'
  rw[ue] at q
  rw[ay,if_pos rfl,if_pos rfl]
  exact⟨congrArg Prod.fst (ag q),congrArg Prod.snd (ag q)⟩
structure Jh(G1 G4:H)(n o:Nat)(b e:Int)(x:Nat):Prop where
 raw:G4.raw=[]
 I:∀{a c i},¬(c=179/\i=n)->G4.I a c i=G1.I a c i
 Ib:G4.I 67 179 n=b
 Ie:G4.I 68 179 n=e
 Io:∀{a},a≠67->a≠68->G4.I a 179 n=G1.I a 179 n
 Q:∀{a c i},¬(c=108/\i=o)->G4.Q a c i=G1.Q a c i
 Qh:G4.Q 106 108 o=some x
 B:G4.B=G1.B
 N:G4.N=G1.N
 F:G4.F=G1.F
 lst:G4.lst=G1.lst
 nl:G4.nl=G1.nl
 dct:G4.dct=G1.dct
 ni:G4.ni=G1.ni
 nd:G4.nd=G1.nd
theorem Jh.mk'{n o x:Nat}(hr:G1.raw=[]):Jh G1 (((G1.sI 67 179 n b).sI 68 179 n e).sQ 106 108 o (some x)) n o b e x:=
 ⟨Ey (gQ (gQ hr)),fun q=>(fw q).trans (fw q),bV,bV,fun q q'=>Eq.trans (bw q') (bw q),fun q=>v9 q,bV,rfl,rfl,rfl,rfl,rfl,rfl,rfl,rfl⟩
structure Mv(L:List Nat)(n o tr od x:Nat)(q:Int)(G G6:H):Prop where
 raw:G6.raw=[]
 I:∀a c i,¬(c=179/\i∈n::L)->¬(c=180/\i=tr)->G6.I a c i=G.I a c i
 B:∀a c i,¬(c=179/\i∈n::L)->¬(c=180/\i=tr)->G6.B a c i=G.B a c i
 Q:∀a c i,¬(c=179/\i∈n::L)->¬(c=180/\i=tr)->¬(c=108/\i=o)->G6.Q a c i=G.Q a c i
 Qh:G6.Q 106 108 o=some x
 I97:∀i,G6.I 97 179 i=G.I 97 179 i
 B91:∀i,G6.B 91 179 i=G.B 91 179 i
 B92:∀i,G6.B 92 179 i=G.B 92 179 i
 N:G6.N=G.N
 F:G6.F=G.F
 lst:∀j,j<G.nl->G6.lst j=G.lst j
 nl:G.nl<=G6.nl
 dct:G6.dct od=(fun j=>if j=q then some (.ref 108 (some o)) else(G.dct od).1 j,false)
 dcn:∀d,d≠od->G6.dct d=G.dct d
 ni:G6.ni=G.ni
 nd:G6.nd=G.nd
theorem Mv.of{G4 G6:H}{n o od x:Nat}{q:Int}(W:Jh G G4 n o b e x)(F6:TF (n::L) tr (G4.cA od fun j=>if j=q then some (.ref 108 (some o)) else(G4.dct od).1 j) G6):Mv L n o tr od x q G G6:=
 ⟨F6.raw,fun a c i h h'=>(F6.I a c i h h').trans (W.I fun w=>h ⟨w.1,w.2▸bN⟩),fun a c i h h'=>(F6.B a c i h h').trans (congrFun (congrFun (congrFun W.B _) _) _),fun a c i h h' h2=>(F6.Q a c i h h').trans (W.Q h2),
  (F6.Q _ _ _ (fun w=>absurd w.1 (by decide)) fun w=>absurd w.1 (by decide)).trans W.Qh,fun i=>(F6.I97 i).trans (if w:i=n then w▸W.Io (by decide) (by decide) else W.I fun v=>w v.2),fun i=>(F6.B91 i).trans (congrFun (congrFun (congrFun W.B _) _) _),fun i=>(F6.B92 i).trans (congrFun (congrFun (congrFun W.B _) _) _),
  F6.N.trans W.N,F6.F.trans W.F,fun j h=>(F6.lst j (W.nl.symm▸h)).trans (congrFun W.lst j),W.nl▸F6.nl,(congrFun F6.dct od).trans (kS.trans (by rw[W.dct])),fun d h=>(congrFun F6.dct d).trans ((uM h).trans (congrFun W.dct d)),F6.ni.trans W.ni,F6.nd.trans W.nd⟩
theorem Jk{n o od x:Nat}{q:Int}(raw1:G.raw=[])(x6:G.Q 106 108 o=none)(x5:G.N 65 108 o=n)(x4:G.I 97 108 o=q)(h0:0<=q)(h1:q<1000)(x77:G.N 77 156 x=tr)(x107:G.N 107 156 x=od)(T:Tr G tr L B E)(l3:L.length<=3)(nL:n∉L)(L1:Loose G n)(hbe:b<=e)(hK:540<=K)
  (g:∀u G6,Mv L n o tr od x q G G6->Tr G6 tr (n::L) (fun i=>if i=n then b else B i) (fun i=>if i=n then e else E i)->k u G6):aD P K G 36 [.ref 108 (some o), .ref 156 (some x), .int b, .int e] k:=by
 refine av hK rfl JP rfl ?_
 refine s_call hK rfl raw1 rfl (av (B:=100) (ac hK rfl) rfl EP rfl (aw (ac (n:=100) hK rfl) rfl raw1 (aZ (v:= .ref 156 none) (a9 rfl ?_) rfl rfl) (s_end (ac (n:=100) hK rfl) rfl (az (ac (n:=100) hK rfl) rfl ?_))))
 ·exact congrArg (fun z=>some (V.ref 156 z)) x6
 have nd1':∀{G2:H} {n':Nat},G2.N=G.N->∀{ρ:au},ρ 105=some (.ref 108 (some o))->(pv (n'+2)).ev ρ G2 (.attr (.var 105) 65)=some (.ref 179 (some n)):=fun {G2 n'} q {ρ} hq=>
  a9 hq (congrArg (fun z=>some (V.ref 179 (some z))) ((congrFun (congrFun (congrFun q _) _) _).trans x5))
 refine aX hK rfl raw1 (congrArg (fun z=>some (V.int z)) (if_neg (Int.not_lt.mpr hbe))) (nd1' (n':=10) rfl rfl) rfl ?_
 refine aX hK rfl (gQ raw1) (congrArg (fun z=>some (V.int z)) (show(if b<e then e else b)=e from if q:b<e then if_pos q else(if_neg q).trans (Int.le_antisymm hbe (Int.not_lt.mp q)))) (nd1' (G2:=G.sI 67 179 n b) (n':=10) rfl rfl) rfl ?_
 refine aX hK rfl (gQ (gQ raw1)) rfl rfl rfl ?_
 have W:=Jh.mk' (G1:=G) (n:=n) (o:=o) (b:=b) (e:=e) (x:=x) raw1
 generalize ((G.sI 67 179 n b).sI 68 179 n e).sQ 106 108 o (some x)=G4 at W ⊢
 refine fh hK rfl (aq hK rfl W.raw rfl (zc hK rfl W.raw (h':=G4.cA od fun j=>if j=q then some (.ref 108 (some o)) else(G4.dct od).1 j) (a9 rfl (congrArg (fun z=>some (V.dict z)) ((congrFun (congrFun (congrFun W.N _) _) _).trans x107))) (a9 rfl (congrArg (fun z=>some (V.int z)) ((W.I fun w=>absurd w.1 (by decide)).trans x4))) (if_pos ⟨h0,h1⟩) ?_))
 have ne:∀{i},i∈L->¬(i=n):=fun hi w=>nL (w▸hi)
 have T4:Tr (G4.cA od fun j=>if j=q then some (.ref 108 (some o)) else(G4.dct od).1 j) tr L B E:=T.of (W.Q fun w=>absurd w.1 (by decide)) (fun a i hi=>W.I fun w=>ne hi w.2) (fun a i hi=>W.Q fun w=>absurd w.1 (by decide)) fun a i hi=>congrFun (congrFun (congrFun W.B _) _) _
 have T4':=T4.congr (B':=fun i=>if i=n then b else B i) (E':=fun i=>if i=n then e else E i) (fun i hi=>(if_neg (ne hi)).symm) fun i hi=>(if_neg (ne hi)).symm
 refine s_call hK rfl W.raw ?_ (zA T4' W.raw l3 nL ⟨(W.Q fun w=>absurd w.1 (by decide)).trans L1.L,(W.Q fun w=>absurd w.1 (by decide)).trans L1.R,(W.Q fun w=>absurd w.1 (by decide)).trans L1.U,(W.Io (by decide) (by decide)).trans L1.o⟩ (W.Ib.trans (if_pos rfl).symm) (W.Ie.trans (if_pos rfl).symm) (by rw[if_pos rfl,if_pos rfl];exact hbe) (ac hK rfl) fun u G6 F6 T6=>az hK rfl (g _ _ (Mv.of W F6) T6))
 show some [V.ref 180 (some (G4.N 77 156 x)),V.ref 179 (some (G4.N 65 108 o))]=_
 rw[W.N,x77,x5]
structure Hb(G0 G:H)(h:HR)(st:eQ):Prop where
 raw:G.raw=[]
 M:Hm G h st
 D:Bd G h
 L:Lo G0 h
 w:Nw G0 G
structure Kl(G G':H):Prop where
 nl:G.nl<=G'.nl
 lst:∀j,j<G.nl->G'.lst j=G.lst j
theorem Kl.trans{G'':H}(x:Kl G G')(y:Kl G' G''):Kl G G'':=⟨af x.nl y.nl,fun j h=>(y.lst j (ae h x.nl)).trans (x.lst j h)⟩
theorem Nw.kl(w:Nw G G'):Kl G G':=⟨w.nl,w.lst⟩
theorem wD{G6:H}{x:Nat}(X:Hb G0 G h st)(w1:Nw G G1)(hn:h.n<=3)(hm:∀i,i∈L↔∃k,k<h.n/\(st k).isSome=true/\h.nd k=i)(hv:∀k,k<h.n->∀b e,st k=some (b,e)->B (h.nd k)=b/\E (h.nd k)=e)
  (ni1:G1.ni=G.ni+2)(nd1:G1.nd=G.nd)(Y:Mv L (G.ni+1) G.ni h.tr h.od h.hm h.n G1 G6)(T6:Tr G6 h.tr ((G.ni+1)::L) (fun i=>if i=G.ni+1 then b else B i) (fun i=>if i=G.ni+1 then e else E i))
  (x1:G1.I 97 179 (G.ni+1)=h.n)(x2:G1.B 91 179 (G.ni+1)=f)(x3:G1.B 92 179 (G.ni+1)=r)(x4:G1.I 97 108 G.ni=h.n)(x5:G1.N 65 108 G.ni=G.ni+1)(x7:G1.N 96 108 G.ni=x)(pl:x<G1.nl)(x8:G1.lst x=qa false)(hx:G0.nl<=x):Hb G0 G6 (h.add G.ni (G.ni+1) x f r) (tj st h.n (some (b,e))):=
 have n2:G.ni+1<G6.ni:=Y.ni▸ni1.symm▸aE _
 have up:∀{i},i<G.ni->i<G6.ni:=fun w=>Nat.lt_trans (aY w) n2
 have lt:∀{i},i<G0.ni->i<G.ni:=fun hi=>ae hi X.w.ni
 have n1:∀{c i},i<G0.ni->¬(c=179/\i∈(G.ni+1)::L):=fun hi w=>(List.mem_cons.mp w.2).elim (fun q=>Nat.lt_irrefl _ (Nat.lt_of_succ_lt (q▸lt hi))) fun q=>((hm _).mp q).elim fun k w=>Nat.not_le.mpr hi (w.2.2▸X.L.nd k w.1)
 have n3:∀{c i},i<G0.ni->¬(c=180/\i=h.tr):=fun hi w=>Nat.not_le.mpr hi (w.2▸X.L.tr)
 have w:=X.w.trans w1
 ⟨Y.raw,(X.M.nw X.D w1).grow hn ⟨Y.N,Y.F,fun q q'=>Y.I _ _ _ (fun w=>q w.1) fun w=>q' w.1,fun k c=>Y.Q _ _ _ (fun w=>absurd w.1 (by decide)) (fun w=>absurd w.1 (by decide)) fun w=>aj (X.D.ov _ c) w.2,Y.Qh,Y.I97 _,Y.B91 _,Y.B92 _,Y.lst,Y.nl,Y.dct,fun k q=>aj (aY (X.D.nd _ q)),fun k q=>aj (X.D.ov _ q),x1,x2,x3,x4,x5,x7,pl,x8⟩ T6 hm hv,
  ⟨up X.D.hm,up X.D.tr,up X.D.ru,Y.nd.symm▸nd1.symm▸X.D.od,Ew (· <G6.ni) (fun k c=>up (X.D.nd k c)) n2,Ew (· <G6.ni) (fun k c=>up (X.D.ov k c)) (Nat.lt_of_succ_lt n2)⟩,
  ⟨X.L.tr,X.L.od,Ew (G0.ni<= ·) X.L.nd (aL X.w.ni),Ew (G0.ni<= ·) X.L.ov X.w.ni,Ew (G0.nl<= ·) X.L.pl hx⟩,
  ⟨fun a c i hi=>(Y.I _ _ _ (n1 hi) (n3 hi)).trans (w.I a c i hi),fun a c i hi=>(Y.B _ _ _ (n1 hi) (n3 hi)).trans (w.B a c i hi),fun a c i hi=>(Y.Q _ _ _ (n1 hi) (n3 hi) fun q=>Nat.lt_irrefl _ (q.2▸lt hi)).trans (w.Q a c i hi),fun a c i hi=>(congrFun (congrFun (congrFun Y.N _) _) _).trans (w.N a c i hi),fun a c i hi=>(congrFun (congrFun (congrFun Y.F _) _) _).trans (w.F a c i hi),
   fun j hj=>(Y.lst j (ae hj w.nl)).trans (w.lst j hj),fun d hd=>(Y.dcn d fun q=>Nat.not_le.mpr hd (q▸X.L.od)).trans (w.dct d hd),Y.ni.symm▸w.ni,af w.nl Y.nl,Y.nd.symm▸w.nd⟩⟩
theorem Ci(X:Hb G0 G h st)(hn:h.n<=3)(hbe:b<=e)(hK:560<=K)
  (g:∀G',Hb G0 G' (h.add G.ni (G.ni+1) G.nl f r) (tj st h.n (some (b,e)))->Kl G G'->k (.ref 108 (some G.ni)) G'):
  aD P K G 37 [.ref 156 (some h.hm), .int h.n, .int b, .int e, .bool f, .bool r] k:=by
 refine av hK rfl Kw rfl (bm hK rfl (e_new hK rfl (xm hK rfl (fun _ _=>rfl) (bS GS (Kg X.raw (ac hK rfl) fun G1 w1 raw1 ni1 nl1 nd1 L1 x1 x2 x3 x4 x5 x6 x7 x8=>?_)))))
 have M1:=X.M.nw X.D w1
 obtain⟨L,B,E,T,hm,hv⟩:=M1.t
 have hlt:∀i,i∈L->i<G.ni:=fun i hi=>((hm i).mp hi).elim fun k w=>w.2.2▸X.D.nd k w.1
 have nL:G.ni+1∉L:=fun hi=>Nat.lt_irrefl _ (Nat.lt_of_succ_lt (hlt _ hi))
 have l3:L.length<=3:=by
  have:L.length<=((List.range h.n).map h.nd).length:=T.nd.length_le_of_subset fun i hi=>((hm i).mp hi).elim fun k w=>List.mem_map.mpr ⟨k,List.mem_range.mpr w.1,w.2.2⟩
  rw[ai,aM] at this
  exact af this hn
 exact s_call hK rfl raw1 rfl (Jk raw1 x6 x5 x4 (Int.natCast_nonneg _) (Int.ofNat_lt.mpr (Nat.lt_of_le_of_lt hn (by decide))) M1.tr M1.od T l3 nL L1 hbe (ac hK rfl) fun u G6 Y T6=>bg hK rfl Y.raw rfl (g G6 (wD X w1 hn hm hv ni1 nd1 Y T6 x1 x2 x3 x4 x5 x7 (nl1.symm▸aE _) x8 X.w.nl) (w1.kl.trans ⟨Y.nl,Y.lst⟩)))
end
noncomputable def HR.J5(h:HR)(kk p:Nat):HR:={h with pl:=up1 h.pl kk p,s:=up1 h.s kk true}
theorem Kj:P.fn 30=some M5:=by kernel_rfl
theorem Lj:P.fn 31=some OA:=by kernel_rfl
theorem J7:P.fn 40=some J6:=by kernel_rfl
section
variable{K d B:Nat}{h:H}{ρ:au}{e e2:Mine.E}{es:List Mine.E}{kv:V->H->Prop}{c:Bool}
theorem nE(hK:B<=K)(hd:Nat.ble (d+31) B=true)(g:gv P (K - (d+1)) ρ h c es kv):aN P (K - d) ρ h (.bool2 c es) kv:=by
 rw[bc hK hd,yq];exact g
theorem Ic(hK:B<=K)(hd:Nat.ble (d+31) B=true)(g:aN P (K - (d+1)) ρ h e kv):gv P (K - d) ρ h c [e] kv:=by
 rw[bc hK hd,FE];exact g
theorem Dv(hK:B<=K)(hd:Nat.ble (d+31) B=true)(g:aN P (K - (d+1)) ρ h e fun v h=>pk v fun b=>Mine.same b c (gv P (K - (d+1)) ρ h c (e2::es) kv) (kv v h)):gv P (K - d) ρ h c (e::e2::es) kv:=by
 rw[bc hK hd,Cb];exact g
end
section
variable{G0 G G':H}{h:HR}{st:eQ}{L:List Nat}{tr K j i kk:Nat}{k:V->H->Prop}{B E:Nat->Int}{b e:Int}{f:Bool}
theorem Nw.out(w:Nw G0 G)(Lw:Lo G0 h)(O:Out h G G'):Nw G0 G':=
 have n1:∀{c i},i<G0.ni->¬(c=179/\∃k,k<h.n/\h.nd k=i):=fun hi q=>q.2.elim fun k q=>Nat.not_le.mpr hi (q.2▸Lw.nd k q.1)
 have n3:∀{c i},i<G0.ni->¬(c=108/\∃k,k<h.n/\h.ov k=i):=fun hi q=>q.2.elim fun k q=>Nat.not_le.mpr hi (q.2▸Lw.ov k q.1)
 have n2:∀{c i},i<G0.ni->¬(c=180/\i=h.tr):=fun hi q=>Nat.not_le.mpr hi (q.2▸Lw.tr)
 ⟨fun a c i hi=>(O.I _ _ _ (n1 hi) (n2 hi)).trans (w.I a c i hi),fun a c i hi=>(O.B _ _ _ (n1 hi) (n2 hi)).trans (w.B a c i hi),fun a c i hi=>(O.Q _ _ _ (n1 hi) (n2 hi) (n3 hi)).trans (w.Q a c i hi),fun a c i hi=>(congrFun (congrFun (congrFun O.N _) _) _).trans (w.N a c i hi),fun a c i hi=>(congrFun (congrFun (congrFun O.F _) _) _).trans (w.F a c i hi),
  fun j hj=>(O.lst j (ae hj w.nl)).trans (w.lst j hj),fun d hd=>(O.dct d fun q=>Nat.not_le.mpr hd (q▸Lw.od)).trans (w.dct d hd),O.ni.symm▸w.ni,af w.nl O.nl,O.nd.symm▸w.nd⟩
theorem Hb.out(X:Hb G0 G h st)(O:Out h G G')(M:Hm G' h st):Hb G0 G' h st:=
 ⟨O.raw,M,⟨O.ni▸X.D.hm,O.ni▸X.D.tr,O.ni▸X.D.ru,O.nd▸X.D.od,O.ni▸X.D.nd,O.ni▸X.D.ov⟩,X.L,X.w.out X.L O⟩
theorem IT{α:Type}{x:Nat->α}{n:Nat}{v:α}(P:Nat->α->Prop)(f:∀k,k≠n->P k (x k))(g:P n v)(k:Nat):P k (up1 x n v k):=by
 by_cases q:k=n
 ·rw[q,ay];exact g
 ·rw[aB q];exact f k q
theorem Hb.pl{p:Nat}(X:Hb G0 G h st)(hk:kk<h.n)(hp:p<G.nl)(hl:G.lst p=qa true)(h0:G0.nl<=p):Hb G0 (G.sN 96 108 (h.ov kk) p) (h.J5 kk p) st:=by
 have N2:∀{a c i},a≠96->(G.sN 96 108 (h.ov kk) p).N a c i=G.N a c i:=fun q=>rm q
 refine⟨PA X.raw,⟨X.M.n4,(N2 (by decide)).trans X.M.tr,(N2 (by decide)).trans X.M.od,(N2 (by decide)).trans X.M.rl,⟨X.M.ru.nil,X.M.ru.ev,X.M.ru.cat⟩,X.M.ndI,X.M.ovI,?_,fun k hk=>(N2 (by decide)).trans (X.M.on k hk),X.M.oi,X.M.oh,fun k hk'=>?_,fun k hk'=>?_,X.M.ni,X.M.nf,X.M.nr,X.M.d1,X.M.d2,X.M.d3⟩,
  ⟨X.D.hm,X.D.tr,X.D.ru,X.D.od,X.D.nd,X.D.ov⟩,⟨X.L.tr,X.L.od,X.L.nd,X.L.ov,fun k hk'=>IT (fun k x=>k<h.n->G0.nl<=x) (fun k _=>X.L.pl k) (fun _=>h0) k hk'⟩,X.w.sN (X.L.ov kk hk)⟩
 ·obtain⟨L,B,E,T,hm,hv⟩:=X.M.t
  exact⟨L,B,E,T.lists rfl rfl rfl,hm,hv⟩
 ·show _=up1 h.pl kk p k
  by_cases q:k=kk
  ·rw[q,ay];exact Bj
  ·rw[aB q];exact(IC fun w=>q (X.M.ovI _ _ hk' hk w.2)).trans (X.M.op k hk')
 ·show up1 h.pl kk p k<G.nl/\G.lst (up1 h.pl kk p k)=qa (up1 h.s kk true k)
  by_cases q:k=kk
  ·rw[q,ay,ay];exact⟨hp,hl⟩
  ·rw[aB q,aB q];exact X.M.pl k hk'
theorem v_add{p q:Nat}(z1:G.lst p=qa false)(z2:G.lst q=[.tup [.int 903, .bool true]]):lN G .add (.list p) (.list q)=some (.list G.nl,G.newL [.tup [.int 903, .bool true]]):=by
 show(if(G.lst p).length+(G.lst q).length<eg then some (V.list G.nl,G.newL (G.lst p++G.lst q)) else none)=_
 rw[z1,z2];exact if_pos (by decide)
section
variable{p:Nat}(hr:G.raw=[])(pl0:G.lst p=qa false)
include hr pl0
theorem Lv(hK:240<=K)(g:k (.bool false) G):aD P K G 31 [.list p, .int 903, .bool true] k:=by
 refine av hK rfl Lj rfl (da hK rfl hr rfl (g0 (ac hK rfl) hr pl0 ?_))
 rw[if_neg fun w=>Bool.noConfusion w.1]
 exact bJ hK rfl (nE hK rfl (Dv hK rfl (aq hK rfl hr rfl g)))
theorem Mh(hp:p<G.nl)(hK:240<=K)(g:k (.list (G.nl+1)) ((G.newL [.tup [.int 903, .bool true]]).newL [.tup [.int 903, .bool true]])):aD P K G 30 [.list p, .int 903, .bool true] k:=by
 refine av hK rfl Kj rfl (da hK rfl hr rfl (g0 (ac hK rfl) hr pl0 ?_))
 rw[if_neg fun w=>Bool.noConfusion w.1]
 refine aw hK rfl hr rfl (bJ hK rfl (ig hK rfl (aq hK rfl hr rfl (hH hK rfl hr rfl (cj (v_add ((aU hp).trans pl0) a6) g)))))
end
theorem uX{ρ:au}{kf:Fl->au->H->Prop}(X:Hb G0 G h st)(hk:kk<h.n)(hs:st kk=some (b,e))(hbe:b≠e)(r99:ρ 99=some (.ref 152 (some h.ru)))(r105:ρ 105=some (.ref 108 (some (h.ov kk))))(r97:ρ 97=some (.int 903))(r98:ρ 98=some (.bool true))(r111:ρ 111=some (.bool true))(hK:600<=K)
  (g:∀ρ G',Hb G0 G' h st->Kl G G'->kf (.ret (.bool true)) ρ G'):aC P K ρ G (J6.body.drop 2) kf:=by
 refine cv (d:=0) hK rfl (gI hK rfl (bK hK rfl (fM hK rfl X.raw (aZ r97 (a9 r99 (congrArg (fun x=>some (V.int x)) X.M.ru.ev)) rfl) ?_)))
 refine bK hK rfl (zS hK rfl (rj hK rfl rfl (bM hK rfl X.raw r99 Al (wG r98) (lU (b:=false) X.M.ru (ac hK rfl) X.raw (.inr ⟨true,rfl,rfl⟩) ?_))))
 refine bK hK rfl (fM hK rfl X.raw (b:=true) (aZ (w:= .none) (a9 (o:= .ref 108 (some (h.ov kk))) r105 (congrArg (fun x=>some (V.ref 156 x)) ((X.M.oh kk hk).trans (congrArg (Option.map fun _=>h.hm) hs)))) rfl rfl) (cq hK rfl ?_))
 refine cv hK rfl (rj hK rfl rfl (gh hK rfl (aV hK rfl X.raw (wG r105) (yX (w:=false) X.M X.raw hk hs (ac hK rfl) fun G3 O3 M3=>aV hK rfl O3.raw (wG r105) (yX (w:=true) M3 O3.raw hk hs (ac hK rfl) fun G4 O4 M4=>bS (a:=decide (b=e)) rfl ?_)))))
 rw[bB hbe]
 exact s_end hK rfl (s_end hK rfl (bg hK rfl O4.raw r111 (g _ G4 ((X.out O3 M3).out O4 M4) (Kl.trans ⟨O3.nl,O3.lst⟩ ⟨O4.nl,O4.lst⟩))))
theorem Dz(X:Hb G0 G h st)(hk:kk<h.n)(hsf:h.s kk=false)(hs:st kk=some (b,e))(hbe:b≠e)(hK:640<=K)
  (g:∀u G',Hb G0 G' (h.J5 kk (G.nl+1)) st->Kl G G'->k u G'):aD P K G 40 [.ref 152 (some h.ru), .ref 108 (some (h.ov kk)), .int 903, .bool true] k:=by
 have pl0:G.lst (h.pl kk)=qa false:=(X.M.pl kk hk).2.trans (congrArg qa hsf)
 have a1:∀{ρ:au},ρ 105=some (.ref 108 (some (h.ov kk)))->ρ 97=some (.int 903)->ρ 98=some (.bool true)->(pv 12).evs ρ G [.attr (.var 105) 96, .var 97, .var 98]=some [.list (h.pl kk), .int 903, .bool true]:=fun {ρ} r1 r2 r3=>ah (n:=11) (a9 r1 (congrArg (fun x=>some (V.list x)) (X.M.op kk hk))) (ah (n:=10) r2 (ah (n:=9) r3 rfl))
 refine av hK rfl J7 rfl (bm hK rfl (Ag hK rfl (aV hK rfl X.raw (a1 rfl rfl rfl) (Lv X.raw pl0 (ac hK rfl) ?_))))
 refine aw hK rfl (b:=true) X.raw rfl (je hK rfl (aV hK rfl X.raw (a1 rfl rfl rfl) (Mh X.raw pl0 (X.M.pl kk hk).1 (ac hK rfl) ?_)))
 have w1:Nw G ((G.newL [.tup [.int 903, .bool true]]).newL [.tup [.int 903, .bool true]]):=Nw.refl.newL.newL
 have X1:Hb G0 ((G.newL [.tup [.int 903, .bool true]]).newL [.tup [.int 903, .bool true]]) h st:=⟨X.raw,X.M.nw X.D w1,⟨X.D.hm,X.D.tr,X.D.ru,X.D.od,X.D.nd,X.D.ov⟩,X.L,X.w.trans w1⟩
 exact sy hK rfl X1.raw (w:= .ref 108 (some (h.ov kk))) rfl rfl (s_end hK rfl (uX (X1.pl hk (aE _) (a6 (G:=G.newL [.tup [.int 903, .bool true]])) (aL X.w.nl)) hk hs hbe rfl rfl rfl rfl rfl (ac hK rfl) fun _ G' Y y=>g _ G' Y ⟨af w1.nl y.nl,fun j h=>(y.lst j (ae h w1.nl)).trans (w1.lst j h)⟩))
end
section
variable{G G' G1:H}{K j i:Nat}{as:List Nat}{rest:Rw}{kv:V->H->Prop}{z:Int}{r:Bool}
theorem DY(hr:G.raw=[])(hK:60<=K)(g:∀G',Nw G G'->G'.raw=[]->G'.ni=G.ni+1->G'.nl=G.nl->G'.nd=G.nd+1->G'.F 104 153 G.ni= .none->G'.I 174 153 G.ni=z->kv (.ref 153 (some G.ni)) G'):
  aD P K (G.aQ 153) 1023 [.ref 153 (some G.ni), .int z] fun r h'=>fg (whole P 153 G.ni r h') kv:=by
 have r0:(G.aQ 153).raw=(153,G.ni,[])::[]:=by show _::G.raw=_;rw[hr]
 have q1:=aG (a:=174) rfl r0
 have q2:=aG (G:=(G.aQ 153).sI 174 153 G.ni z) (a:=104) rfl q1
 have q3:=aG (G:=((G.aQ 153).sI 174 153 G.ni z).sF 104 153 G.ni .none) (a:=181) rfl q2
 have q4:=aG (G:=((((G.aQ 153).sI 174 153 G.ni z).sF 104 153 G.ni .none).sF 181 153 G.ni (.bool true)).newD) (a:=215) rfl q3
 refine av hK rfl BE rfl (aJ hK rfl (fun _ _=>rfl) rfl rfl (aJ hK rfl (fun _ _=>rfl) rfl rfl (aJ hK rfl (fun _ _=>rfl) rfl rfl (aJ hK rfl (fun _ _=>rfl) rfl rfl (az hK rfl ?_)))))
 exact cj (cz rfl q4 (by kernel_rfl)) (g _ ((((((Nw.refl.aQ).sI (ab _)).sF (ab _)).sF (ab _)).newD.sN (ab _)).rw) rfl rfl rfl rfl bV bV)
theorem zH{a s:Nat}{v:V}(q:G.raw=(152,i,as)::[])(ht:P.ty 153 a=some .gen):∀n kk,aN P (n+16) (fun x=>([178,101].zip [V.ref 152 (some i),V.ref 153 (some j)]).lookup x) G (.attr (.var 101) a) kk=kk (G.F a 153 j) G:=by
 intro n kk
 dsimp only[nR,w_var]
 show on (rT P G (.ref 153 (some j)) a) (fun v=>kk v G)=_
 have:rT P G (.ref 153 (some j)) a=some (G.F a 153 j):=by
  unfold rT
  dsimp only
  rw[ht,q];rfl
 rw[this];rfl
theorem C8(q:G.raw=(152,i,as)::[]):∀n kk,aN P (n+16) (fun x=>([178,101].zip [V.ref 152 (some i),V.ref 153 (some j)]).lookup x) G (.meth (.var 101) 97 [.str 100]) kk=kk (.int (G.I 174 153 j+0)) G:=by
 obtain⟨_,_,_,_,_,raw,_,_,_,_,_⟩:=G
 dsimp only at q
 subst q
 intro n kk
 kernel_rfl
theorem Bw(q:G.raw=(152,i,as)::[]):∀n kk,aN P (n+16) (fun x=>([178,101].zip [V.ref 152 (some i),V.ref 153 (some j)]).lookup x) G (.meth (.var 101) 97 [.str 183]) kk=kk (.int (G.I 174 153 j+1)) G:=by
 obtain⟨_,_,_,_,_,raw,_,_,_,_,_⟩:=G
 dsimp only at q
 subst q
 intro n kk
 kernel_rfl
theorem Dg(q:G.raw=(152,i,as)::[]):∀n kk,aN P (n+16) (fun x=>([178,101].zip [V.ref 152 (some i),V.ref 153 (some j)]).lookup x) G (.meth (.var 101) 97 [.str 185]) kk=kk (.int (G.I 174 153 j+2)) G:=by
 obtain⟨_,_,_,_,_,raw,_,_,_,_,_⟩:=G
 dsimp only at q
 subst q
 intro n kk
 kernel_rfl
theorem DU(q:G.raw=(152,i,as)::[]):∀n kk,aN P (n+16) (fun x=>([178,101].zip [V.ref 152 (some i),V.ref 153 (some j)]).lookup x) G (.meth (.var 101) 97 [.str 110]) kk=kk (.int (G.I 174 153 j+3)) G:=by
 obtain⟨_,_,_,_,_,raw,_,_,_,_,_⟩:=G
 dsimp only at q
 subst q
 intro n kk
 kernel_rfl
theorem AM(q:G.raw=(152,i,as)::[]):∀n kk,aN P (n+16) (fun x=>([178,101].zip [V.ref 152 (some i),V.ref 153 (some j)]).lookup x) G (.meth (.var 101) 97 [.str 186]) kk=kk (.int (G.I 174 153 j+4)) G:=by
 obtain⟨_,_,_,_,_,raw,_,_,_,_,_⟩:=G
 dsimp only at q
 subst q
 intro n kk
 kernel_rfl
theorem wO(hr:G.raw=[])(hj:j<G.ni)(h1:G.F 104 153 j= .none)(h2:G.I 174 153 j=900)(hK:60<=K)(g:∀G',Nw G G'->G'.raw=[]->G'.ni=G.ni+1->G'.nl=G.nl->G'.nd=G.nd+1->Ru G' G.ni->kv (.ref 152 (some G.ni)) G'):
  aD P K (G.aQ 152) 1002 [.ref 152 (some G.ni), .ref 153 (some j)] fun r h'=>fg (whole P 152 G.ni r h') kv:=by
 have r0:(G.aQ 152).raw=(152,G.ni,[])::[]:=by show _::G.raw=_;rw[hr]
 have q1:=aG (a:=101) rfl r0
 have q2:=aG (G:=(G.aQ 152).sN 101 152 G.ni j) (a:=104) rfl q1
 generalize e2:((G.aQ 152).sN 101 152 G.ni j).sF 104 152 G.ni (G.F 104 153 j)=G2
 have w2:Nw G G2:=e2▸(Nw.refl.aQ.sN (ab _)).sF (ab _)
 have q2:G2.raw=(152,G.ni,[104,101])::[]:=e2▸q2
 have f2:G2.F 104 152 G.ni= .none:=e2▸Eq.trans bV h1
 have i2:G2.I=G.I:=e2▸rfl
 have n2:G2.ni=G.ni+1/\G2.nl=G.nl/\G2.nd=G.nd:=e2▸⟨rfl,rfl,rfl⟩
 have q3:=aG (a:=181) rfl q2
 have q4:=aG (G:=G2.sF 181 152 G.ni (G2.F 181 153 j)) (a:=100) rfl q3
 have e4:∀(x:Int),True:=fun _=>trivial
 have q5:=aG (G:=(G2.sF 181 152 G.ni (G2.F 181 153 j)).sI 100 152 G.ni 900) (a:=182) rfl q4
 have q6:=aG (G:=((G2.sF 181 152 G.ni (G2.F 181 153 j)).sI 100 152 G.ni 900).sI 182 152 G.ni 901) (a:=184) rfl q5
 generalize e6:(((G2.sF 181 152 G.ni (G2.F 181 153 j)).sI 100 152 G.ni 900).sI 182 152 G.ni 901).sI 184 152 G.ni 902=G6
 have w6:Nw G G6:=e6▸(((w2.sF (ab _)).sI (ab _)).sI (ab _)).sI (ab _)
 have q6:G6.raw=(152,G.ni,[184,182,100,181,104,101])::[]:=e6▸q6
 have f6:G6.F 104 152 G.ni= .none:=e6▸f2
 have i6:G6.I 100 152 G.ni=900:=e6▸bV
 have n6:G6.ni=G.ni+1/\G6.nl=G.nl/\G6.nd=G.nd:=e6▸n2
 have q7:=aG (a:=110) rfl q6
 have q8:=aG (G:=G6.sI 110 152 G.ni 903) (a:=186) rfl q7
 have q9:=aG (G:=((G6.sI 110 152 G.ni 903).sI 186 152 G.ni 904).newD) (a:=187) rfl q8
 have lj:∀{G1:H},Nw G G1->G1.I 174 153 j=900:=fun w=>(w.I _ _ _ hj).trans h2
 have num:∀{G1:H} {e:Mine.E} {x y:Int} {ρ:au},Nw G G1->(∀n kk,aN P (n+16) ρ G1 e kk=kk (.int (G1.I 174 153 j+x)) G1)->900+x=y->∀n kk,aN P (n+16) ρ G1 e kk=kk (.int y) G1:=fun w he q n kk=>by rw[he,lj w,q]
 refine av hK rfl CH rfl (aJ hK rfl (v:= .ref 153 (some j)) (fun _ _=>rfl) rfl rfl ?_)
 refine aJ hK rfl (v:=G.F 104 153 j) (zH (s:=0) (v:= .none) q1 rfl) rfl (h':=G2) (congrArg some e2) ?_
 refine aJ hK rfl (v:=G2.F 181 153 j) (zH (s:=0) (v:= .none) q2 rfl) rfl rfl ?_
 refine aJ hK rfl (v:= .int 900) (num (w2.sF (ab _)) (C8 q3) rfl) rfl rfl ?_
 refine aJ hK rfl (v:= .int 901) (num ((w2.sF (ab _)).sI (ab _)) (Bw q4) rfl) rfl rfl ?_
 refine aJ hK rfl (v:= .int 902) (num (((w2.sF (ab _)).sI (ab _)).sI (ab _)) (Dg q5) rfl) rfl (h':=G6) (congrArg some e6) ?_
 refine aJ hK rfl (v:= .int 903) (num w6 (DU q6) rfl) rfl rfl ?_
 refine aJ hK rfl (v:= .int 904) (num (w6.sI (ab _)) (AM q7) rfl) rfl rfl ?_
 refine aJ hK rfl (v:= .dict G6.nd) (fun _ _=>rfl) rfl rfl (az hK rfl ?_)
 exact cj (cz (G:=((G6.sI 110 152 G.ni 903).sI 186 152 G.ni 904).newD.sN 187 152 G.ni G6.nd) rfl q9 (by kernel_rfl)) (g _ ((((w6.sI (ab _)).sI (ab _)).newD).sN (ab _)).rw rfl n6.1 n6.2.1 (by show G6.nd+1=_;rw[n6.2.2]) ⟨f6,bV,i6⟩)
theorem Dw{ru:Nat}(hr:G.raw=[])(hK:140<=K)(g:∀G',Nw G G'->G'.raw=[]->G'.ni=G.ni+2->G'.nl=G.nl->G'.nd=G.nd+1->G'.N 77 156 G.ni=G.ni+1->G'.N 107 156 G.ni=G.nd->G'.N 99 156 G.ni=ru->G'.Q 79 180 (G.ni+1)=none->G'.dct G.nd=(fun _=>none,true)->kv (.ref 156 (some G.ni)) G'):
  aD P K (G.aQ 156) 1005 [.ref 156 (some G.ni), .ref 152 (some ru)] fun r h'=>fg (whole P 156 G.ni r h') kv:=by
 have r0:(G.aQ 156).raw=(156,G.ni,[])::[]:=by show _::G.raw=_;rw[hr]
 refine av hK rfl DC rfl (pE hK rfl (vs:=[]) (fun _ _=>rfl) (show P.init 180=some 1001 by kernel_rfl) rfl (DF (G:=G.aQ 156) (rest:=[(156,G.ni,[])]) r0 rfl (ac hK rfl) fun G1 w1 q1 m1 m2 m3 t1=>?_))
 have w:Nw G G1:=Nw.refl.aQ.trans w1
 refine⟨G1.sN 77 156 G.ni (G.ni+1),rfl,?_⟩
 have q2:=aG (a:=77) (c:=156) rfl q1
 have q3:=aG (G:=(G1.sN 77 156 G.ni (G.ni+1)).newD) (a:=107) rfl q2
 have q4:=aG (G:=(G1.sN 77 156 G.ni (G.ni+1)).newD.sN 107 156 G.ni G1.nd) (a:=99) rfl q3
 refine aJ hK rfl (v:= .dict G1.nd) (fun _ _=>rfl) rfl rfl (aJ hK rfl (v:= .ref 152 (some ru)) (fun _ _=>rfl) rfl rfl (az hK rfl ?_))
 refine cj (cz (G:=((G1.sN 77 156 G.ni (G.ni+1)).newD.sN 107 156 G.ni G1.nd).sN 99 156 G.ni ru) rfl q4 (by kernel_rfl)) (g _ ((((w.sN (ab _)).newD).sN (ab _)).sN (ab _)).rw rfl m1 m2 (by show G1.nd+1=_;rw[m3];rfl) bV (Eq.trans bV m3) bV t1 ?_)
 have:G.nd=G1.nd:=m3.symm
 rw[this]
 show(if G1.nd=G1.nd then _ else _)=_
 rw[if_pos rfl]
end
set_option tactic.hygienic true
section
variable{G G' G1:H}{K jl:Nat}{rest:Rw}{kv:V->H->Prop}{z:Int}{w:V}
noncomputable abbrev z8:List V:=(List.replicate 8 [V.int 0]).flatten
theorem C7(hr:G.raw=rest)(ho:mE 192 rest=true)(hj:jl<G.nl)(hl:G.lst jl=[])(hK:60<=K)(g:∀G',Nw G G'->G'.raw=rest->G'.ni=G.ni+1->G'.nl=G.nl+4->G'.nd=G.nd->G'.N 189 192 G.ni=G.nl+3->G'.I 190 192 G.ni=0->G'.I 191 192 G.ni=8->G'.I 188 192 G.ni=8->(G'.lst (G.nl+3)).length=8->kv (.ref 192 (some G.ni)) G'):
  aD P K (G.aQ 192) 1008 [.ref 192 (some G.ni), .list jl, .int 8] fun r h'=>fg (whole P 192 G.ni r h') kv:=by
 have r0:(G.aQ 192).raw=(192,G.ni,[])::rest:=by show _::G.raw=_;rw[hr]
 have q1:=aG (a:=188) ho r0
 have w1:Nw G ((G.aQ 192).sI 188 192 G.ni 8):=Nw.refl.aQ.sI (ab _)
 have i1:((G.aQ 192).sI 188 192 G.ni 8).I 188 192 G.ni=8:=lG
 have n1:((G.aQ 192).sI 188 192 G.ni 8).ni=G.ni+1/\((G.aQ 192).sI 188 192 G.ni 8).nl=G.nl/\((G.aQ 192).sI 188 192 G.ni 8).nd=G.nd:=⟨rfl,rfl,rfl⟩
 have q1:((G.aQ 192).sI 188 192 G.ni 8).raw=(192,G.ni,[188])::rest:=q1
 refine av hK rfl Bz rfl (aJ hK rfl (fun _ _=>rfl) rfl rfl ?_)
 generalize (G.aQ 192).sI 188 192 G.ni 8=G1 at*
 have lj:∀{G2:H},Nw G G2->G2.lst jl=[]:=fun w=>(w.lst _ hj).trans hl
 have mul:lN ((G1.newL (G1.lst jl)).newL [.int 0]) .mul (.list (G1.nl+1)) (.int 8)=some (.list (G1.nl+2),((G1.newL (G1.lst jl)).newL [.int 0]).newL z8):=by
  have z:((G1.newL (G1.lst jl)).newL [.int 0]).lst (G1.nl+1)=[.int 0]:=a6
  show(if(((G1.newL (G1.lst jl)).newL [.int 0]).lst (G1.nl+1)).length=1/\(0:Int)<=8/\(8:Int)<eg then some (V.list (G1.nl+2),((G1.newL (G1.lst jl)).newL [.int 0]).newL (List.replicate 8 (((G1.newL (G1.lst jl)).newL [.int 0]).lst (G1.nl+1))).flatten) else none)=_
  rw[z,if_pos ⟨rfl,by decide,by decide⟩]
 have w3:Nw G (((G1.newL (G1.lst jl)).newL [.int 0]).newL z8):=w1.newL.newL.newL
 have n3:(((G1.newL (G1.lst jl)).newL [.int 0]).newL z8).ni=G.ni+1/\(((G1.newL (G1.lst jl)).newL [.int 0]).newL z8).nl=G.nl+3/\(((G1.newL (G1.lst jl)).newL [.int 0]).newL z8).nd=G.nd:=⟨n1.1,congrArg (· +3) n1.2.1,n1.2.2⟩
 have l3a:(((G1.newL (G1.lst jl)).newL [.int 0]).newL z8).lst (G1.nl+2)=z8:=a6
 have l3b:(((G1.newL (G1.lst jl)).newL [.int 0]).newL z8).lst G1.nl=[]:=by
  refine(aU (show G1.nl<G1.nl+2 by lia)).trans ((aU (show G1.nl<G1.nl+1 by lia)).trans (a6.trans (lj w1)))
 have q3:(((G1.newL (G1.lst jl)).newL [.int 0]).newL z8).raw=(192,G.ni,[188])::rest:=q1
 have i3:(((G1.newL (G1.lst jl)).newL [.int 0]).newL z8).I=G1.I:=rfl
 have he:∀n kk,aN P (n+16) (fun x=>([178,134,188].zip [V.ref 192 (some G.ni),V.list jl,V.int 8]).lookup x) G1 (.bop .add (.blt .list [.var 134]) (.bop .mul (.list [.int 0]) (.var 188))) kk=fg (lN (((G1.newL (G1.lst jl)).newL [.int 0]).newL z8) .add (.list G1.nl) (.list (G1.nl+2))) kk:=fun n kk=>by
  rw[mG,oW]
  show aN P (n+15) (fun x=>([178,134,188].zip [V.ref 192 (some G.ni),V.list jl,V.int 8]).lookup x) (G1.newL (G1.lst jl)) (.bop .mul (.list [.int 0]) (.var 188)) (fun y h=>fg (lN h .add (.list G1.nl) y) kk)=_
  rw[mG,jD]
  show fg (lN ((G1.newL (G1.lst jl)).newL [.int 0]) .mul (.list (G1.nl+1)) (.int 8)) (fun y h=>fg (lN h .add (.list G1.nl) y) kk)=_
  rw[mul];rfl
 generalize ((G1.newL (G1.lst jl)).newL [.int 0]).newL z8=G3 at*
 have add:lN G3 .add (.list G1.nl) (.list (G1.nl+2))=some (.list G3.nl,G3.newL z8):=by
  show(if(G3.lst G1.nl).length+(G3.lst (G1.nl+2)).length<eg then some (V.list G3.nl,G3.newL (G3.lst G1.nl++G3.lst (G1.nl+2))) else none)=_
  rw[l3a,l3b,if_pos (by unfold eg;decide)];rfl
 have he':∀n kk,aN P (n+16) (fun x=>([178,134,188].zip [V.ref 192 (some G.ni),V.list jl,V.int 8]).lookup x) G1 (.bop .add (.blt .list [.var 134]) (.bop .mul (.list [.int 0]) (.var 188))) kk=kk (.list G3.nl) (G3.newL z8):=fun n kk=>by rw[he,add];rfl
 have q4:=aG (a:=189) ho q3
 have q5:=aG (G:=(G3.newL z8).sN 189 192 G.ni G3.nl) (a:=190) ho q4
 have q6:=aG (G:=((G3.newL z8).sN 189 192 G.ni G3.nl).sI 190 192 G.ni 0) (a:=191) ho q5
 have w4:Nw G ((G3.newL z8).sN 189 192 G.ni G3.nl):=w3.newL.sN (ab _)
 have ln:∀{G2:H},Nw G G2->∀n kk,aN P (n+16) (fun x=>([178,134,188].zip [V.ref 192 (some G.ni),V.list jl,V.int 8]).lookup x) G2 (.blt .len [.var 134]) kk=kk (.int 0) G2:=fun {G2} w n kk=>by
  show kk (.int (G2.lst jl).length) G2=_
  rw[lj w];rfl
 have ln2:∀{G2:H},Nw G G2->∀n kk,aN P (n+16) (fun x=>([178,134,188].zip [V.ref 192 (some G.ni),V.list jl,V.int 8]).lookup x) G2 (.bop .add (.blt .len [.var 134]) (.var 188)) kk=kk (.int 8) G2:=fun {G2} w n kk=>by
  show kk (.int ((G2.lst jl).length+8)) G2=_
  rw[lj w];rfl
 refine aJ hK rfl he' rfl rfl (aJ hK rfl (ln w4) rfl rfl (aJ hK rfl (ln2 (w4.sI (ab _))) rfl rfl (az hK rfl ?_)))
 refine cj (cz ho q6 (by kernel_rfl)) (g _ ((w4.sI (ab _)).sI (ab _)).rw rfl n3.1 (congrArg (· +1) n3.2.1) n3.2.2 (Eq.trans bV n3.2.1) bV bV ?_ ?_)
 ·show G3.I 188 192 G.ni=8
  rw[i3];exact i1
 ·show((G3.newL z8).lst (G.nl+3)).length=8
  rw[←n3.2.1,a6];rfl
theorem LY(hr:G.raw=rest)(ho:mE 199 rest=true)(hK:60<=K)(g:∀G',Nw G G'->G'.raw=rest->G'.ni=G.ni+1->G'.nl=G.nl->G'.nd=G.nd+1->G'.N 143 199 G.ni=G.nd->(G'.dct G.nd).2=true->kv (.ref 199 (some G.ni)) G'):
  aD P K (G.aQ 199) 1015 [.ref 199 (some G.ni)] fun r h'=>fg (whole P 199 G.ni r h') kv:=by
 have r0:(G.aQ 199).raw=(199,G.ni,[])::rest:=by show _::G.raw=_;rw[hr]
 have q1:=aG (a:=143) ho r0
 refine av hK rfl Da rfl (aJ hK rfl (fun _ _=>rfl) rfl rfl (az hK rfl ?_))
 refine cj (cz ho q1 (by kernel_rfl)) (g _ (((Nw.refl.aQ).newD).sN (ab _)).rw rfl rfl rfl rfl bV ?_)
 show((if G.nd=G.nd then _ else _:(Int->Option V)×Bool)).2=true
 rw[if_pos rfl]
theorem GV(hr:G.raw=[])(hK:160<=K)(g:∀G',Nw G G'->G'.raw=[]->G'.ni=G.ni+3->G'.nl=G.nl+6->G'.nd=G.nd+1->Bf G' ⟨G.ni,G.ni+1,G.ni+2,G.nd,G.nl+5,G.nl+4⟩ 0 8 none->G'.I 132 155 G.ni=1->kv (.ref 155 (some G.ni)) G'):
  aD P K (G.aQ 155) 1020 [.ref 155 (some G.ni), .int 1,w] fun r h'=>fg (whole P 155 G.ni r h') kv:=by
 have r0:(G.aQ 155).raw=(155,G.ni,[])::[]:=by show _::G.raw=_;rw[hr]
 have q1:=aG (a:=97) (c:=155) rfl r0
 have q2:=aG (G:=(G.aQ 155).sI 97 155 G.ni 1) (a:=205) rfl q1
 have w2:Nw G ((((G.aQ 155).sI 97 155 G.ni 1).sF 205 155 G.ni w).newL []):=((Nw.refl.aQ.sI (ab _)).sF (ab _)).newL
 have n2:((((G.aQ 155).sI 97 155 G.ni 1).sF 205 155 G.ni w).newL []).ni=G.ni+1/\((((G.aQ 155).sI 97 155 G.ni 1).sF 205 155 G.ni w).newL []).nl=G.nl+1/\((((G.aQ 155).sI 97 155 G.ni 1).sF 205 155 G.ni w).newL []).nd=G.nd:=⟨rfl,rfl,rfl⟩
 have l2:((((G.aQ 155).sI 97 155 G.ni 1).sF 205 155 G.ni w).newL []).lst G.nl=[]:=a6 (G:=((G.aQ 155).sI 97 155 G.ni 1).sF 205 155 G.ni w)
 have q2:((((G.aQ 155).sI 97 155 G.ni 1).sF 205 155 G.ni w).newL []).raw=(155,G.ni,[205,97])::[]:=q2
 refine av hK rfl AY rfl (aJ hK rfl (v:= .int 1) (fun _ _=>rfl) rfl rfl (aJ hK rfl (v:=w) (fun _ _=>rfl) rfl rfl ?_))
 refine pE hK rfl (vs:=[.list G.nl, .int 8]) (G1:=(((G.aQ 155).sI 97 155 G.ni 1).sF 205 155 G.ni w).newL []) (fun _ _=>rfl) (show P.init 192=some 1008 by kernel_rfl) rfl ?_
 generalize (((G.aQ 155).sI 97 155 G.ni 1).sF 205 155 G.ni w).newL []=G2 at*
 refine C7 q2 rfl (by rw[n2.2.1];exact aE _) l2 (ac hK rfl) fun G3 w3 q3 m1 m2 m3 t1 t2 t3 t4 t5=>?_
 rw[n2.1] at m1 t1 t2 t3 t4
 rw[n2.2.1] at m2 t1 t5
 rw[n2.2.2] at m3
 refine⟨G3.sN 131 155 G.ni (G.ni+1),by rw[←n2.1];rfl,?_⟩
 have q4:(G3.sN 131 155 G.ni (G.ni+1)).raw=(155,G.ni,[131,205,97])::[]:=aG (a:=131) rfl q3
 have w4:Nw G (G3.sN 131 155 G.ni (G.ni+1)):=(w2.trans w3).sN (ab _)
 refine pE hK rfl (vs:=[]) (fun _ _=>rfl) (show P.init 199=some 1015 by kernel_rfl) rfl (LY q4 rfl (ac hK rfl) fun G5 w5 q5 p1 p2 p3 u1 u2=>?_)
 have m1':(G3.sN 131 155 G.ni (G.ni+1)).ni=G.ni+2:=m1
 have w6:Nw G G5:=w4.trans w5
 rw[m1'] at p1 u1
 have nd4:(G3.sN 131 155 G.ni (G.ni+1)).nd=G.nd:=m3
 rw[nd4] at p3 u1 u2
 have nl4:(G3.sN 131 155 G.ni (G.ni+1)).nl=G.nl+5:=m2
 rw[nl4] at p2
 have a1:G5.N 131 155 G.ni=G.ni+1:=(w5.N _ _ _ (by rw[m1'];lia)).trans Bj
 have b1:G5.N 189 192 (G.ni+1)=G.nl+4:=(w5.N _ _ _ (by rw[m1'];lia)).trans ((rm (by decide)).trans t1)
 have b2:G5.I 190 192 (G.ni+1)=0:=(w5.I _ _ _ (by rw[m1'];lia)).trans t2
 have b3:G5.I 191 192 (G.ni+1)=8:=(w5.I _ _ _ (by rw[m1'];lia)).trans t3
 have b4:G5.I 188 192 (G.ni+1)=8:=(w5.I _ _ _ (by rw[m1'];lia)).trans t4
 have b5:(G5.lst (G.nl+4)).length=8:=by rw[w5.lst _ (by rw[nl4];lia)];exact t5
 refine⟨G5.sN 140 155 G.ni (G.ni+2),by rw[m1'];rfl,?_⟩
 have q6:(G5.sN 140 155 G.ni (G.ni+2)).raw=(155,G.ni,[140,131,205,97])::[]:=aG (a:=140) rfl q5
 have w7:Nw G (G5.sN 140 155 G.ni (G.ni+2)):=w6.sN (ab _)
 have c1:(G5.sN 140 155 G.ni (G.ni+2)).N 131 155 G.ni=G.ni+1:=(rm (by decide)).trans a1
 have c2:(G5.sN 140 155 G.ni (G.ni+2)).N 140 155 G.ni=G.ni+2:=Bj
 have c3:(G5.sN 140 155 G.ni (G.ni+2)).N 143 199 (G.ni+2)=G.nd:=(rm (by decide)).trans u1
 have c4:(G5.sN 140 155 G.ni (G.ni+2)).N 189 192 (G.ni+1)=G.nl+4:=(rm (by decide)).trans b1
 have nn:(G5.sN 140 155 G.ni (G.ni+2)).ni=G.ni+3/\(G5.sN 140 155 G.ni (G.ni+2)).nl=G.nl+5/\(G5.sN 140 155 G.ni (G.ni+2)).nd=G.nd+1:=⟨p1,p2,p3⟩
 have b2:(G5.sN 140 155 G.ni (G.ni+2)).I 190 192 (G.ni+1)=0:=b2
 have b3:(G5.sN 140 155 G.ni (G.ni+2)).I 191 192 (G.ni+1)=8:=b3
 have b4:(G5.sN 140 155 G.ni (G.ni+2)).I 188 192 (G.ni+1)=8:=b4
 have b5:((G5.sN 140 155 G.ni (G.ni+2)).lst (G.nl+4)).length=8:=b5
 have u2:((G5.sN 140 155 G.ni (G.ni+2)).dct G.nd).2=true:=u2
 generalize G5.sN 140 155 G.ni (G.ni+2)=G7 at*
 have x1:=aG (a:=132) (c:=155) rfl q6
 have x2:=aG (G:=G7.sI 132 155 G.ni 1) (a:=121) rfl x1
 have x3:=aG (G:=(G7.sI 132 155 G.ni 1).sI 121 155 G.ni 1) (a:=122) rfl x2
 have x4:=aG (G:=((G7.sI 132 155 G.ni 1).sI 121 155 G.ni 1).sI 122 155 G.ni 1) (a:=206) rfl x3
 have x5:=aG (G:=(((G7.sI 132 155 G.ni 1).sI 121 155 G.ni 1).sI 122 155 G.ni 1).sF 206 155 G.ni .none) (a:=207) rfl x4
 have x6:=aG (G:=((((G7.sI 132 155 G.ni 1).sI 121 155 G.ni 1).sI 122 155 G.ni 1).sF 206 155 G.ni .none).sB 207 155 G.ni true) (a:=114) rfl x5
 generalize e8:(((((G7.sI 132 155 G.ni 1).sI 121 155 G.ni 1).sI 122 155 G.ni 1).sF 206 155 G.ni .none).sB 207 155 G.ni true).sB 114 155 G.ni false=G8
 have w8:Nw G G8:=e8▸(((((w7.sI (ab _)).sI (ab _)).sI (ab _)).sF (ab _)).sB (ab _)).sB (ab _)
 have q8:G8.raw=(155,G.ni,[114,207,206,122,121,132,140,131,205,97])::[]:=e8▸x6
 have N8:G8.N=G7.N/\G8.lst=G7.lst/\G8.dct=G7.dct/\G8.ni=G7.ni/\G8.nl=G7.nl/\G8.nd=G7.nd:=e8▸⟨rfl,rfl,rfl,rfl,rfl,rfl⟩
 have I8:G8.I 132 155 G.ni=1/\G8.I 121 155 G.ni=1/\G8.I 122 155 G.ni=1/\G8.B 114 155 G.ni=false:=e8▸⟨bV,bV,bV,bV⟩
 have I8':∀a,G8.I a 192 (G.ni+1)=G7.I a 192 (G.ni+1):=fun a=>e8▸(fw (G:=(G7.sI 132 155 G.ni 1).sI 121 155 G.ni 1) (fun w=>absurd w.1 (by decide))).trans ((fw (G:=G7.sI 132 155 G.ni 1) (fun w=>absurd w.1 (by decide))).trans (fw fun w=>absurd w.1 (by decide)))
 refine aJ hK rfl (v:= .int 1) (fun _ _=>rfl) rfl rfl (aJ hK rfl (v:= .int 1) (fun _ _=>rfl) rfl rfl (aJ hK rfl (v:= .int 1) (fun _ _=>rfl) rfl rfl (aJ hK rfl (v:= .none) (fun _ _=>rfl) rfl rfl (aJ hK rfl (v:= .bool true) (fun _ _=>rfl) rfl rfl (aJ hK rfl (v:= .bool false) (fun _ _=>rfl) rfl (h':=G8) (congrArg some e8) ?_)))))
 have y1:=aG (a:=208) (c:=155) rfl q8
 have y2:=aG (G:=G8.sI 208 155 G.ni 1) (a:=209) rfl y1
 have y3:=aG (G:=(G8.sI 208 155 G.ni 1).sI 209 155 G.ni 1) (a:=210) rfl y2
 have y4:=aG (G:=(((G8.sI 208 155 G.ni 1).sI 209 155 G.ni 1).sI 210 155 G.ni 1).newL []) (a:=124) rfl y3
 generalize e9:((((G8.sI 208 155 G.ni 1).sI 209 155 G.ni 1).sI 210 155 G.ni 1).newL []).sN 124 155 G.ni G8.nl=G9
 have w9:Nw G G9:=e9▸((((w8.sI (ab _)).sI (ab _)).sI (ab _)).newL).sN (ab _)
 have q9:G9.raw=(155,G.ni,[124,210,209,208,114,207,206,122,121,132,140,131,205,97])::[]:=e9▸y4
 have nl8:G8.nl=G.nl+5:=N8.2.2.2.2.1.trans nn.2.1
 have z1:G9.I 132 155 G.ni=1/\G9.I 121 155 G.ni=1/\G9.I 122 155 G.ni=1/\G9.B 114 155 G.ni=false:=e9▸I8
 have z2:∀a,G9.I a 192 (G.ni+1)=G7.I a 192 (G.ni+1):=fun a=>e9▸(fw (G:=(G8.sI 208 155 G.ni 1).sI 209 155 G.ni 1) (fun w=>absurd w.1 (by decide))).trans ((fw (G:=G8.sI 208 155 G.ni 1) (fun w=>absurd w.1 (by decide))).trans ((fw fun w=>absurd w.1 (by decide)).trans (I8' a)))
 have z3:∀{a c i},a≠124->G9.N a c i=G7.N a c i:=fun {a c i} q=>e9▸(rm (G:=(((G8.sI 208 155 G.ni 1).sI 209 155 G.ni 1).sI 210 155 G.ni 1).newL []) q).trans (congrFun (congrFun (congrFun N8.1 _) _) _)
 have z4:G9.N 124 155 G.ni=G.nl+5:=e9▸Eq.trans bV nl8
 have z5:G9.lst (G.nl+5)=[]:=by rw[←nl8,←e9];exact a6 (G:=((G8.sI 208 155 G.ni 1).sI 209 155 G.ni 1).sI 210 155 G.ni 1)
 have z6:(G9.lst (G.nl+4)).length=8:=by
  have:G9.lst (G.nl+4)=G8.lst (G.nl+4):=e9▸aU (G:=((G8.sI 208 155 G.ni 1).sI 209 155 G.ni 1).sI 210 155 G.ni 1) (show G.nl+4<G8.nl by rw[nl8];lia)
  rw[this,N8.2.1];exact b5
 have z7:(G9.dct G.nd).2=true:=by
  have:G9.dct=G8.dct:=e9▸rfl
  rw[this,N8.2.2.1];exact u2
 have z8:G9.ni=G.ni+3/\G9.nl=G.nl+6/\G9.nd=G.nd+1:=e9▸⟨N8.2.2.2.1.trans nn.1,congrArg (· +1) nl8,N8.2.2.2.2.2.trans nn.2.2⟩
 refine aJ hK rfl (v:= .int 1) (fun _ _=>rfl) rfl rfl (aJ hK rfl (v:= .int 1) (fun _ _=>rfl) rfl rfl (aJ hK rfl (v:= .int 1) (fun _ _=>rfl) rfl rfl (aJ hK rfl (v:= .list G8.nl) (fun _ _=>rfl) rfl (h':=G9) (congrArg some e9) ?_)))
 have v1:=aG (a:=129) (c:=155) rfl q9
 have v2:=aG (G:=G9.sF 129 155 G.ni .none) (a:=136) rfl v1
 have v3:=aG (G:=(G9.sF 129 155 G.ni .none).sF 136 155 G.ni .none) (a:=107) rfl v2
 have v4:=aG (G:=((G9.sF 129 155 G.ni .none).sF 136 155 G.ni .none).sQ 107 155 G.ni none) (a:=211) rfl v3
 have v5:=aG (G:=(((G9.sF 129 155 G.ni .none).sF 136 155 G.ni .none).sQ 107 155 G.ni none).sF 211 155 G.ni .none) (a:=212) rfl v4
 have v6:=aG (G:=((((G9.sF 129 155 G.ni .none).sF 136 155 G.ni .none).sQ 107 155 G.ni none).sF 211 155 G.ni .none).sF 212 155 G.ni .none) (a:=213) rfl v5
 refine aJ hK rfl (v:= .none) (fun _ _=>rfl) rfl rfl (aJ hK rfl (v:= .none) (fun _ _=>rfl) rfl rfl (aJ hK rfl (v:= .none) (fun _ _=>rfl) rfl rfl (aJ hK rfl (v:= .none) (fun _ _=>rfl) rfl rfl (aJ hK rfl (v:= .none) (fun _ _=>rfl) rfl rfl (aJ hK rfl (v:= .none) (fun _ _=>rfl) rfl rfl (az hK rfl ?_))))))
 refine cj (cz (G:=(((((G9.sF 129 155 G.ni .none).sF 136 155 G.ni .none).sQ 107 155 G.ni none).sF 211 155 G.ni .none).sF 212 155 G.ni .none).sF 213 155 G.ni .none) rfl v6 (by kernel_rfl)) (g _ ((((((w9.sF (ab _)).sF (ab _)).sQ (ab _)).sF (ab _)).sF (ab _)).sF (ab _)).rw rfl z8.1 z8.2.1 z8.2.2 ?_ z1.1)
 exact⟨rfl,(z3 (by decide)).trans c1,(z3 (by decide)).trans c2,(z3 (by decide)).trans c3,z7,z4,z5,by show G.nl+5<G9.nl;rw[z8.2.1];lia,by show G.nl+5≠G.nl+4;lia,z1.2.1,z1.2.2.1,z1.2.2.2,bV,bV,bV,
  0,8,8,⟨rfl,(z3 (by decide)).trans c4,(z2 190).trans b2,(z2 191).trans b3,(z2 188).trans b4,z6,by show G.nl+4<G9.nl;rw[z8.2.1];lia,by decide,by decide,by decide,by decide⟩,by decide,by decide⟩
end
set_option tactic.hygienic false
structure fY where
 lo:Int
 hi:Int
 f:Bool
 r:Bool
 s:Bool
structure Ed where
 s:Int
 e:Int
 m:Nat
 a:Bool
noncomputable def Hi(x y:Int):Int:=if y<x then y else x
noncomputable def up(e:Int)(m:Nat)(x:Int):Int:=if x>=e then x+m else x
noncomputable def ef(s e x:Int):Int:=x - Hi (imax (x - s) 0) (e - s)
noncomputable def dr(E:Ed)(l:fY):Bool:=E.a||(l.f&&(decide (l.lo<l.hi)||l.r))
noncomputable def iG(s:Int)(m:Nat)(c:Bool)(x:Int):Int:=if x>s\/(x=s/\c=true) then x+m else x
noncomputable def gK(l:fY)(E:Ed)(s e:Int):Option fY:=
 if s<e then
  (if ef s e (if E.m>0 then up e E.m l.lo else l.lo)=ef s e (if E.m>0 then up e E.m l.hi else l.hi)/\l.s=true then none
   else some {l with lo:=ef s e (if E.m>0 then up e E.m l.lo else l.lo),hi:=ef s e (if E.m>0 then up e E.m l.hi else l.hi)})
 else if E.m>0/\s=e then some {l with lo:=iG s E.m (dr E l) l.lo,hi:=iG s E.m (E.a||l.r) l.hi} else some l
noncomputable def lq(l:Option fY)(E:Ed)(fu:Int):Option fY:=match l with
 |none=>none
 |some l=>gK l E (E.s - 1+fu) (E.e - 1+fu)
structure jS(E:Ed):Prop where
 le:E.s<=E.e
 m0:E.m=0->E.s<E.e
 a:E.a=true->E.s=E.e
structure vO(l:fY):Prop where
 le:l.lo<=l.hi
 s:l.s=true->l.lo<l.hi
theorem CE{α:Type}{p:Prop}[Decidable p]{a b r:α}(f:p->a=r)(g:¬p->b=r):(if p then a else b)=r:=
 if h:p then(if_pos h).trans (f h) else(if_neg h).trans (g h)
theorem Ek{p:Prop}[Decidable p]{a b r:Int}(f:p->a<=r)(g:¬p->b<=r):(if p then a else b)<=r:=
 if h:p then(if_pos h).symm▸f h else(if_neg h).symm▸g h
theorem ltI{p:Prop}[Decidable p]{a b r:Int}(f:p->r<a)(g:¬p->r<b):r<(if p then a else b):=
 if h:p then(if_pos h).symm▸f h else(if_neg h).symm▸g h
theorem Kz{p:Prop}[Decidable p]{a b r:Int}(f:p->r<=a)(g:¬p->r<=b):r<=(if p then a else b):=
 if h:p then(if_pos h).symm▸f h else(if_neg h).symm▸g h
theorem PZ{α:Type}{p q:Prop}[Decidable p][Decidable q]{a b a' b':α}(h:p↔q)(e1:a=a')(e2:b=b'):(if p then a else b)=(if q then a' else b'):=
 CE (fun w=>((if_pos (h.mp w)).trans e1.symm).symm) fun w=>((if_neg fun v=>w (h.mpr v)).trans e2.symm).symm
section
variable{s e x y f n:Int}{m:Nat}{c:Bool}
theorem jj(h:x>s)(q:s<x - n):cP s n x=x - n:=(if_pos h).trans (if_pos q)
theorem pX(h:x>s)(q:¬s<x - n):cP s n x=s:=(if_pos h).trans (if_neg q)
theorem hP(h:¬x>s):cP s n x=x:=if_neg h
theorem eo(h:s<e):ef s e x=cP s (e - s) x:=by
 delta ef Hi imax
 by_cases h1:x>s
 ·rw[if_neg (show ¬(x - s<0) by lia)]
  by_cases h2:e - s<x - s
  ·rw[if_pos h2,jj h1 (by lia)]
  ·rw[if_neg h2,pX h1 (by lia)];lia
 ·rw[hP h1]
  by_cases h2:x - s<0
  ·rw[if_pos h2,if_neg (by lia)];lia
  ·rw[if_neg h2,if_neg (by lia)];lia
theorem tw{b e:Int}{f r:Bool}(h:b<=e):iG s m (c||(f&&(decide (b<e)||r))) b=xR s m (led f r c b e) b:=
 have:decide (b<e)= !decide (b=e):=by
  rw[←decide_not];exact decide_eq_decide.mpr ⟨Int.ne_of_lt,fun w=>Int.lt_iff_le_and_ne.mpr ⟨h,w⟩⟩
 congrArg (fun t=>iG s m (c||(f&&(t||r))) b) this
noncomputable def si(l:Option fY):Option (Int×Int):=l.map fun l=>(l.lo,l.hi)
theorem nz(hn:0<n)(h:s<=x):s<=cP s n x:=by
 by_cases a:x>s
 ·by_cases b:s<x - n
  ·rw[jj a b];exact ba b
  ·rw[pX a b];exact bQ _
 ·rw[hP a];exact h
theorem mh(hn:0<n)(h:x<=y):cP s n x<=cP s n y:=by
 by_cases a:x>s
 ·by_cases b:s<x - n
  ·rw[jj a b,jj (aT a h) (by lia)];lia
  ·rw[pX a b];exact nz hn (ba (aT a h))
 ·rw[hP a]
  by_cases b:s<=y
  ·exact ak (Int.not_lt.mp a) (nz hn b)
  ·rw[hP fun w=>b (ba w)];exact h
theorem Dl(hn:0<n)(h:x<y)(q:cP s n x=cP s n y):cP s n x=s:=by
 by_cases a:x>s
 ·by_cases b:s<x - n
  ·rw[jj a b,jj (Int.lt_trans a h) (by lia)] at q;lia
  ·exact pX a b
 ·by_cases b:s<=x
  ·rw[hP a];exact Int.le_antisymm (Int.not_lt.mp a) b
  ·rw[hP a] at q
   by_cases d:s<=y
   ·exact absurd (q▸nz hn d) b
   ·rw[hP fun w=>d (ba w)] at q;exact absurd q (Int.ne_of_lt h)
theorem An:x<=up e m x:=Kz (fun _=>cK (Int.natCast_nonneg m)) fun _=>bQ _
theorem Gf(h:x<y):up e m x<up e m y:=by
 by_cases a:x>=e
 ·rw[show up e m x=x+m from if_pos a,show up e m y=y+m from if_pos (ak a (ba h))];exact Int.add_lt_add_right h _
 ·rw[show up e m x=x from if_neg a];exact aT h An
theorem Gc(h:x<=y):up e m x<=up e m y:=(Int.lt_or_eq_of_le h).elim (fun w=>ba (Gf w)) fun w=>w▸bQ _
end
theorem pD{l:fY}{s e:Int}(ok:vO l)(h:s<e):
  (if ef s e l.lo=ef s e l.hi/\l.s=true then none else some {l with lo:=ef s e l.lo,hi:=ef s e l.hi}).map (fun l:fY=>(l.lo,l.hi))=(if cP s (e - s) l.lo=cP s (e - s) l.hi/\cP s (e - s) l.lo=s/\l.s=true then none else some (cP s (e - s) l.lo,cP s (e - s) l.hi))
  /\∀l',(if ef s e l.lo=ef s e l.hi/\l.s=true then none else some {l with lo:=ef s e l.lo,hi:=ef s e l.hi})=some l'->vO l'/\l'.f=l.f/\l'.r=l.r/\l'.s=l.s:=by
 have hn:0<e - s:=by lia
 rw[eo h,eo h]
 have mono:=mh (s:=s) hn ok.le
 constructor
 ·by_cases q:cP s (e - s) l.lo=cP s (e - s) l.hi/\l.s=true
  ·rw[if_pos q,if_pos ⟨q.1,Dl hn (ok.s q.2) q.1,q.2⟩];rfl
  ·rw[if_neg q,if_neg fun w=>q ⟨w.1,w.2.2⟩];rfl
 ·intro l' e'
  by_cases q:cP s (e - s) l.lo=cP s (e - s) l.hi/\l.s=true
  ·rw[if_pos q] at e';exact aS e'
  ·rw[if_neg q] at e'
   rw[←ag e']
   exact⟨⟨mono,fun w=>Int.lt_iff_le_and_ne.mpr ⟨mono,fun v=>q ⟨v,w⟩⟩⟩,rfl,rfl,rfl⟩
noncomputable def cm(s e:Int)(m:Nat)(c:Bool)(x:Int):Int:=if s<e then ef s e (if m>0 then up e m x else x) else if m>0/\s=e then iG s m c x else x
section
variable{s e x y f:Int}{m:Nat}{c c':Bool}
theorem Ih(h:s<e)(q:e<x):ef s e x=x - (e - s):=by
 rw[eo h];exact jj (Int.lt_trans h q) (by lia)
theorem L5:x<=if m>0 then up e m x else x:=Kz (fun _=>An) fun _=>bQ _
theorem tG:x<=iG s m c x:=Kz (fun _=>cK (Int.natCast_nonneg m)) fun _=>bQ _
theorem Mw(h:s<=e)(q:e<x):cm s e m c x=x+(m - (e - s)):=
 CE (fun h1=>by
  rw[show(if m>0 then up e m x else x)=x+m from CE (fun _=>if_pos (ba q)) fun w=>by lia,Ih h1 (by lia)]
  lia) fun h1=>CE (fun h2=>(if_pos (.inl (Int.lt_of_le_of_lt h q))).trans (by lia)) fun h2=>by lia
theorem FF(h:s<=e)(q:x<=e):cm s e m c x<=s+m:=
 Ek (fun h1=>by
  have w:(if m>0 then up e m x else x)<=e+m:=Ek (fun _=>Ek (fun _=>cG q _) fun _=>by lia) fun _=>by lia
  rw[eo h1]
  refine Ek (fun _=>Ek (fun _=>?_) fun _=>?_) fun _=>?_<;>lia)
  fun h1=>Ek (fun h2=>Ek (fun _=>by lia) fun _=>by lia) fun _=>by lia
theorem vx(h:s<=e)(q:x<s):cm s e m c x=x:=
 CE (fun h1=>by
  rw[show(if m>0 then up e m x else x)=x from CE (fun _=>if_neg (Int.not_le.mpr (Int.lt_trans q h1))) fun w=>rfl,eo h1]
  exact hP (Int.lt_asymm q)) fun h1=>CE (fun h2=>if_neg fun w=>w.elim (Int.lt_asymm q) fun v=>Int.ne_of_lt q v.1) fun _=>rfl
theorem Id:ef (s+f) (e+f) (x+f)=ef s e x+f:=by
 delta ef;rw[Int.add_sub_add_right,Int.add_sub_add_right];exact Int.add_right_comm ..
theorem mq{p q:Prop}[Decidable p][Decidable q]{a b a' b':Int}(h:p↔q)(e1:a=a'+f)(e2:b=b'+f):(if p then a else b)=(if q then a' else b')+f:=
 (PZ h e1 e2).trans (apply_ite (· +f) q a' b').symm
theorem Mz:cm (s+f) (e+f) m c (x+f)=cm s e m c x+f:=by
 refine mq (Int.add_lt_add_iff_right f) ((congrArg _ (mq Iff.rfl (mq (Int.add_le_add_iff_right f) (Int.add_right_comm ..) rfl) rfl)).trans Id) (mq (and_congr_right fun _=>Int.add_left_inj f) (mq (or_congr (Int.add_lt_add_iff_right f) (and_congr_left fun _=>Int.add_left_inj f)) (Int.add_right_comm ..) rfl) rfl)
theorem ym(h:s<=e)(q:f<x)(q':f<s):f<cm s e m c x:=
 ltI (fun h1=>by
  rw[eo h1]
  exact ltI (fun _=>ltI (Int.lt_trans q') fun _=>q') fun _=>aT q L5) fun h1=>ltI (fun _=>aT q tG) fun _=>q
theorem Bh(q:x<y):iG s m c x<iG s m c' y:=
 if h:x>s\/(x=s/\c=true) then by
  have:y>s:=h.elim (fun w=>Int.lt_trans w q) fun w=>w.1▸q
  rw[show iG s m c x=_ from if_pos h,show iG s m c' y=_ from if_pos (.inl this)];exact Int.add_lt_add_right q _
 else Int.lt_of_le_of_lt (Int.le_of_eq (if_neg h)) (aT q tG)
theorem r9(h:¬(s<e))(q:x<y):cm s e m c x<cm s e m c' y:=by
 delta cm
 rw[if_neg h,if_neg h]
 by_cases w:m>0/\s=e
 ·rw[if_pos w,if_pos w];exact Bh q
 ·rw[if_neg w,if_neg w];exact q
theorem zr(h:s<e)(q:x<=y):cm s e m c x<=cm s e m c' y:=by
 unfold cm
 rw[if_pos h,if_pos h,eo h,eo h]
 refine mh (by lia) ?_
 by_cases h2:m>0
 ·rw[if_pos h2,if_pos h2];exact Gc q
 ·rw[if_neg h2,if_neg h2];exact q
theorem yz(q:x≠s):cm s e m c x=cm s e m c' x:=by
 delta cm iG
 by_cases h1:s<e
 ·rw[if_pos h1,if_pos h1]
 ·rw[if_neg h1,if_neg h1]
  by_cases h2:m>0/\s=e
  ·rw[if_pos h2,if_pos h2]
   by_cases h3:x>s
   ·rw[if_pos (.inl h3),if_pos (.inl h3)]
   ·rw[if_neg fun w=>w.elim h3 fun w=>q w.1,if_neg fun w=>w.elim h3 fun w=>q w.1]
  ·rw[if_neg h2,if_neg h2]
end
noncomputable def stp(A:Bool->Int->Int)(p:Prop)[Decidable p](E:Ed)(l:fY):Option fY:=
 if p/\A (dr E l) l.lo=A (E.a||l.r) l.hi/\l.s=true then none else some {l with lo:=A (dr E l) l.lo,hi:=A (E.a||l.r) l.hi}
theorem yx{l:fY}{E:Ed}{s e:Int}:gK l E s e=stp (cm s e E.m) (s<e) E l:=by
 delta gK stp cm
 by_cases h:s<e
 ·rw[if_pos h,if_pos h,if_pos h]
  by_cases q:ef s e (if E.m>0 then up e E.m l.lo else l.lo)=ef s e (if E.m>0 then up e E.m l.hi else l.hi)/\l.s=true
  ·rw[if_pos q,if_pos ⟨h,q⟩]
  ·rw[if_neg q];exact(if_neg fun w=>q w.2).symm
 ·rw[if_neg h,if_neg h,if_neg h]
  refine Eq.trans ?_ (if_neg fun w=>h w.1).symm
  by_cases q:E.m>0/\s=e
  ·rw[if_pos q,if_pos q,if_pos q]
  ·rw[if_neg q,if_neg q,if_neg q]
theorem core{A B C:Bool->Int->Int}{p1 p2 p3:Prop}[Decidable p1][Decidable p2][Decidable p3]{E1 E2:Ed}{l:fY}(h3:p3↔p2)(hl:l.lo<l.hi)
  (key:∀x c c',C c' (A c x)=A c (B c' x))
  (f2:∀c,C (dr E2 {l with lo:=A (dr E1 l) l.lo,hi:=A (E1.a||l.r) l.hi}) (A c l.lo)=C (dr E2 l) (A c l.lo))
  (f1:∀c,A (dr E1 {l with lo:=B (dr E2 l) l.lo,hi:=B (E2.a||l.r) l.hi}) (B c l.lo)=A (dr E1 l) (B c l.lo))
  (w1:∀x x' y y',A x l.lo=A x' l.hi->C y (A x' l.hi)=C y' (A x' l.hi))
  (w2:∀x x' y y',B y l.lo=B y' l.hi->A x (B y' l.hi)=A x' (B y' l.hi))
  (mA:¬p1->∀x y c c',x<y->A c x<A c' y)(nA:p1->∀x y c c',x<=y->A c x<=A c' y)
  (mB:¬p2->∀x y c c',x<y->B c x<B c' y)(nB:p2->∀x y c c',x<=y->B c x<=B c' y)(mC:¬p2->∀x y c c',x<y->C c x<C c' y):
  (stp A p1 E1 l).bind (stp C p3 E2)=(stp B p2 E2 l).bind (stp A p1 E1):=by
 generalize hx:dr E1 l=x at f2 f1
 generalize hy:dr E2 l=y at f2 f1
 have f2:=f2 x
 have f1:=f1 y
 delta stp
 rw[hx,hy]
 by_cases d1:p1/\A x l.lo=A (E1.a||l.r) l.hi/\l.s=true
 ·rw[if_pos d1]
  by_cases d2:p2/\B y l.lo=B (E2.a||l.r) l.hi/\l.s=true
  ·rw[if_pos d2];rfl
  ·rw[if_neg d2]
   refine(if_pos ⟨d1.1,f1.trans ?_,d1.2.2⟩).symm
   show _=A (E1.a||l.r) (B (E2.a||l.r) l.hi)
   rw[←key,←key,d1.2.1]
   exact w1 _ _ _ _ d1.2.1
 ·rw[if_neg d1]
  by_cases d2:p2/\B y l.lo=B (E2.a||l.r) l.hi/\l.s=true
  ·rw[if_pos d2]
   refine if_pos ⟨h3.mpr d2.1,f2.trans ?_,d2.2.2⟩
   show _=C (E2.a||l.r) (A (E1.a||l.r) l.hi)
   rw[key,key,d2.2.1]
   exact w2 _ _ _ _ d2.2.1
  ·rw[if_neg d2]
   show(if p3/\C _ (A x l.lo)=C (E2.a||l.r) (A (E1.a||l.r) l.hi)/\l.s=true then none else some {l with lo:=C _ (A x l.lo),hi:=C (E2.a||l.r) (A (E1.a||l.r) l.hi)})=if p1/\A _ (B y l.lo)=A (E1.a||l.r) (B (E2.a||l.r) l.hi)/\l.s=true then none else some {l with lo:=A _ (B y l.lo),hi:=A (E1.a||l.r) (B (E2.a||l.r) l.hi)}
   rw[f2,f1,key,key]
   by_cases q:A x (B y l.lo)=A (E1.a||l.r) (B (E2.a||l.r) l.hi)/\l.s=true
   ·have c1:p1:=Decidable.byContradiction fun w=>by
     by_cases w2:p2
     ·exact Int.ne_of_lt (mA w _ _ _ _ (Int.lt_iff_le_and_ne.mpr ⟨nB w2 _ _ _ _ (ba hl),fun v=>d2 ⟨w2,v,q.2⟩⟩)) q.1
     ·exact Int.ne_of_lt (mA w _ _ _ _ (mB w2 _ _ _ _ hl)) q.1
    have c2:p2:=Decidable.byContradiction fun w=>by
     have z:=q.1
     rw[←key,←key] at z
     exact Int.ne_of_lt (mC w _ _ _ _ (Int.lt_iff_le_and_ne.mpr ⟨nA c1 _ _ _ _ (ba hl),fun v=>d1 ⟨c1,v,q.2⟩⟩)) z
    rw[if_pos ⟨h3.mpr c2,q⟩,if_pos ⟨c1,q⟩]
   ·rw[if_neg fun w=>q w.2,if_neg fun w=>q w.2]
theorem pq{o:Option fY}{E:Ed}{f s e:Int}(h1:E.s - 1+f=s)(h2:E.e - 1+f=e):lq o E f=o.bind (stp (cm s e E.m) (s<e) E):=by
 subst h1 h2
 rcases o with _|l
 ·rfl
 ·exact yx
theorem mS{l:fY}{E1 E2:Ed}(o1:jS E1)(o2:jS E2)(h:E1.e<E2.s)(hl:l.lo<l.hi):lq (lq (some l) E1 0) E2 (E1.m - (E1.e - E1.s))=lq (lq (some l) E2 0) E1 0:=by
 have a1:=o1.le
 have a2:=o2.le
 generalize e1:E1.s - 1=s1
 generalize e2:E1.e - 1=t1
 generalize e3:E2.s - 1=s2
 generalize e4:E2.e - 1=t2
 generalize e5:(E1.m:Int) - (E1.e - E1.s)=fu
 have b1:s1<=t1:=by lia
 have b2:s2<=t2:=by lia
 have b3:t1<s2:=by lia
 have fu1:fu=E1.m - (t1 - s1):=by lia
 rw[pq ((Int.add_zero _).trans e1) ((Int.add_zero _).trans e2),pq ((Int.add_zero _).trans e1) ((Int.add_zero _).trans e2),pq ((Int.add_zero _).trans e3) ((Int.add_zero _).trans e4),pq (congrArg (· +fu) e3) (congrArg (· +fu) e4)]
 clear a1 a2 e1 e2 e3 e4 e5 h o1 o2
 generalize E1.m=m1 at*
 generalize E2.m=m2 at*
 have kA:∀x c,t1<x->cm s1 t1 m1 c x=x+fu:=fun x c q=>fu1▸Mw b1 q
 have kL:∀x c,x<=t1->cm s1 t1 m1 c x<s2+fu:=fun x c q=>Int.lt_of_le_of_lt (FF b1 q) (by lia)
 have kM:∀x y c c',x<y->t1<y->cm s1 t1 m1 c x<cm s1 t1 m1 c' y:=fun x y c c' q w=>by
  rw[kA y _ w]
  by_cases z:x<=t1
  ·have:=FF (m:=m1) (c:=c) b1 z;lia
  ·rw[kA x _ (by lia)];exact Int.add_lt_add_right q _
 have kn:∀{x a b},a<b->dr x {l with lo:=a,hi:=b}=dr x l:=fun q=>by
  delta dr;dsimp only;rw[aK q,aK hl]
 clear fu1
 refine core (Int.add_lt_add_iff_right fu) hl (fun x c c'=>?_) (fun c=>?_) (fun c=>?_) (fun x x' y y' w=>?_) (fun x x' y y' w=>?_) (fun w x y c c'=>r9 w) (fun w x y c c'=>zr w) (fun w x y c c'=>r9 w) (fun w x y c c'=>zr w) fun w x y c c'=>r9 fun v=>w ((Int.add_lt_add_iff_right fu).mp v)
 ·by_cases q:x<=t1
  ·rw[vx (cG b2 fu) (kL x c q),vx b2 (Int.lt_of_le_of_lt q b3)]
  ·have q:=Int.not_le.mp q
   rw[kA x c q,kA _ c (ym b2 q b3),Mz]
 ·by_cases q:l.lo<=t1
  ·exact yz (Int.ne_of_lt (kL _ _ q))
  ·rw[kn (kM _ _ _ _ hl (Int.lt_trans (Int.not_le.mp q) hl))]
 ·by_cases q:l.lo<s2
  ·rw[kn (by rw[vx b2 q];exact ym b2 hl q)]
  ·exact yz (Int.ne_of_gt (Int.lt_of_le_of_lt b1 (ym b2 (aT b3 (Int.not_lt.mp q)) b3)))
 ·by_cases q:l.hi<=t1
  ·exact yz (Int.ne_of_lt (kL _ _ q))
  ·exact absurd w (Int.ne_of_lt (kM _ _ _ _ hl (Int.not_le.mp q)))
 ·by_cases q:t1<l.hi
  ·exact yz (Int.ne_of_gt (Int.lt_of_le_of_lt b1 (ym b2 q b3)))
  ·have q:=Int.lt_of_le_of_lt (Int.not_lt.mp q) b3
   rw[vx b2 (Int.lt_trans hl q),vx b2 q] at w
   exact absurd w (Int.ne_of_lt hl)
structure Dk(G:H)(jd jc:Nat)(d:Int):Prop where
 raw:G.raw=[]
 ld:G.lst jd=[.list jc, .int d]
 xs:∃xs:List Int,xs.length<=63/\G.lst jc=xs.map .int
 d0:0<=d
 d1:d<=900
 jl:jd<G.nl
 cl:jc<G.nl
 ne:jc≠jd
structure LF(jd:Nat)(G G':H):Prop where
 I:G'.I=G.I
 B:G'.B=G.B
 Q:G'.Q=G.Q
 N:G'.N=G.N
 F:G'.F=G.F
 raw:G'.raw=G.raw
 ni:G'.ni=G.ni
 dct:G'.dct=G.dct
 nd:G'.nd=G.nd
 nl:G.nl<=G'.nl
 lst:∀j,j<G.nl->j≠jd->G'.lst j=G.lst j
section
variable{G G' G1:H}{jd jc K j:Nat}{d m x s e:Int}{k:V->H->Prop}{xs:List V}
theorem LF.refl:LF jd G G:=⟨rfl,rfl,rfl,rfl,rfl,rfl,rfl,rfl,rfl,ab _,fun _ _ _=>rfl⟩
theorem LF.trans{G'':H}(p:LF jd G G')(q:LF jd G' G''):LF jd G G'':=⟨q.I.trans p.I,q.B.trans p.B,q.Q.trans p.Q,q.N.trans p.N,q.F.trans p.F,q.raw.trans p.raw,q.ni.trans p.ni,q.dct.trans p.dct,q.nd.trans p.nd,af p.nl q.nl,fun j h h'=>(q.lst j (ae h p.nl) h').trans (p.lst j h h')⟩
theorem LF.newL(p:LF jd G G1):LF jd G (G1.newL xs):=⟨p.I,p.B,p.Q,p.N,p.F,p.raw,p.ni,p.dct,p.nd,aL p.nl,fun j h h'=>(aU (ae h p.nl)).trans (p.lst j h h')⟩
theorem LF.cA(p:LF jd G G1):LF jd G (G1.ax jd xs):=⟨p.I,p.B,p.Q,p.N,p.F,p.raw,p.ni,p.dct,p.nd,p.nl,fun j h h'=>(a8 h').trans (p.lst j h h')⟩
theorem LF.gk{a:Nat}(p:LF jd G G1)(ha:G.nl<=a):LF jd G (G1.ax a xs):=⟨p.I,p.B,p.Q,p.N,p.F,p.raw,p.ni,p.dct,p.nd,p.nl,fun j h h'=>(a8 (aj (ae h ha))).trans (p.lst j h h')⟩
theorem LF.nw(p:LF jd G G')(h:G1.nl<=jd)(w:Nw G1 G):Nw G1 G':=⟨by rw[p.I];exact w.I,by rw[p.B];exact w.B,by rw[p.Q];exact w.Q,by rw[p.N];exact w.N,by rw[p.F];exact w.F,fun j q=>(p.lst j (ae q w.nl) (by lia)).trans (w.lst j q),by rw[p.dct];exact w.dct,by rw[p.ni];exact w.ni,af w.nl p.nl,by rw[p.nd];exact w.nd⟩
theorem Dk.lf(D:Dk G jd jc d)(p:LF jd G G')(h:G'.lst jd=G.lst jd):Dk G' jd jc d:=by
 obtain⟨ys,y1,y2⟩:=D.xs
 exact⟨p.raw.trans D.raw,h.trans D.ld,⟨ys,y1,(p.lst jc D.cl D.ne).trans y2⟩,D.d0,D.d1,ae D.jl p.nl,ae D.cl p.nl,D.ne⟩
theorem Dk.set(D:Dk G jd jc d)(h:d+1<=900):Dk (G.ax jd [.list jc, .int (d+1)]) jd jc (d+1):=by
 obtain⟨ys,y1,y2⟩:=D.xs
 have:=D.d0
 exact⟨D.raw,aW,⟨ys,y1,(a8 D.ne).trans y2⟩,by lia,h,D.jl,D.cl,D.ne⟩
theorem Mo:P.fn 58=some Og:=by kernel_rfl
theorem KC:P.fn 59=some OB:=by kernel_rfl
theorem dL{n:Nat}{ρ:au}{a b:Mine.E}{o i v:V}(h1:(pv n).ev ρ G a=some o)(h2:(pv n).ev ρ G b=some i)(h3:eO G o i=some v):(pv (n+1)).ev ρ G (.sub a b)=some v:=by
 show oB ((pv n).ev ρ G a) (fun x=>oB ((pv n).ev ρ G b) fun y=>eO G x y)=_
 rw[h1,h2];exact h3
theorem o5{i:Nat}(h:i<(G.lst j).length):eO G (.list j) (.int i)=(G.lst j)[i]?:=by
 show(pP (G.lst j).length (i:Int)).bind (fun k=>(G.lst j)[k]?)=_
 unfold pP
 rw[if_pos (Int.natCast_nonneg i),if_pos (Int.ofNat_lt.mpr h)];rfl
theorem cM(h1:0<=x)(h2:x<=100000000):small x=true:=by
 unfold small
 rw[aK (show -(2 ^ 40)<x by lia),aK (show x<2 ^ 40 by lia)];rfl
theorem lx{y:Int}(h1:small x=true)(h2:small y=true):oo .mul x y=some (x*y):=by
 show(if(small x&&small y)=true then some (x*y) else none)=_
 rw[h1,h2];rfl
theorem CZ(h1:small x=true):oo .fdiv x 7=some (Int.fdiv x 7):=by
 show(if(small x&&small 7&&(7:Int) != 0)=true then some (Int.fdiv x 7) else none)=_
 rw[h1,cM (by decide) (by decide)];rfl
theorem vF(h:small x=true):i9 G .range [.int x]=some (.range x,G):=if_pos h
theorem Dk.gk{a:Nat}(D:Dk G jd jc d)(h1:jd≠a)(h2:jc≠a):Dk (G.ax a xs) jd jc d:=by
 obtain⟨ys,y1,y2⟩:=D.xs
 exact⟨D.raw,(a8 h1).trans D.ld,⟨ys,y1,(a8 h2).trans y2⟩,D.d0,D.d1,D.jl,D.cl,D.ne⟩
theorem eK(D:Dk G jd jc d)(h:d+1<=900)(hm:0<m)(hK:60<=K)(g:∀r,0<=r->r<m->k (.int r) (G.ax jd [.list jc, .int (d+1)])):aD P K G 58 [.list jd, .int m] k:=by
 have d0:=D.d0
 have rd:∀{x0:V} {y:Int} {G:H},G.lst jd=[x0, .int y]->∀{ρ:au} {n:Nat},ρ 146=some (.list jd)->(pv (n+2)).ev ρ G (.sub (.var 146) (.int 0))=some x0/\(pv (n+2)).ev ρ G (.sub (.var 146) (.int 1))=some (.int y):=fun {x0 y G} q {ρ n} r=>by
  refine⟨dL r rfl ((o5 (by rw[q];exact Nat.succ_pos _)).trans ?_),dL r rfl ((o5 (by rw[q];exact Nat.succ_lt_succ (Nat.succ_pos _))).trans ?_)⟩
  ·rw[q];rfl
  ·rw[q];rfl
 have st:FG G (.list jd) (.int 1) (.int (d+1))=some (G.ax jd [.list jc, .int (d+1)]):=by
  show(if(0:Int)<=1 then(pP (G.lst jd).length 1).map (fun j=>G.ax jd ((G.lst jd).set j (.int (d+1)))) else none)=_
  rw[D.ld];rfl
 refine av hK rfl Mo rfl (fh hK rfl (aq hK rfl D.raw (aP (rd D.ld (n:=9) rfl).2 rfl rfl) (zc hK rfl D.raw rfl rfl st ?_)))
 have D':=D.set h
 have sgn:∀z,0<=Int.fmod z m/\Int.fmod z m<m:=fun z=>⟨Int.fmod_nonneg_of_pos _ hm,Int.fmod_lt_of_pos _ hm⟩
 have md:∀z,oo .mod z m=some (Int.fmod z m):=fun z=>if_pos (by rw[bne_iff_ne];lia)
 generalize G.ax jd [.list jc, .int (d+1)]=G1 at*
 obtain⟨ys,y1,y2⟩:=D'.xs
 have ln:∀{ρ:au} {n:Nat},ρ 146=some (.list jd)->(pv (n+4)).ev ρ G1 (.blt .len [.sub (.var 146) (.int 0)])=some (.int ys.length):=fun {ρ n} r=>dz (n:=n+1) (rd D'.ld (n:=n) r).1 (by rw[y2,ai])
 refine aw hK rfl D'.raw (aZ (rd D'.ld (n:=9) rfl).2 (ln (n:=7) rfl) rfl) (cg (fun q=>?_) fun q=>s_end hK rfl ?_)
 ·have q:=ao q
  obtain⟨i,hi⟩:∃i:Nat,(i:Int)=d:=⟨d.toNat,by lia⟩
  have lt:i<ys.length:=by lia
  have el:eO G1 (.list jc) (.int (d+1 - 1))=some (.int ys[i]):=by
   rw[show d+1 - 1=(i:Int) by lia,o5 (by rw[y2,ai];exact lt),y2,bO,List.getElem?_eq_getElem lt];rfl
  exact bg hK rfl D'.raw (aP (dL (rd D'.ld (n:=8) rfl).1 (aP (rd D'.ld (n:=7) rfl).2 rfl rfl) el) rfl (md _)) (g _ (sgn _).1 (sgn _).2)
 ·have sd1:(0:Int)<=d+1/\d+1<=1000:=⟨by lia,by lia⟩
  have mul1:oo .mul (d+1) (d+1)=some ((d+1)*(d+1)):=lx (cM sd1.1 (by lia)) (cM sd1.1 (by lia))
  have b1:(0:Int)<=(d+1)*(d+1):=Int.mul_nonneg sd1.1 sd1.1
  have b2:(d+1)*(d+1)<=1000000:=by
   have:=Int.mul_le_mul sd1.2 sd1.2 sd1.1 (by decide:(0:Int)<=1000)
   lia
  generalize (d+1)*(d+1)=sq at*
  have mul2:oo .mul sq 31=some (sq*31):=lx (cM b1 (by lia)) (cM (by decide) (by decide))
  have mul3:oo .mul 17 (d+1)=some (17*(d+1)):=lx (cM (by decide) (by decide)) (cM sd1.1 (by lia))
  have mul4:oo .mul 5 (ys.length:Int)=some (5*(ys.length:Int)):=lx (cM (by decide) (by decide)) (cM (by lia) (by lia))
  have dv:=CZ (x:=sq*31+17*(d+1)+5*(ys.length:Int)) (cM (by lia) (by lia))
  refine bg hK rfl D'.raw (aP (aP (aP (aP (aP (aP (rd D'.ld (n:=4) rfl).2 (rd D'.ld (n:=4) rfl).2 mul1) rfl mul2) (aP rfl (rd D'.ld (n:=5) rfl).2 mul3) rfl) (aP rfl (ln (n:=4) rfl) mul4) rfl) rfl dv) rfl (md _)) (g _ (sgn _).1 (sgn _).2)
noncomputable abbrev yg(E:Ed)(jn:Nat):V:= .tup [.int E.s, .int E.e, .list jn, .bool E.a]
theorem tb(D:Dk G jd jc d)(h:d+6<=900)(hse:s<=e)(hK:300<=K)
  (g:∀(E:Ed) (jn:Nat) (G':H) (d':Int),jS E->E.s=s->E.e=e->E.m<=3->LF jd G G'->Dk G' jd jc d'->d'<=d+6->G.nl<=jn->jn<G'.nl->(∃zs:List Int,zs.length=E.m/\G'.lst jn=zs.map .int)->k (yg E jn) G'):aD P K G 59 [.list jd, .int s, .int e] k:=by
 refine av hK rfl KC rfl ?_
 have rest:∀{G1:H} {d1:Int},Dk G1 jd jc d1->d1<=d+1->LF jd G G1->aC P (K - (1+1)) (fun x=>([146,118,68].zip [V.list jd,V.int s,V.int e]).lookup x) G1 [.asg (.var 147) (.comp (.bop .add (.int 97) (.call 58 [.var 146, .int 6])) 148 (.blt .range [.bop .add (.int 1) (.call 58 [.var 146, .int 3])]) []),
   .ret (.tup [.var 118, .var 68, .var 147, .bool2 true [.cmp (.var 118) .eq (.var 68), .cmp (.call 58 [.var 146, .int 2]) .eq (.int 1)]])] fun r _ h=>goes r (fun v=>k v h) (k .none h):=fun {G1 d1} D1 hd1 F1=>by
  refine bm hK rfl (di hK rfl (j6 hK rfl (aA hK rfl (ig hK rfl (aq hK rfl D1.raw rfl (aV hK rfl D1.raw rfl (eK D1 (by lia) (by decide) (ac hK rfl) fun r r0 r1=>cj rfl ?_)))))))
  have D2:=D1.set (by lia)
  have F2:LF jd G (G1.ax jd [.list jc, .int (d1+1)]):=F1.cA
  generalize G1.ax jd [.list jc, .int (d1+1)]=G2 at*
  obtain⟨n,hn⟩:∃n:Nat,(n:Int)=1+r:=⟨(1+r).toNat,by lia⟩
  refine bz hK rfl (cj (vF (dA (by lia) (by lia))) ?_)
  have D3:Dk (G2.newL []) jd jc (d1+1):=D2.lf (LF.refl.newL) (aU D2.jl)
  have F3:LF jd G (G2.newL []):=F2.newL
  refine dM (B:=150) (ws:=(List.range n).map fun(i:Nat)=>V.int (i:Int)) (I:=fun j H=>Dk H jd jc (d1+1+j)/\LF jd G H/\(∃zs:List Int,zs.length=j/\H.lst G2.nl=zs.map .int)/\G2.nl<H.nl) (fun j H hI=>?_) (fun j w H K hw hI hK nx hn'=>?_) (fun H hI=>?_) n 0 (G2.newL []) _ (by rw[ai,aM];rfl) ⟨by rw[show d1+1+((0:Nat):Int)=d1+1 by lia];exact D3,F3,⟨[],rfl,a6⟩,aE _⟩ (af (by lia) (ac (n:=160) hK rfl))
  ·show some (if(j:Int)<1+r then some (V.int j) else none)=_
   rw[bO]
   by_cases q:j<n
   ·rw[if_pos (by lia),List.getElem?_range q];rfl
   ·rw[if_neg (by lia),List.getElem?_eq_none (by rw[aM];lia)];rfl
  ·obtain⟨D4,F4,l4,n4⟩:=hI
   have hj:j<n:=by
    obtain⟨hlt,_⟩:=List.getElem?_eq_some_iff.mp hw
    rw[ai,aM] at hlt;exact hlt
   have nej:G2.nl≠jd:=Nat.ne_of_gt D2.jl
   refine cq (d:=0) hK rfl ?_
   rw[bx]
   refine ig (d:=0) hK rfl (aq hK rfl D4.raw rfl (aV hK rfl D4.raw rfl (eK D4 (by lia) (by decide) (ac hK rfl) fun y _ _=>cj rfl ⟨?_,hn' _ ?_⟩)))
   ·obtain⟨zs,w1,w2⟩:=l4
    rw[a8 nej,w2,ai,w1];unfold eg;lia
   ·have D5:=D4.set (by lia)
    obtain⟨zs,w1,w2⟩:=l4
    have l5:(H.ax jd [.list jc, .int (d1+1+j+1)]).lst G2.nl=zs.map .int:=(a8 nej).trans w2
    have F5:LF jd G (H.ax jd [.list jc, .int (d1+1+j+1)]):=F4.cA
    have n5:G2.nl<(H.ax jd [.list jc, .int (d1+1+j+1)]).nl:=n4
    generalize H.ax jd [.list jc, .int (d1+1+j+1)]=H5 at*
    refine⟨?_,F5.gk F2.nl,⟨zs++[97+y],by rw[List.length_append,w1];rfl,by rw[aW,l5,List.map_append];rfl⟩,n5⟩
    have:d1+1+((j+1:Nat):Int)=d1+1+j+1:=by lia
    rw[this]
    exact D5.gk nej.symm (aj D2.cl)
  ·obtain⟨D4,F4,l4,n4⟩:=hI
   rw[ai,aM] at D4 l4
   have out:∀(a:Bool) (H2:Mine.H) (d2:Int),(a=true->s=e)->Dk H2 jd jc d2->d2<=d+6->LF jd G H2->G2.nl<H2.nl->(∃zs:List Int,zs.length=n/\H2.lst G2.nl=zs.map .int)->k (yg ⟨s,e,n,a⟩ G2.nl) H2:=fun a H2 d2 ha D5 hd F5 n5 l5=>g ⟨s,e,n,a⟩ G2.nl H2 d2 ⟨hse,fun w=>absurd w (by show n≠0;lia),ha⟩ rfl rfl (by show n<=3;lia) F5 D5 hd F2.nl n5 l5
   have nej:G2.nl≠jd:=Nat.ne_of_gt D2.jl
   refine bJ hK rfl (kB hK rfl (aA hK rfl (aq hK rfl D4.raw rfl (aA hK rfl (aq hK rfl D4.raw rfl (aA hK rfl (aq hK rfl D4.raw rfl (aA hK rfl (nE hK rfl (Dv hK rfl (aq hK rfl D4.raw (v:= .bool (decide (s=e))) rfl ?_)))))))))))
   by_cases q:s=e
   ·rw[aK q]
    refine Ic hK rfl (gh hK rfl (aV hK rfl D4.raw rfl (eK D4 (by lia) (by decide) (ac hK rfl) fun y _ _=>aq hK rfl D4.raw rfl (bS rfl ?_))))
    have D5:=D4.set (by lia)
    exact bz hK rfl (out (decide (y=1)) _ _ (fun _=>q) D5 (by lia) F4.cA n4 (l4.imp fun zs w=>⟨w.1,(a8 nej).trans w.2⟩))
   ·rw[bB q]
    exact bz hK rfl (out false _ _ (fun w=>ft w) D4 (by lia) F4 n4 l4)
 refine cv hK rfl (gI hK rfl (bK hK rfl (fM hK rfl D.raw rfl ?_)))
 by_cases q:s<e
 ·rw[aK q]
  refine bK hK rfl (rj hK rfl rfl (gh hK rfl (aV hK rfl D.raw rfl (eK D (by lia) (by decide) (ac hK rfl) fun y _ _=>aq hK rfl D.raw rfl (bS (a:=decide (y=0)) rfl ?_)))))
  have D1:=D.set (by lia)
  have F1:LF jd G (G.ax jd [.list jc, .int (d+1)]):=LF.refl.cA
  have rest':=rest D1 (by lia) F1
  have nl1:(G.ax jd [.list jc, .int (d+1)]).nl=G.nl:=rfl
  generalize G.ax jd [.list jc, .int (d+1)]=G1 at*
  show Mine.same (decide (y=0)) true _ _
  rcases w:decide (y=0) with _|_
  ·exact s_end hK rfl rest'
  ·refine cq hK rfl ?_
   rw[bx]
   refine bJ hK rfl (kB hK rfl (aA hK rfl (aq hK rfl D1.raw rfl (aA hK rfl (aq hK rfl D1.raw rfl (aA hK rfl (hH hK rfl D1.raw rfl (aA hK rfl (aq hK rfl D1.raw rfl (bz hK rfl ?_))))))))))
   exact g ⟨s,e,0,false⟩ G1.nl _ (d+1) ⟨hse,fun _=>q,fun w=>ft w⟩ rfl rfl (Nat.zero_le _) F1.newL (D1.lf LF.refl.newL (aU D1.jl)) (by lia) (Nat.le_of_eq nl1.symm) (aE _) ⟨[],rfl,a6⟩
 ·rw[bB q]
  exact s_end hK rfl (rest D (by lia) LF.refl)
end
theorem GC:P.fn 62=some Mq:=by kernel_rfl
noncomputable def bH:Option fY->V
 |none=> .none
 |some l=> .tup [.int l.lo, .int l.hi, .bool l.f, .bool l.r, .bool l.s]
section
variable{G G':H}{jd jn K j:Nat}{lo hi S T fu x:Int}{k:V->H->Prop}{E:Ed}{l:Option fY}
theorem lg{n:Nat}{ρ:au}{es:List Mine.E}{vs:List V}(h:(pv n).evs ρ G es=some vs):(pv (n+1)).ev ρ G (.tup es)=some (.tup vs):=by
 show oB ((pv n).evs ρ G es) (fun vs=>some (V.tup vs))=_
 rw[h];rfl
theorem aH{n x:Nat}{ρ:au}{v:V}(h:ρ x=some v):(pv (n+1)).ev ρ G (.var x)=some v:=h
theorem As{n:Nat}{ρ:au}{b:Bi}{es:List Mine.E}{vs:List V}{v:V}(h:(pv n).evs ρ G es=some vs)(h2:ny G b vs=some v):(pv (n+1)).ev ρ G (.blt b es)=some v:=by
 rw[tX,h];exact h2
theorem eP{n:Nat}{ρ:au}{a b:Mine.E}{p q:Bool}(h1:(pv (n+1)).ev ρ G a=some (.bool p))(h2:(pv n).ev ρ G b=some (.bool q)):(pv (n+3)).ev ρ G (.bool2 true [a,b])=some (.bool (p&&q)):=by
 show oB ((pv (n+1)).ev ρ G a) (fun x=>yf x fun c=>bif eb c true then(pv n).ev ρ G b else some (.bool c))=_
 rw[h1,h2]
 rcases p with _|_<;>rfl
theorem j8{n:Nat}{ρ:au}{a b:Mine.E}{p q:Bool}(h1:(pv (n+1)).ev ρ G a=some (.bool p))(h2:(pv n).ev ρ G b=some (.bool q)):(pv (n+3)).ev ρ G (.bool2 false [a,b])=some (.bool (p||q)):=by
 show oB ((pv (n+1)).ev ρ G a) (fun x=>yf x fun c=>bif eb c false then(pv n).ev ρ G b else some (.bool c))=_
 rw[h1,h2]
 rcases p with _|_<;>rfl
theorem uv{n:Nat}{ρ:au}{t a b:Mine.E}{p:Bool}{v w:V}(h1:(pv n).ev ρ G t=some (.bool p))(h2:(pv n).ev ρ G a=some v)(h3:(pv n).ev ρ G b=some w):(pv (n+1)).ev ρ G (.ite t a b)=some (bif p then v else w):=by
 show oB ((pv n).ev ρ G t) (fun x=>yf x fun c=>bif c then(pv n).ev ρ G a else(pv n).ev ρ G b)=_
 rw[h1,h2,h3]
 rcases p with _|_<;>rfl
theorem yR{ρ:au}{m:Nat}{kh:H->Prop}(hr:G.raw=[])(Jz:ρ 68=some (.int T))(r93:ρ 93=some (.int m))(hK:120<=K)(g:kh ((G.newL []).ax G.nl [.int (up T m lo), .int (up T m hi)])):
  gH P K ρ (G.newL []) (.ite (.cmp (.var 133) .ge (.var 68)) (.bop .add (.var 133) (.var 93)) (.var 133)) 133 [] (.tup [.int lo, .int hi]) 0 G.nl kh:=by
 have one:∀(x:Int) (H:Mine.H),(pv 12).ev (upd ρ 133 (.int x)) H (.ite (.cmp (.var 133) .ge (.var 68)) (.bop .add (.var 133) (.var 93)) (.var 133))=some (.int (up T m x)):=fun x H=>by
  refine(uv (ρ:=upd ρ 133 (.int x)) (aZ rfl (aH (x:=68) (ρ:=upd ρ 133 (.int x)) Jz) rfl) (aP rfl (aH (x:=93) (ρ:=upd ρ 133 (.int x)) r93) rfl) rfl).trans ?_
  unfold up
  by_cases q:x>=T
  ·rw[if_pos q,aK q];rfl
  ·rw[if_neg q,bB q];rfl
 refine dM (B:=80) (I:=fun j H=>H=(G.newL []).ax G.nl (([.int (up T m lo), .int (up T m hi)]:List V).take j)) (fun j H e=>rfl) (fun j w H K hw e hK nx hn=>?_) (fun H e=>?_) 2 0 _ _ rfl (dc (if_pos rfl)).symm (by lia)
 ·have hr':H.raw=[]:=e▸hr
  refine cq (d:=0) hK rfl ?_
  rw[bx]
  match j,hw with
  |0,hw=>
   rcases hw with _|_
   refine aq (d:=0) hK rfl hr' (one lo H) ⟨by rw[e,aW];show 0<eg;unfold eg;decide,?_⟩
   rw[e,aW,cF]
   exact hn _ rfl
  |1,hw=>
   rcases hw with _|_
   refine aq (d:=0) hK rfl hr' (one hi H) ⟨by rw[e,aW];show 1<eg;unfold eg;decide,?_⟩
   rw[e,aW,cF]
   exact hn _ rfl
 ·rw[e];exact g
theorem zZ(hr:G.raw=[])(hm:(G.lst jn).length=E.m)(hK:300<=K)(g:∀G',(∀jd,LF jd G G')->k (bH (lq l E fu)) G'):aD P K G 62 [bH l,yg E jn, .int fu] k:=by
 rcases l with _|l
 ·exact av hK rfl GC rfl (aw hK rfl hr rfl (bg hK rfl hr rfl (g G fun _=>LF.refl)))
 ·obtain⟨lo,hi,f,r,sl⟩:=l
  refine av hK rfl GC rfl (aw hK rfl hr rfl (s_end hK rfl (bY hK rfl (aq hK rfl hr rfl (bS rfl (bS rfl ?_))))))
  refine bY hK rfl (aq hK rfl hr (lg (ah rfl (ah rfl (ah (dz rfl (by rw[hm])) rfl)))) (bS rfl (bS rfl ?_)))
  have gb:∀G',(∀jd,LF jd G G')->k (bH (gK ⟨lo,hi,f,r,sl⟩ E (E.s - 1+fu) (E.e - 1+fu))) G':=g
  generalize E.s - 1+fu=S at*
  generalize E.e - 1+fu=T at*
  have am:decide ((E.m:Int)>0)=decide (E.m>0):=decide_eq_decide.mpr (by lia)
  by_cases h1:S<T
  ·
   have fin:∀{lo1 hi1:Int} {H1:Mine.H} {ρ:au},(lo1=if E.m>0 then up T E.m lo else lo)->(hi1=if E.m>0 then up T E.m hi else hi)->H1.raw=[]->(∀jd,LF jd G H1)->ρ 119=some (.int lo1)->ρ 120=some (.int hi1)->ρ 118=some (.int S)->ρ 68=some (.int T)->ρ 93=some (.int E.m)->ρ 158=some (.bool f)->ρ 159=some (.bool r)->ρ 160=some (.bool sl)->
     aC P (K - (1+1+1+1+1)) ρ H1 (Mq.body.drop 4) (fun r _ h=>goes r (fun v=>k v h) (k .none h)):=fun {lo1 hi1 H1 ρ} z1 z2 hr1 F1 r1 r2 r3 r4 r5 r6 r7 r8=>by
    have mm:∀{ρ:au} {x:Nat} {z:Int},ρ x=some (.int z)->ρ 118=some (.int S)->ρ 68=some (.int T)->(pv 12).ev ρ H1 (.bop .sub (.var x) (.blt .min [.blt .max [.bop .sub (.var x) (.var 118), .int 0], .bop .sub (.var 68) (.var 118)]))=some (.int (ef S T z)):=fun {ρ x z} q1 q2 q3=>
     aP (aH q1) (As (ah (As (ah (aP (aH q1) (aH q2) rfl) (ah rfl rfl)) rfl) (ah (aP (aH q3) (aH q2) rfl) rfl)) rfl) rfl
    refine aw hK rfl hr1 (aZ (aH r3) (aH r4) rfl) ?_
    rw[aK h1,bx]
    refine dP hK rfl hr1 (mm r1 r3 r4) (dP hK rfl hr1 (mm (ρ:=upd ρ 119 _) r2 r3 r4) (aw hK rfl (b:=decide (ef S T lo1=ef S T hi1)&&sl) hr1 (eP (aZ rfl rfl rfl) (aH r8)) ?_))
    have bh:gK ⟨lo,hi,f,r,sl⟩ E S T=if ef S T lo1=ef S T hi1/\sl=true then none else some ⟨ef S T lo1,ef S T hi1,f,r,sl⟩:=by
     unfold gK
     rw[if_pos h1,←z1,←z2]
    have gb':=gb H1 F1
    rw[bh] at gb'
    by_cases q:ef S T lo1=ef S T hi1/\sl=true
    ·rw[if_pos q] at gb'
     rw[aK q.1,q.2]
     exact bg hK rfl hr1 rfl gb'
    ·rw[if_neg q] at gb'
     have:(decide (ef S T lo1=ef S T hi1)&&sl)=false:=by
      cases w:decide (ef S T lo1=ef S T hi1)&&sl with
      |false=>rfl
      |true=>exact absurd ⟨ao (aa w).1,(aa w).2⟩ q
     rw[this]
     refine s_end hK rfl (s_end hK rfl (aw hK rfl (b:=decide ((E.m:Int)>0)&&decide (S=T)) hr1 (eP (aZ (aH r5) rfl rfl) (aZ (aH r3) (aH r4) rfl)) ?_))
     rw[bB (show ¬(S=T) by lia),Bool.and_false]
     exact s_end hK rfl (bg hK rfl hr1 (lg (ah rfl (ah rfl (ah (aH r6) (ah (aH r7) (ah (aH r8) rfl)))))) gb')
   refine aw hK rfl hr (eP (aZ rfl rfl rfl) (aZ rfl rfl rfl)) ?_
   rw[aK h1,Bool.true_and]
   by_cases h2:E.m>0
   ·rw[aK (show(E.m:Int)>0 by lia),bx]
    refine bY hK rfl (di hK rfl (aq hK rfl hr rfl (yR hr rfl rfl (ac hK rfl) (bS (congrArg some aW) (bS rfl (s_end hK rfl ?_))))))
    exact fin (by rw[if_pos h2]) (by rw[if_pos h2]) hr (fun _=>LF.refl.newL.gk (ab _)) rfl rfl rfl rfl rfl rfl rfl rfl
   ·rw[bB (show ¬((E.m:Int)>0) by lia)]
    exact s_end hK rfl (fin (by rw[if_neg h2]) (by rw[if_neg h2]) hr (fun _=>LF.refl) rfl rfl rfl rfl rfl rfl rfl rfl)
  ·refine aw hK rfl hr (eP (aZ rfl rfl rfl) (aZ rfl rfl rfl)) ?_
   rw[bB h1,Bool.false_and]
   refine s_end hK rfl (aw hK rfl hr rfl ?_)
   rw[bB h1]
   refine s_end hK rfl (aw hK rfl (b:=decide ((E.m:Int)>0)&&decide (S=T)) hr (eP (aZ rfl rfl rfl) (aZ rfl rfl rfl)) ?_)
   have gb':=gb G fun _=>LF.refl
   unfold gK at gb'
   rw[if_neg h1] at gb'
   by_cases q:E.m>0/\S=T
   ·rw[if_pos q] at gb'
    rw[aK (show(E.m:Int)>0 by lia),aK q.2]
    show aC P _ _ _ (.asg (.var 165) _::_) _
    refine dP hK rfl hr (j8 rfl rfl) (dP hK rfl hr (j8 rfl (eP rfl (j8 rfl rfl))) ?_)
    have vb:∀{x:Int} {c:Bool},(bif decide (x>S)||(decide (x=S)&&c) then V.int (x+E.m) else .int x)= .int (iG S E.m c x):=fun {x c}=>by
     unfold iG
     by_cases w:x>S\/(x=S/\c=true)
     ·rw[if_pos w]
      have:(decide (x>S)||(decide (x=S)&&c))=true:=by rw[Bool.or_eq_true,Bool.and_eq_true,decide_eq_true_iff,decide_eq_true_iff];exact w
      rw[this];rfl
     ·rw[if_neg w]
      have:(decide (x>S)||(decide (x=S)&&c))=false:=by
       cases u:decide (x>S)||(decide (x=S)&&c) with
       |false=>rfl
       |true=>rw[Bool.or_eq_true,Bool.and_eq_true,decide_eq_true_iff,decide_eq_true_iff] at u;exact absurd u w
      rw[this];rfl
    refine bY hK rfl (aq hK rfl hr (lg (ah (Eq.trans (uv (j8 (aZ rfl rfl rfl) (eP (aZ rfl rfl rfl) rfl)) rfl rfl) (congrArg some vb)) (ah (Eq.trans (uv (j8 (aZ rfl rfl rfl) (eP (aZ rfl rfl rfl) rfl)) rfl rfl) (congrArg some vb)) rfl))) (bS rfl (bS rfl (s_end hK rfl (bg hK rfl hr rfl gb')))))
   ·rw[if_neg q] at gb'
    have:(decide ((E.m:Int)>0)&&decide (S=T))=false:=by
     cases u:decide ((E.m:Int)>0)&&decide (S=T) with
     |false=>rfl
     |true=>rw[Bool.and_eq_true,decide_eq_true_iff,decide_eq_true_iff] at u;exact absurd ⟨by lia,u.2⟩ q
    rw[this]
    exact s_end hK rfl (bg hK rfl hr rfl gb')
end
abbrev Cy:=Nat->Option fY
structure LS(h:HR)(st:eQ)(lots:Cy):Prop where
 st:∀k,k<h.n->st k=si (lots k)
 ok:∀k,k<h.n->∀l,lots k=some l->vO l/\l.f=h.f k/\l.r=h.r k/\l.s=h.s k
section
variable{G G':H}{r:BR}{h:HR}{st:eQ}{lots:Cy}{cap cap' K jn:Nat}{k:V->H->Prop}{sz S T fu:Int}{E:Ed}
theorem Bf.mono{ho:Option Nat}(T:Bf G r sz cap ho)(q:cap<=cap'):Bf G r sz cap' ho:=by
 obtain⟨gs,ge,n,P,h1,h2⟩:=T.gp
 exact⟨T.raw,T.tx,T.mr,T.md,T.dm,T.li,T.ll,T.lt,T.lc,T.beg,T.zv,T.ro,T.un,T.pr,T.ov,gs,ge,n,P,h1,af h2 q⟩
theorem LS.go(L:LS h st lots)(q:S<T):LS h (xy h S (T - S) st) fun k=>(lots k).bind fun l=>if ef S T l.lo=ef S T l.hi/\l.s=true then none else some {l with lo:=ef S T l.lo,hi:=ef S T l.hi}:=by
 constructor
 ·intro k hk
  show xy h S (T - S) st k=si ((lots k).bind _)
  unfold xy
  rw[L.st k hk]
  rcases e:lots k with _|l
  ·rfl
  ·obtain⟨ok,_,_,s⟩:=L.ok k hk l e
   refine Eq.trans ?_ (pD ok q).1.symm
   rw[←s];rfl
 ·intro k hk l' e'
  obtain⟨l,e,w⟩:=kW e'
  obtain⟨ok,a,b,c⟩:=L.ok k hk l e
  obtain⟨ok',a',b',c'⟩:=(pD ok q).2 l' w
  exact⟨ok',a'.trans a,b'.trans b,c'.trans c⟩
theorem LS.wx(L:LS h st lots){m:Nat}{c:Bool}(hm:0<m):LS h (vr h S m c st) fun k=>(lots k).map fun l=>{l with lo:=iG S m (c||(l.f&&(decide (l.lo<l.hi)||l.r))) l.lo,hi:=iG S m (c||l.r) l.hi}:=by
 constructor
 ·intro k hk
  show vr h S m c st k=si ((lots k).map _)
  unfold vr
  rw[L.st k hk]
  rcases e:lots k with _|l
  ·rfl
  ·obtain⟨ok,a,b,_⟩:=L.ok k hk l e
   show some (xR S m (led (h.f k) (h.r k) c l.lo l.hi) l.lo,rO S m (c||h.r k) l.hi)=some (iG S m (c||(l.f&&(decide (l.lo<l.hi)||l.r))) l.lo,iG S m (c||l.r) l.hi)
   rw[tw ok.le,a,b];rfl
 ·intro k hk l' e'
  obtain⟨l,e,w⟩:=ji e'
  obtain⟨ok,a,b,s⟩:=L.ok k hk l e
  subst w
  refine⟨⟨?_,fun w=>?_⟩,a,b,s⟩
  ·show iG S m _ l.lo<=iG S m _ l.hi
   rw[tw ok.le]
   exact Ak (by lia) ok.le
  ·have lt:=ok.s w
   show iG S m _ l.lo<iG S m _ l.hi
   unfold iG
   (repeat' split)<;>lia
theorem LS.congr{lots':Cy}(L:LS h st lots)(q:∀k,k<h.n->lots k=lots' k):LS h st lots':=⟨fun k hk=>(L.st k hk).trans (by rw[q k hk]),fun k hk l e=>L.ok k hk l ((q k hk).trans e)⟩
theorem LS.ins(L:LS h st lots)(o:jS E)(q:E.s=E.e):LS h (vr h (E.s - 1+fu) E.m E.a st) fun k=>lq (lots k) E fu:=by
 have hm:0<E.m:=Nat.pos_of_ne_zero fun w=>by have:=o.m0 w;lia
 refine(L.wx (S:=E.s - 1+fu) hm).congr fun k _=>?_
 cases lots k with
 |none=>rfl
 |some l=>
  show some _=gK l E _ _
  delta gK dr
  rw[if_neg (by lia),if_pos ⟨hm,by lia⟩]
theorem LS.del(L:LS h st lots)(o:jS E)(q:E.m=0):LS h (xy h (E.s - 1+fu) (E.e - 1+fu - (E.s - 1+fu)) st) fun k=>lq (lots k) E fu:=by
 have lt:=o.m0 q
 refine(L.go (S:=E.s - 1+fu) (by lia)).congr fun k _=>?_
 cases lots k with
 |none=>rfl
 |some l=>
  show(if _ then none else some _)=gK l E _ _
  unfold gK
  rw[if_pos (show E.s - 1+fu<E.e - 1+fu by lia),if_neg (show ¬(E.m>0) by lia),if_neg (show ¬(E.m>0) by lia)]
theorem LS.rep(L:LS h st lots)(o:jS E)(q:E.s<E.e)(hm:0<E.m):LS h (xy h (E.s - 1+fu) (E.e - 1+fu - (E.s - 1+fu)) (vr h (E.e - 1+fu) E.m true st)) fun k=>lq (lots k) E fu:=by
 refine((L.wx (S:=E.e - 1+fu) hm).go (S:=E.s - 1+fu) (by lia)).congr fun k _=>?_
 rcases lots k with _|l
 ·rfl
 ·have u:∀x,iG (E.e - 1+fu) E.m true x=up (E.e - 1+fu) E.m x:=fun x=>by
   unfold iG up
   by_cases w:x>=E.e - 1+fu
   ·rw[if_pos w,if_pos]
    by_cases v:x=E.e - 1+fu
    ·exact .inr ⟨v,rfl⟩
    ·exact .inl (by lia)
   ·rw[if_neg w,if_neg]
    exact fun v=>v.elim (fun v=>by lia) fun v=>by have:=v.1;lia
  show(if _ then none else some _)=gK l E _ _
  simp only[Bool.true_or,u]
  unfold gK
  rw[if_pos (show E.s - 1+fu<E.e - 1+fu by lia),if_pos hm,if_pos hm]
theorem La:P.fn 61=some M9:=by kernel_rfl
theorem uj:∀{zs:List Int} {n:Nat},iB (zs.map V.int) n=true
 |[],_=>rfl
 |z::zs,n=>by
  show(pd (.int z) n&&iB (zs.map V.int) n)=true
  rw[uj];rfl
theorem El(B:BH G r sz cap (some (h,st)))(L:LS h st lots)(o:jS E)(h1:1<=E.s+fu)(h2:E.e+fu<=sz+1)(hm:E.m<=3)(hj:jn<G.nl)(hne:jn≠r.ce)(hz:∃zs:List Int,zs.length=E.m/\G.lst jn=zs.map .int)(hc:cap<=3900)(hK:1080<=K)
  (g:∀u G' st',FB r (some h) G G'->BH G' r (sz - (E.e - E.s)+E.m) (cap+E.m+8) (some (h,st'))->LS h st' (fun k=>lq (lots k) E fu)->k u G'):aD P K G 61 [.ref 155 (some r.bu),yg E jn, .int fu] k:=by
 obtain⟨zs,z1,z2⟩:=hz
 have hr:=B.b.raw
 have hl:(G.lst jn).length=E.m:=by rw[z2,ai,z1]
 refine av hK rfl La rfl (bY hK rfl (aq hK rfl hr rfl (bS rfl (bS rfl (aw hK rfl (b:=decide (E.s=E.e)) hr rfl ?_)))))
 by_cases q:E.s=E.e
 ·rw[aK q,bx]
  have hm0:0<E.m:=Nat.pos_of_ne_zero fun w=>by have:=o.m0 w;lia
  refine s_call hK rfl hr rfl (wW B h1 (by lia) hj hne hl hm0 (by lia) hc (ac hK rfl) fun u G1 F1 B1=>s_end hK rfl (az hK rfl (g _ G1 _ F1 ?_ (L.ins o q))))
  rw[show sz - (E.e - E.s)+E.m=sz+E.m by lia,show E.s - 1+fu=E.s+fu - 1 by lia]
  exact B1
 ·rw[bB q]
  have lt:E.s<E.e:=by have:=o.le;lia
  have z0:(G.newL []).lst jn=zs.map V.int:=(aU hj).trans z2
  have cm:kg (G.newL []) .eq (.list jn) (.list G.nl)=some (decide (E.m=0)):=by
   have z4:(G.newL []).lst G.nl=[]:=a6
   show(if iB ((G.newL []).lst jn) 5&&iB ((G.newL []).lst G.nl) 5 then some (hG ((G.newL []).lst jn) ((G.newL []).lst G.nl)) else none)=_
   rw[z0,z4,uj,if_pos (show(true&&iB ([]:List V) 5)=true from rfl),←z1]
   rcases zs with _|_<;>rfl
  have B0:BH (G.newL []) r sz cap (some (h,st)):=B.newL
  have F0:FB r (some h) G (G.newL []):=(BO.refl hr).newL.fb
  refine cv hK rfl (rj hK rfl rfl (gh hK rfl (aq hK rfl hr rfl (hH hK rfl hr rfl (bS cm ?_)))))
  have hj0:jn<(G.newL []).nl:=aY hj
  have hl0:((G.newL []).lst jn).length=E.m:=by rw[z0,ai,z1]
  generalize G.newL []=G0 at*
  by_cases w:E.m=0
  ·rw[aK w]
   refine s_call hK rfl B0.b.raw rfl (E3 B0 h1 (by lia) h2 (ac hK rfl) fun u G1 F1 B1=>s_end hK rfl (s_end hK rfl (az hK rfl (g _ G1 _ (F0.trans F1) ?_ (L.del o w)))))
   rw[show E.e+fu - (E.s+fu)=E.e - 1+fu - (E.s - 1+fu) by lia,show E.s+fu - 1=E.s - 1+fu by lia] at B1
   refine⟨?_,B1.h⟩
   rw[show sz - (E.e - E.s)+E.m=sz - (E.e - 1+fu - (E.s - 1+fu)) by lia]
   exact B1.b.mono (by lia)
  ·rw[bB w]
   refine s_call hK rfl B0.b.raw rfl (Im B0 h1 (by lia) h2 hj0 hne hl0 (by lia) (by lia) hc (ac hK rfl) fun u G1 F1 B1=>s_end hK rfl (s_end hK rfl (az hK rfl (g _ G1 _ (F0.trans F1) ?_ (L.rep o lt (by lia))))))
   rw[show E.e+fu - (E.s+fu)=E.e - 1+fu - (E.s - 1+fu) by lia,show E.s+fu - 1=E.s - 1+fu by lia,show E.e+fu - 1=E.e - 1+fu by lia] at B1
   rw[show sz - (E.e - E.s)+E.m=sz - (E.e - 1+fu - (E.s - 1+fu))+E.m by lia]
   exact B1
end
theorem JK:P.fn 63=some Pf:=by kernel_rfl
section
variable{G G':H}{r:BR}{h:HR}{st:eQ}{lots:Cy}{cap K jl jd j n:Nat}{k:V->H->Prop}{sz x y:Int}
noncomputable abbrev nums(ks:List Nat):List Int:=ks.map fun(k:Nat)=>(k:Int)
theorem kR{ks:List Nat}{n:Nat}{p:Nat->Bool}(nd:ks.Nodup)(h:∀k,k∈ks↔k<n/\p k=true):(nums ks).mergeSort (fun a b=>decide (a<=b))=nums ((List.range n).filter p):=by
 have tot:∀(a b:Int),(decide (a<=b)||decide (b<=a))=true:=fun a b=>by rw[Bool.or_eq_true,decide_eq_true_iff,decide_eq_true_iff];lia
 have tra:∀(a b c:Int),decide (a<=b)=true->decide (b<=c)=true->decide (a<=c)=true:=fun a b c h1 h2=>aK (ak (ao h1) (ao h2))
 refine List.Perm.eq_of_pairwise (le:=fun a b=>decide (a<=b)=true) (fun a b _ _ h1 h2=>Int.le_antisymm (ao h1) (ao h2)) (List.pairwise_mergeSort tra tot _) ?_ ((List.mergeSort_perm _ _).trans (List.Perm.map _ ?_))
 ·exact List.pairwise_map.mpr ((List.pairwise_lt_range.filter p).imp fun h=>aK (by lia))
 ·exact(List.perm_ext_iff_of_nodup nd (List.nodup_range.filter p)).mpr fun k=>by rw[h k,List.mem_filter,List.mem_range]
theorem ku:∀{zs:List Int},hG (zs.map V.int) (zs.map V.int)=true
 |[]=>rfl
 |z::zs=>by
  show(decide (z=z)&&hG (zs.map V.int) (zs.map V.int))=true
  rw[ku,aK rfl];rfl
theorem sr:∀{zs:List Int},nS (zs.map V.int)=some zs
 |[]=>rfl
 |z::zs=>by
  show(nS (zs.map V.int)).map (z:: ·)=_
  rw[sr];rfl
theorem oK{α:Type}{f:Nat->V}{k:Nat}(hl:G.lst j=(List.range n).map f)(hk:k<n):eO G (.list j) (.int k)=some (f k):=by
 rw[o5 (by rw[hl,ai,aM];exact hk),hl,bO,List.getElem?_range hk];rfl
structure Sv(G H:Mine.H)(ρ0 ρ:au)(r:BR)(h:HR)(st:eQ)(sz:Int)(cap:Nat)(jl jd:Nat)(lots:Cy):Prop where
 r1:ρ 154=some (.ref 155 (some r.bu))
 r2:ρ 157=some (.list jl)
 r3:ρ 167=some (.list jd)
 f:FB r (some h) G H
 b:BH H r sz cap (some (h,st))
 l:H.lst jl=(List.range h.n).map fun k=> .ref 108 (some (h.ov k))
 d:H.lst jd=(List.range h.n).map fun k=>bH (lots k)
 n1:jl<H.nl
 n2:jd<H.nl
section
variable{H H':Mine.H}{ρ0 ρ ρ':au}(hl:jl≠r.ce)(hd:jd≠r.ce)
include hl hd
theorem Sv.next(S:Sv G H ρ0 ρ r h st sz cap jl jd lots)(F:FB r (some h) H H')(B:BH H' r sz cap (some (h,st)))(e:∀x,x=154\/x=157\/x=167->ρ' x=ρ x):Sv G H' ρ0 ρ' r h st sz cap jl jd lots:=
 ⟨(e _ (.inl rfl)).trans S.r1,(e _ (.inr (.inl rfl))).trans S.r2,(e _ (.inr (.inr rfl))).trans S.r3,S.f.trans F,B,(F.lst _ S.n1 hl).trans S.l,(F.lst _ S.n2 hd).trans S.d,ae S.n1 F.nl,ae S.n2 F.nl⟩
end
theorem BH.out(T:BH G r sz cap (some (h,st)))(O:Out h G G')(M:Hm G' h st):BH G' r sz cap (some (h,st)):=⟨T.b.out O T.b.oO (T.h _ rfl).2.2,fun p e=>by obtain rfl:=ag e;exact⟨M,(T.h _ rfl).2⟩⟩
theorem Er{ρ:au}{kk:Nat}{kf:Fl->au->H->Prop}{ρ0:au}{G0:H}(hl:jl≠r.ce)(hd:jd≠r.ce)(S:Sv G0 G ρ0 ρ r h st sz cap jl jd lots)(L:LS h st lots)(hk:kk<h.n)(r148:ρ 148=some (.int kk))(hK:560<=K)(g:∀G',Sv G0 G' ρ0 ρ r h st sz cap jl jd lots->kf .next ρ G'):
  aC P K ρ G [.ite (.cmp (.sub (.var 167) (.var 148)) .is .none) [.ite (.bool2 false [.cmp (.attr (.sub (.var 157) (.var 148)) 106) .isNot .none, .cmp (.var 148) .wx (.attr (.attr (.var 154) 107) 107)]) [.ret (.bool false)] []] [.ite (.cmp (.tup [.call 33 [.sub (.var 157) (.var 148)], .call 34 [.sub (.var 157) (.var 148)]]) .ne (.slice (.sub (.var 167) (.var 148)) .none (.int 2))) [.ret (.bool false)] []]] kf:=by
 have M:Hm G h st:=(S.b.h _ rfl).1
 have hr:=S.b.b.raw
 have v167:∀{H:Mine.H} {n:Nat},H.lst jd=(List.range h.n).map (fun k=>bH (lots k))->(pv (n+2)).ev ρ H (.sub (.var 167) (.var 148))=some (bH (lots kk)):=fun q=>dL (n:=_+1) S.r3 r148 (oK (α:=Nat) q hk)
 have v157:∀{H:Mine.H} {n:Nat},H.lst jl=(List.range h.n).map (fun k=>V.ref 108 (some (h.ov k)))->(pv (n+2)).ev ρ H (.sub (.var 157) (.var 148))=some (.ref 108 (some (h.ov kk))):=fun q=>dL (n:=_+1) S.r2 r148 (oK (α:=Nat) q hk)
 rcases e:lots kk with _|l
 ·have es:st kk=none:=by rw[L.st kk hk,e];rfl
  refine aw (d:=0) hK rfl hr (aZ (v:= .none) ((v167 S.d).trans (by rw[e];rfl)) rfl rfl) ?_
  rw[bx]
  have q1:fU G (.ref 108 (some (h.ov kk))) 106=some (.ref 156 none):=by
   show some (V.ref 156 (G.Q 106 108 (h.ov kk)))=_
   rw[M.oh kk hk,es];rfl
  have q2:fU G (.ref 155 (some r.bu)) 107=some (.ref 156 (some h.hm)):=by
   show some (V.ref 156 (G.Q 107 155 r.bu))=_
   rw[S.b.b.ov];rfl
  have q3:fU G (.ref 156 (some h.hm)) 107=some (.dict h.od):=by
   show some (V.dict (G.N 107 156 h.hm))=_
   rw[M.od]
  have q4:kg G .wx (.int kk) (.dict h.od)=some false:=by
   show some ((G.dct h.od).1 kk).isSome=_
   rw[M.d1 kk hk]
   unfold Ez
   rw[es];rfl
  exact aw hK rfl hr (j8 (aZ (a9 (v157 S.l) q1) rfl rfl) (aZ (aH r148) (a9 (a9 (aH S.r1) q2) q3) q4)) (s_end hK rfl (s_end hK rfl (az hK rfl (g G S))))
 ·have es:st kk=some (l.lo,l.hi):=by rw[L.st kk hk,e];rfl
  refine aw (d:=0) hK rfl hr (aZ ((v167 S.d).trans (by rw[e])) rfl rfl) ?_
  show aC P (K - (0+2)) ρ G [.ite (.cmp (.tup _) .ne _) _ _] _
  refine cv hK rfl (rj hK rfl rfl (gh hK rfl (kB hK rfl (aA hK rfl (aV hK rfl hr (sA (v157 S.l)) (yX (w:=false) M hr hk es (ac hK rfl) fun G1 O1 M1=>?_))))))
  have S1:=S.next (ρ':=ρ) hl hd O1.fb (S.b.out O1 M1) fun _ _=>rfl
  refine aA hK rfl (aV hK rfl O1.raw (sA (v157 S1.l)) (yX (w:=true) M1 O1.raw hk es (ac hK rfl) fun G2 O2 M2=>?_))
  have S2:=S1.next (ρ':=ρ) hl hd O2.fb (S1.b.out O2 M2) fun _ _=>rfl
  have cut:m5 G2 (bH (some l)) .none (.int 2)=some (.tup [.int l.lo, .int l.hi],G2):=by
   have c2:=mK (n:=5) (x:=2) (dd:=5) (by decide) (by decide)
   show((some 0:Option Nat).bind fun a=>(cutAt 5 (.int 2) 5).bind fun b=>if b - a<5 then some (V.tup (([V.int l.lo, .int l.hi, .bool l.f, .bool l.r, .bool l.s].drop a).take (b - a)),G2) else none)=_
   rfl
  refine bz hK rfl (dD hK rfl O2.raw ((v167 S2.d).trans (by rw[e])) rfl rfl cut (bS (a:=false) ?_ (s_end hK rfl (s_end hK rfl (az hK rfl (g G2 S2))))))
  show some (!(decide (l.lo=l.lo)&&(decide (l.hi=l.hi)&&true)))=_
  rw[aK rfl,aK rfl];rfl
noncomputable def fp(lots:Cy)(p:Int)(k:Nat):Bool:=match lots k with
 |none=>false
 |some l=>decide (l.lo<=p)&&decide (p<l.hi)
theorem wz{p:Nat->Bool}{j:Nat}:(List.range (j+1)).filter p=(List.range j).filter p++if p j=true then [j] else []:=by
 rw[List.range_succ,List.filter_append]
 by_cases q:p j=true
 ·rw[if_pos q,zq q]
 ·rw[if_neg q,zG (by cases w:p j with|false=>rfl|true=>exact absurd w q)]
theorem ui{ρ:au}{p:Int}{kf:Fl->au->H->Prop}{ρ0:au}{G0:H}(hl:jl≠r.ce)(hd:jd≠r.ce)(S:Sv G0 G ρ0 ρ r h st sz cap jl jd lots)(L:LS h st lots)(r133:ρ 133=some (.int p))(hK:600<=K)(g:∀ρ' G',(∀x,x≠168->ρ' x=ρ x)->Sv G0 G' ρ0 ρ' r h st sz cap jl jd lots->kf .next ρ' G'):
  aC P K ρ G [.asg (.var 168) (.blt .sorted [.comp (.attr (.var 169) 97) 169 (.call 42 [.attr (.var 154) 107, .var 133]) []]), .ite (.cmp (.var 168) .ne (.comp (.var 148) 148 (.blt .range [.blt .len [.var 167]]) [.bool2 true [.cmp (.sub (.var 167) (.var 148)) .isNot .none, .cmp2 (.sub (.sub (.var 167) (.var 148)) (.int 0)) .le (.var 133) .lt (.sub (.sub (.var 167) (.var 148)) (.int 1))]])) [.ret (.bool false)] []] kf:=by
 have M:Hm G h st:=(S.b.h _ rfl).1
 have n4:=M.n4
 have q2:fU G (.ref 155 (some r.bu)) 107=some (.ref 156 (some h.hm)):=by
  show some (V.ref 156 (G.Q 107 155 r.bu))=_
  rw[S.b.b.ov];rfl
 refine bm (d:=0) hK rfl (j6 hK rfl (aA hK rfl (di hK rfl (aV hK rfl S.b.b.raw (ah (a9 (aH S.r1) q2) (ah (aH r133) rfl)) (JD M S.b.b.raw (ac hK rfl) fun j0 ks G1 O1 M1 a1 a2 a3 a4 a5=>?_)))))
 have S1:=S.next (ρ':=ρ) hl hd O1.fb (S.b.out O1 M1) fun _ _=>rfl
 have hr1:=O1.raw
 have l4:ks.length<=4:=by
  have:ks.length<=(List.range h.n).length:=a4.length_le_of_subset fun x hx=>List.mem_range.mpr ((a5 x).mp hx).1
  rw[aM] at this
  exact af this n4
 refine dM (B:=100) (I:=fun j H=>H=(G1.newL []).ax G1.nl ((nums (ks.take j)).map .int)) (fun j H e=>?_) (fun j w H K hw e hK nx hn=>?_) (fun H e=>?_) (nY h ks).length 0 _ _ rfl (dc (if_pos rfl)).symm (by rw[ai];exact af (by lia) (ac (n:=110) hK rfl))
 ·refine ip ?_
  rw[e,a8 (aj a2),aU a2,a3]
 ·rw[bO] at hw
  obtain⟨k0,hk0,rfl⟩:=ji hw
  have hr':H.raw=[]:=e▸hr1
  refine cq (d:=0) hK rfl ?_
  rw[bx]
  refine aq (d:=0) hK rfl hr' (v:= .int k0) (a9 (aH rfl) ?_) ⟨?_,?_⟩
  ·show some (V.int (H.I 97 108 (h.ov k0)))=_
   rw[e]
   show some (V.int (G1.I 97 108 (h.ov k0)))=_
   rw[M1.oi k0 ((a5 k0).mp (List.mem_of_getElem? hk0)).1]
  ·rw[e,aW,ai,ai]
   exact Nat.lt_of_le_of_lt (af (List.length_take_le' _ _) l4) (by unfold eg;lia)
  ·rw[e,aW,cF]
   have:=hn ((G1.newL []).ax G1.nl ((nums (ks.take (j+1))).map .int)) rfl
   rw[fE hk0,nums,List.map_append,List.map_append] at this
   exact this
 rw[ai,List.take_length] at e
 have F2:BO r G1 H:=by
  rw[e]
  exact⟨hr1,fun _ _ _ _ _=>rfl,rfl,rfl,rfl,rfl,rfl,rfl,rfl,Nat.le_succ _,fun j hj _=>(a8 (aj hj)).trans (aU hj)⟩
 have b2:Bf H r sz cap (some h.hm):=by
  have:=S1.b.b.newL (xs:=[])
  obtain⟨gs,ge,n,Pg,h1,h2⟩:=this.gp
  have c1:=S1.b.b.oO
  rw[e]
  exact⟨this.raw,this.tx,this.mr,this.md,this.dm,this.li,(a8 (aj S1.b.b.lt)).trans this.ll,this.lt,this.lc,this.beg,this.zv,this.ro,this.un,this.pr,this.ov,gs,ge,n,⟨Pg.raw,Pg.fce,Pg.fgs,Pg.fge,Pg.frm,by rw[a8 (aj c1)];exact Pg.len,Pg.lt,Pg.h0,Pg.h1,Pg.h2,Pg.h3⟩,h1,h2⟩
 have S2:=S1.next (ρ':=ρ) hl hd F2.fb (S1.b.bo F2 b2) fun _ _=>rfl
 have lst2:H.lst G1.nl=(nums ks).map .int:=by rw[e,aW]
 have so:i9 H .sorted [.list G1.nl]=some (.list H.nl,H.newL ((nums ((List.range h.n).filter (fp lots p))).map .int)):=by
  show(nS (H.lst G1.nl)).bind (fun xs=>if xs.length<64 then some (V.list H.nl,H.newL ((xs.mergeSort fun a b=>decide (a<=b)).map .int)) else none)=_
  rw[lst2,sr]
  show(if(nums ks).length<64 then _ else none)=_
  rw[if_pos (by rw[ai];lia),kR a4 fun k=>?_]
  rw[a5 k]
  refine and_congr_right fun hk=>?_
  unfold fp
  rw[L.st k hk]
  rcases lots k with _|l
  ·exact⟨fun⟨_,_,q,_⟩=>(aS q),fun q=>ft q⟩
  ·rw[Bool.and_eq_true,decide_eq_true_iff,decide_eq_true_iff]
   exact⟨fun⟨b,e,q,w⟩=>by rcases q with _|_;exact w,fun w=>⟨_,_,rfl,w⟩⟩
 refine bz hK rfl (cj so ?_)
 have S3:=S2.next (ρ':=upd ρ 168 (.list H.nl)) hl hd (BO.refl S2.b.b.raw).newL.fb (S2.b.newL (xs:=(nums ((List.range h.n).filter (fp lots p))).map .int)) fun x hx=>by rcases hx with q|q|q<;>(subst q;rfl)
 have lst3:(H.newL ((nums ((List.range h.n).filter (fp lots p))).map .int)).lst H.nl=(nums ((List.range h.n).filter (fp lots p))).map .int:=a6
 have nl3:H.nl<(H.newL ((nums ((List.range h.n).filter (fp lots p))).map .int)).nl:=aE _
 generalize H.newL ((nums ((List.range h.n).filter (fp lots p))).map .int)=G3 at*
 have r168:upd ρ 168 (.list H.nl) 168=some (.list H.nl):=rfl
 have r133':upd ρ 168 (.list H.nl) 133=some (.int p):=r133
 have hρ:∀x,x≠168->upd ρ 168 (.list H.nl) x=ρ x:=fun x hx=>ek hx
 generalize upd ρ 168 (.list H.nl)=ρ3 at*
 have hr3:=S3.b.b.raw
 have rg:(pv 12).ev ρ3 G3 (.blt .range [.blt .len [.var 167]])=some (.range h.n):=lK (ah (dz (aH S3.r3) (by rw[S3.d,ai,aM])) rfl) (dA (by lia) (by lia))
 refine cv hK rfl (rj hK rfl rfl (gh hK rfl (aq hK rfl hr3 (aH r168) (di hK rfl (aq hK rfl hr3 rg ?_)))))
 refine dM (B:=150) (ws:=(List.range h.n).map fun(i:Nat)=>V.int (i:Int)) (I:=fun j H=>H=(G3.newL []).ax G3.nl ((nums ((List.range j).filter (fp lots p))).map .int)) (fun j H e=>?_) (fun j w H K hw e hK nx hn=>?_) (fun H4 e4=>?_) h.n 0 _ _ (by rw[ai,aM];rfl) (dc (if_pos rfl)).symm (af (by lia) (ac (n:=160) hK rfl))
 ·show some (if(j:Int)<h.n then some (V.int j) else none)=_
  rw[bO]
  by_cases q:j<h.n
  ·rw[if_pos (by lia),List.getElem?_range q];rfl
  ·rw[if_neg (by lia),List.getElem?_eq_none (by rw[aM];lia)];rfl
 ·obtain⟨hlt,hget⟩:=List.getElem?_eq_some_iff.mp hw
  rw[ai,aM] at hlt
  have hw':w= .int j:=by rw[←hget,List.getElem_map,List.getElem_range]
  subst hw'
  have hr':H.raw=[]:=e▸hr3
  have d':H.lst jd=(List.range h.n).map fun k=>bH (lots k):=by rw[e,a8 (aj S3.n2),aU S3.n2];exact S3.d
  have v167:∀{n:Nat},(pv (n+2)).ev (upd ρ3 148 (.int j)) H (.sub (.var 167) (.var 148))=some (bH (lots j)):=fun {n}=>dL (n:=n+1) (aH (n:=n) (x:=167) (ρ:=upd ρ3 148 (.int j)) S3.r3) (aH (n:=n) rfl) (oK (α:=Nat) d' hlt)
  have hn':=hn ((G3.newL []).ax G3.nl ((nums ((List.range (j+1)).filter (fp lots p))).map .int)) rfl
  rw[wz] at hn'
  have yes:fp lots p j=true->aN P K (upd ρ3 148 (.int j)) H (.var 148) fun y h=>(h.lst G3.nl).length<eg/\nx (h.ax G3.nl (h.lst G3.nl++[y])):=fun q=>by
   rw[if_pos q] at hn'
   refine aq (d:=0) hK rfl hr' rfl ⟨?_,?_⟩
   ·rw[e,aW,ai,ai]
    exact Nat.lt_of_le_of_lt (List.length_filter_le _ _) (by rw[aM];unfold eg;lia)
   ·rw[e,aW,cF]
    rw[nums,List.map_append,List.map_append] at hn'
    exact hn'
  have no:fp lots p j=false->nx H:=fun q=>by
   rw[if_neg (by exact q▸nofun),List.append_nil] at hn'
   rw[e];exact hn'
  rcases el:lots j with _|l
  ·refine bK (d:=0) hK rfl (gI hK rfl (bK hK rfl (fM hK rfl hr' (b:=false) (aZ (v:= .none) (w:= .none) (v167.trans (by rw[el];rfl)) rfl rfl) ?_)))
   exact no (by unfold fp;rw[el])
  ·refine bK (d:=0) hK rfl (gI hK rfl (bK hK rfl (fM hK rfl hr' (b:=true) (aZ (v:=bH (some l)) (w:= .none) (v167.trans (by rw[el])) rfl rfl) ?_)))
   refine bK hK rfl (rj hK rfl rfl (te (x:=l.lo) (y:=p) (z:=l.hi) hK rfl hr' (dL (o:=bH (some l)) (i:= .int 0) (v167.trans (by rw[el])) rfl rfl) (aH (x:=133) (ρ:=upd ρ3 148 (.int j)) r133') (dL (o:=bH (some l)) (i:= .int 1) (v167.trans (by rw[el])) rfl rfl) ?_))
   have hp:fp lots p j=(decide (l.lo<=p)&&decide (p<l.hi)):=by unfold fp;rw[el]
   show Mine.same (decide (l.lo<=p)&&decide (p<l.hi)) true _ _
   rcases q:decide (l.lo<=p)&&decide (p<l.hi) with _|_
   ·exact no (hp.trans q)
   ·refine cq hK rfl ?_
    show Mine.same true true _ _
    refine cq hK rfl ?_
    rw[bx]
    exact yes (hp.trans q)
 ·rw[ai,aM] at e4
  have F4:BO r G3 H4:=by
   rw[e4]
   exact⟨hr3,fun _ _ _ _ _=>rfl,rfl,rfl,rfl,rfl,rfl,rfl,rfl,Nat.le_succ _,fun j hj _=>(a8 (aj hj)).trans (aU hj)⟩
  have S4:=S3.next (ρ':=ρ3) hl hd F4.fb ?_ fun _ _=>rfl
  ·have z1:H4.lst H.nl=(nums ((List.range h.n).filter (fp lots p))).map .int:=by rw[e4,a8 (aj nl3),aU nl3];exact lst3
   have z2:H4.lst G3.nl=(nums ((List.range h.n).filter (fp lots p))).map .int:=by rw[e4,aW]
   have ne:kg H4 .ne (.list H.nl) (.list G3.nl)=some false:=by
    show(if iB (H4.lst H.nl) 5&&iB (H4.lst G3.nl) 5 then some (hG (H4.lst H.nl) (H4.lst G3.nl)) else none).map (!·)=_
    rw[z1,z2,uj,ku];rfl
   exact bS ne (s_end hK rfl (az (d:=1+1) hK rfl (g ρ3 H4 hρ S4)))
  ·refine S3.b.bo F4 ?_
   have:=S3.b.b.newL (xs:=[])
   obtain⟨gs,ge,n,Pg,h1,h2⟩:=this.gp
   have c1:=S3.b.b.oO
   rw[e4]
   exact⟨this.raw,this.tx,this.mr,this.md,this.dm,this.li,(a8 (aj S3.b.b.lt)).trans this.ll,this.lt,this.lc,this.beg,this.zv,this.ro,this.un,this.pr,this.ov,gs,ge,n,⟨Pg.raw,Pg.fce,Pg.fgs,Pg.fge,Pg.frm,by rw[a8 (aj c1)];exact Pg.len,Pg.lt,Pg.h0,Pg.h1,Pg.h2,Pg.h3⟩,h1,h2⟩
theorem AN(hl:jl≠r.ce)(hd:jd≠r.ce)(T:BH G r sz cap (some (h,st)))(L:LS h st lots)(l1:G.lst jl=(List.range h.n).map fun k=> .ref 108 (some (h.ov k)))(l2:G.lst jd=(List.range h.n).map fun k=>bH (lots k))(n1:jl<G.nl)(n2:jd<G.nl)(hs:sz<=100)(hK:800<=K)
  (g:∀G',FB r (some h) G G'->BH G' r sz cap (some (h,st))->k (.bool true) G'):aD P K G 63 [.ref 155 (some r.bu), .list jl, .list jd] k:=by
 have n4:h.n<=4:=(T.h _ rfl).1.n4
 have s0:=T.b.MR.2
 have S0:Sv G G (fun _=>none) (fun x=>([154,157,167].zip [V.ref 155 (some r.bu), .list jl, .list jd]).lookup x) r h st sz cap jl jd lots:=⟨rfl,rfl,rfl,FB.refl T.b.raw,T,l1,l2,n1,n2⟩
 have rg:∀{ρ:au},ρ 157=some (.list jl)->(pv 12).ev ρ G (.blt .range [.blt .len [.var 157]])=some (.range h.n):=fun {ρ} q=>lK (ah (dz (aH q) (by rw[l1,ai,aM])) rfl) (dA (by lia) (by lia))
 refine av hK rfl JK rfl (j9 hK rfl T.b.raw (rg rfl) ?_)
 have itm:∀{m:Nat} {j:Nat} {H:Mine.H},itemAt H (.range (m:Int)) j=some ((List.range m).map fun(i:Nat)=>V.int (i:Int))[j]?:=fun {m j H}=>by
  show some (if(j:Int)<m then some (V.int j) else none)=_
  rw[bO]
  by_cases q:j<m
  ·rw[if_pos (by lia),List.getElem?_range q];rfl
  ·rw[if_neg (by lia),List.getElem?_eq_none (by rw[aM];lia)];rfl
 have wi:∀{m j:Nat} {w:V},((List.range m).map fun(i:Nat)=>V.int (i:Int))[j]?=some w->j<m/\w= .int j:=fun {m j w} hw=>by
  obtain⟨hlt,hget⟩:=List.getElem?_eq_some_iff.mp hw
  rw[ai,aM] at hlt
  exact⟨hlt,by rw[←hget,List.getElem_map,List.getElem_range]⟩
 refine kD (B:=600) (ws:=(List.range h.n).map fun(i:Nat)=>V.int (i:Int)) (I:=fun j ρ H=>Sv G H (fun _=>none) ρ r h st sz cap jl jd lots) (fun j ρ H _=>itm) (fun j w ρ H K hw hI hK nx hnx=>?_) (fun ρ H hI=>?_) h.n 0 _ G _ (by rw[ai,aM];rfl) S0 (af (by lia) (ac (n:=620) hK rfl))
 ·obtain⟨hlt,rfl⟩:=wi hw
  have S:Sv G H (fun _=>none) (upd ρ 148 (.int j)) r h st sz cap jl jd lots:=⟨hI.r1,hI.r2,hI.r3,hI.f,hI.b,hI.l,hI.d,hI.n1,hI.n2⟩
  exact Er hl hd S L hlt rfl (af (by decide) hK) fun G' S'=>hnx _ _ S'
 ·obtain⟨N,hN⟩:∃N:Nat,(N:Int)=sz+1:=⟨(sz+1).toNat,by lia⟩
  have S1:Sv G H (fun _=>none) ρ r h st sz cap jl jd lots:=hI
  show aC P _ ρ H (.for (.var 133) _ _::_) _
  refine eW hK rfl (j6 hK rfl (aA hK rfl (ig hK rfl (bM hK rfl S1.b.b.raw (aH S1.r1) Aq rfl (ut S1.b.b (ac hK rfl) (aq hK rfl S1.b.b.raw (v:= .int 1) rfl (cj (a:= .int (sz+1)) (b:=H) rfl (bz hK rfl (cj (a:= .range (sz+1)) (b:=H) (vF (dA (by lia) (by lia))) ?_)))))))))
  rw[←hN]
  refine kD (B:=620) (ws:=(List.range N).map fun(i:Nat)=>V.int (i:Int)) (I:=fun j ρ H=>Sv G H (fun _=>none) ρ r h st sz cap jl jd lots) (fun j ρ H _=>itm) (fun j w ρ H K hw hI hK nx hnx=>?_) (fun ρ H hI=>bg hK rfl hI.b.b.raw rfl (g H hI.f hI.b)) N 0 _ H _ (by rw[ai,aM];rfl) S1 (af (by lia) (ac (n:=740) hK rfl))
  obtain⟨hlt,rfl⟩:=wi hw
  have S:Sv G H (fun _=>none) (upd ρ 133 (.int j)) r h st sz cap jl jd lots:=⟨hI.r1,hI.r2,hI.r3,hI.f,hI.b,hI.l,hI.d,hI.n1,hI.n2⟩
  exact ui hl hd S L rfl (af (by decide) hK) fun ρ' G' _ S'=>hnx _ _ S'
end
theorem KW:P.fn 60=some I5:=by kernel_rfl
theorem EN:P.init 152=some 1002:=by kernel_rfl
theorem HH:P.init 153=some 1023:=by kernel_rfl
theorem Iw:P.init 155=some 1020:=by kernel_rfl
theorem FC:P.init 156=some 1005:=by kernel_rfl
structure Rb(G G':H)(r:BR):Prop where
 bu:G.ni<=r.bu/\r.bu<G'.ni
 tx:G.ni<=r.tx/\r.tx<G'.ni
 mr:G.ni<=r.mr/\r.mr<G'.ni
 md:G.nd<=r.md/\r.md<G'.nd
 li:G.nl<=r.li/\r.li<G'.nl
 ce:G.nl<=r.ce/\r.ce<G'.nl
structure Rg(G G':H)(r:BR)(h:HR):Prop extends Rb G G' r where
 bd:Bd G' h
 lo:Lo G h
section
variable{G G' G0 G1:H}{r:BR}{h:HR}{st:eQ}{ho:Option Nat}{cap K jn j n m:Nat}{k:V->H->Prop}{sz:Int}
theorem Rb.on(R:Rb G0 G r)(w:Nw G G'):Rb G0 G' r:=⟨⟨R.bu.1,ae R.bu.2 w.ni⟩,⟨R.tx.1,ae R.tx.2 w.ni⟩,⟨R.mr.1,ae R.mr.2 w.ni⟩,⟨R.md.1,ae R.md.2 w.nd⟩,⟨R.li.1,ae R.li.2 w.nl⟩,⟨R.ce.1,ae R.ce.2 w.nl⟩⟩
theorem Rb.fb{o:Option HR}(R:Rb G0 G r)(F:FB r o G G'):Rb G0 G' r:=⟨F.ni▸R.bu,F.ni▸R.tx,F.ni▸R.mr,F.nd▸R.md,⟨R.li.1,ae R.li.2 F.nl⟩,⟨R.ce.1,ae R.ce.2 F.nl⟩⟩
theorem Bf.nw(T:Bf G r sz cap ho)(w:Nw G G')(hr:G'.raw=[])(R:Rb G0 G r):Bf G' r sz cap ho:=by
 obtain⟨gs,ge,n,P,e1,e2⟩:=T.gp
 have h1:=R.bu.2
 have h2:=R.tx.2
 have h3:=R.mr.2
 have h4:=R.md.2
 exact⟨hr,(w.N _ _ _ h1).trans T.tx,(w.N _ _ _ h1).trans T.mr,(w.N _ _ _ h3).trans T.md,by rw[w.dct _ h4];exact T.dm,(w.N _ _ _ h1).trans T.li,(w.lst _ T.lt).trans T.ll,ae T.lt w.nl,T.lc,(w.I _ _ _ h1).trans T.beg,(w.I _ _ _ h1).trans T.zv,(w.B _ _ _ h1).trans T.ro,(w.F _ _ _ h1).trans T.un,(w.F _ _ _ h1).trans T.pr,(w.Q _ _ _ h1).trans T.ov,
  gs,ge,n,⟨hr,(w.N _ _ _ h2).trans P.fce,(w.I _ _ _ h2).trans P.fgs,(w.I _ _ _ h2).trans P.fge,(w.I _ _ _ h2).trans P.frm,by rw[w.lst _ P.lt];exact P.len,ae P.lt w.nl,P.h0,P.h1,P.h2,P.h3⟩,e1,e2⟩
theorem BH.nw(T:BH G r sz cap (some (h,st)))(w:Nw G G')(hr:G'.raw=[])(R:Rg G0 G r h):BH G' r sz cap (some (h,st)):=
 ⟨T.b.nw w hr R.toRb,fun p e=>by obtain rfl:=ag e;exact⟨(T.h _ rfl).1.nw R.bd w,(T.h _ rfl).2⟩⟩
theorem Gk{o:OO}{x:Int}(T:BH G r sz cap o)(hx:G.I 132 155 r.bu=x)(h1:1<=x)(h2:x<=sz+1)(hj:jn<G.nl)(hne:jn≠r.ce)(hm:(G.lst jn).length=m)(hm0:0<m)(hw:m<=100)(hc:cap<=3900)(hK:1040<=K)
  (g:∀u G',FB r (o.map (·.1)) G G'->BH G' r (sz+m) (cap+m+8) (EY (x - 1) m false o)->k u G'):aD P K G 55 [.ref 155 (some r.bu), .list jn] k:=
 av hK rfl Kh rfl (s_call hK rfl T.b.raw (vs:=[.ref 155 (some r.bu), .int x, .list jn, .bool false, .bool true]) (by
  show some [V.ref 155 (some r.bu), .int (G.I 132 155 r.bu), .list jn, .bool false, .bool true]=_
  rw[hx]) (pf T h1 h2 hj hne hm hm0 hw hc (ac hK rfl) fun u G1 F1 T1=>az hK rfl (g _ G1 F1 T1)))
theorem Nw.fb(w:Nw G0 G)(F:FB r none G G')(R:Rb G0 G r):Nw G0 G':=
 ⟨fun a c i hi=>(F.I _ _ _ (fun q=>absurd q.2 (aj (ae hi R.bu.1))) (fun q=>absurd q.2 (aj (ae hi R.tx.1))) fun _ q=>aS q).trans (w.I a c i hi),fun a c i hi=>(F.B _ _ _ fun _ q=>aS q).trans (w.B a c i hi),fun a c i hi=>(F.Q _ _ _ fun _ q=>aS q).trans (w.Q a c i hi),fun a c i hi=>by rw[F.N];exact w.N a c i hi,fun a c i hi=>by exact F.F▸w.F a c i hi,
  fun j hj=>(F.lst j (ae hj w.nl) (aj (ae hj R.ce.1))).trans (w.lst j hj),fun d hd=>(F.dct d fun _ q=>aS q).trans (w.dct d hd),by rw[F.ni];exact w.ni,af w.nl F.nl,by rw[F.nd];exact w.nd⟩
end
section
variable{K d B:Nat}{h:H}{ρ:au}{e:Mine.E}{es:List Mine.E}{kv:V->H->Prop}{j m:Nat}
theorem l7(hK:B<=K)(hd:Nat.ble (d+31) B=true)(hr:h.raw=[])(p:(pv 12).ev ρ h e=some (.list j))(q:nZ (.list j) m=true)(g:cp P (K - (d+2)) ρ h es fun vs h=>fg (vg h (.list j) m vs) kv):aN P (K - d) ρ h (.meth e m es) kv:=by
 rw[bc hK hd,jy]
 refine(a7 hr 12).ev (aI (eh hK hd)) p ?_
 rw[bF hK hd,E8,q,bx];exact g
end
section
variable{G G1:H}{r:BR}{h:HR}{st:eQ}{K jn j n:Nat}{k:V->H->Prop}{lot:Nat->fY}{xs:List V}
theorem Nw.gk{a:Nat}(w:Nw G G1)(ha:G.nl<=a):Nw G (G1.ax a xs):=⟨w.I,w.B,w.Q,w.N,w.F,fun j hj=>(a8 (aj (ae hj ha))).trans (w.lst j hj),w.dct,w.ni,w.nl,w.nd⟩
theorem Nw.both{a c i:Nat}{x:Option Nat}(w:Nw G G1):Nw (G.sQ a c i x) (G1.sQ a c i x):=⟨w.I,w.B,fun a' c' i' hi=>by
  show iH G1.Q a c i x a' c' i'=iH G.Q a c i x a' c' i'
  unfold iH
  rw[w.Q a' c' i' hi],w.N,w.F,w.lst,w.dct,w.ni,w.nl,w.nd⟩
theorem Hm.gk{a:Nat}(M:Hm G h st)(hr:G.raw=[])(ha:∀k,k<h.n->h.pl k≠a):Hm (G.ax a xs) h st:=by
 obtain⟨L,B,E,T,hm,hv⟩:=M.t
 exact⟨M.n4,M.tr,M.od,M.rl,⟨M.ru.nil,M.ru.ev,M.ru.cat⟩,M.ndI,M.ovI,⟨L,B,E,T.lists rfl rfl rfl,hm,hv⟩,M.on,M.oi,M.oh,M.op,fun k hk=>⟨(M.pl k hk).1,(a8 (ha k hk)).trans (M.pl k hk).2⟩,M.ni,M.nf,M.nr,M.d1,M.d2,M.d3⟩
theorem AX{tr:Nat}{B E:Nat->Int}(q:G.Q 79 180 tr=none):Tr G tr [] B E:=
 have z:∀{s:Nat} {p:Prop},s<0->p:=fun h=>absurd h (Nat.not_lt_zero _)
 ⟨List.nodup_nil,(0,none,[],[],[]),fun _=>0,fun _=>0,fun _=>0,rfl,⟨bN,q,fun _ h=>z h,fun _ h=>z h,fun _ h=>z h,fun _ h=>z h,fun _ h=>z h,fun _ h=>z h,fun _ h=>z h,fun _ h=>z h,fun _ _ h=>z h,fun _ _ h=>z h,fun _ _ h=>z h,fun _ h=>z h,fun _ _ _ h=>z h⟩,fun i=>⟨fun h=>(nomatch h),fun⟨_,h,_⟩=>z h⟩⟩
structure Lx(Gh H:H)(h0:HR)(jl:Nat)(lot:Nat->fY)(h:HR)(st:eQ):Prop where
 X:Hb Gh H h st
 ln:jl<H.nl
 hm:h.hm=h0.hm
 ru:h.ru=h0.ru
 l:H.lst jl=(List.range h.n).map fun k=> .ref 108 (some (h.ov k))
 lp:∀k,k<h.n->jl<h.pl k
 sv:∀k,k<h.n->st k=some ((lot k).lo,(lot k).hi)/\h.f k=(lot k).f/\h.r k=(lot k).r
abbrev Ly(Gh H:H)(h0:HR)(jl:Nat)(lot:Nat->fY)(j:Nat):Prop:=∃h st,Lx Gh H h0 jl lot h st/\h.n=j/\∀k,k<j->h.s k=(lot k).s
theorem Hb.gk{a:Nat}(X:Hb G G1 h st)(ha:∀k,k<h.n->h.pl k≠a)(hl:G.nl<=a):Hb G (G1.ax a xs) h st:=⟨X.raw,X.M.gk X.raw ha,⟨X.D.hm,X.D.tr,X.D.ru,X.D.od,X.D.nd,X.D.ov⟩,X.L,X.w.gk hl⟩
theorem zf{v:V}{a:Nat}(h:(G.lst a).length<100):vg G (.list a) 0 [v]=some (.none,G.ax a (G.lst a++[v])):=if_pos ⟨rfl,Nat.lt_trans h (by decide)⟩
theorem ph{α:Type}(g:α->V){f:Nat->α}{v:α}{j:Nat}:((List.range j).map fun k=>g (f k))++[g v]=(List.range (j+1)).map fun k=>g (up1 f j v k):=by
 rw[List.range_succ,List.map_append]
 exact congr (congrArg _ (List.map_congr_left fun k hk=>congrArg g (aB (aj (List.mem_range.mp hk))).symm)) (congrArg (fun x=>[g x]) ay.symm)
section
variable{Gh H:Mine.H}{ρ:au}{h0:HR}{jl:Nat}{kf:Fl->au->Mine.H->Prop}
theorem Lx.app{H1:Mine.H}{x y z:Nat}(Y:Lx Gh H h0 jl lot h st)(hjl:Gh.nl<=jl)(X:Hb Gh H1 (h.add x y z (lot h.n).f (lot h.n).r) (tj st h.n (some ((lot h.n).lo,(lot h.n).hi))))(K:Kl H H1)(hz:jl<z):Lx Gh (H1.ax jl (H1.lst jl++[.ref 108 (some x)])) h0 jl lot (h.add x y z (lot h.n).f (lot h.n).r) (tj st h.n (some ((lot h.n).lo,(lot h.n).hi))):=
 have lp:=Ew (jl< ·) Y.lp hz
 ⟨X.gk (fun k hk=>Nat.ne_of_gt (lp k hk)) hjl,ae Y.ln K.nl,Y.hm,Y.ru,aW.trans ((congrArg (· ++_) ((K.lst _ Y.ln).trans Y.l)).trans (ph fun x=>V.ref 108 (some x))),lp,
  sp (fun k c=>⟨(if_neg (aj c)).trans (Y.sv k c).1,(aB (aj c)).trans (Y.sv k c).2.1,(aB (aj c)).trans (Y.sv k c).2.2⟩) ⟨if_pos rfl,ay,ay⟩⟩
theorem vZ{x j:Nat}{f:Nat->Nat}(l:H.lst jl=(List.range (j+1)).map fun k=> .ref 108 (some (f k))):eO H (.list jl) (.int (-1))=some (.ref 108 (some (f j))):=by
 show(pP (H.lst jl).length (-1)).bind (fun k=>(H.lst jl)[k]?)=_
 unfold pP
 rw[l,ai,aM,if_neg (by decide),if_pos (by lia)]
 show _[(-1+((j+1:Nat):Int)).toNat]?=_
 rw[show(-1+((j+1:Nat):Int)).toNat=j by lia,bO,List.getElem?_range (aE _)];rfl
theorem yO(Y:Lx Gh H h0 jl lot h st)(hn:h.n=j+1)(hs:∀k,k<j->h.s k=(lot k).s)(sf:h.s j=false)(hlt:(lot j).lo<(lot j).hi)
  (r151:ρ 151=some (.ref 152 (some h0.ru)))(r157:ρ 157=some (.list jl))(r160:ρ 160=some (.bool (lot j).s))(hK:700<=K)(g:∀H',Ly Gh H' h0 jl lot (j+1)->kf .next ρ H'):
  aC P K ρ H [.ite (.var 160) [.expr (.call 40 [.var 151, .sub (.var 157) (.neg (.int 1)), .attr (.var 151) 110, .bool true])] []] kf:=by
 refine aw (d:=0) hK rfl Y.X.raw (aH r160) ?_
 have jn:j<h.n:=hn▸aE j
 rcases e:(lot j).s with _|_
 ·exact s_end hK rfl (az hK rfl (g H ⟨h,st,Y,hn,sp hs (sf.trans e.symm)⟩))
 ·refine s_call hK rfl Y.X.raw ?_ (Dz Y.X jn sf (Y.sv _ jn).1 (Int.ne_of_lt hlt) (ac hK rfl) fun u H3 X y=>s_end hK rfl (az hK rfl (g H3 ⟨h.J5 j (H.nl+1),st,⟨X,ae Y.ln y.nl,Y.hm,Y.ru,(y.lst _ Y.ln).trans Y.l,fun k hk=>IT (fun k x=>k<h.n->jl<x) (fun k _=>Y.lp k) (fun _=>aY Y.ln) k hk,Y.sv⟩,hn,fun k hk=>IT (fun k x=>k<j+1->x=(lot k).s) (fun k q c=>hs k (Nat.lt_of_le_of_ne (bD c) q)) (fun _=>e.symm) k hk⟩)))
  exact ah (aH (Y.ru▸r151)) (ah (dL (aH r157) rfl (vZ (x:=0) (hn▸Y.l))) (ah (a9 (aH r151) (Y.ru▸congrArg (fun x=>some (V.int x)) Y.X.M.ru.ev)) rfl))
theorem wm(Y:Ly Gh H h0 jl lot j)(hj:j<=3)(hlt:(lot j).lo<(lot j).hi)(hjl:Gh.nl<=jl)(hq:fU H (.ref 155 (some r.bu)) 107=some (.ref 156 (some h0.hm)))
  (r154:ρ 154=some (.ref 155 (some r.bu)))(r151:ρ 151=some (.ref 152 (some h0.ru)))(r157:ρ 157=some (.list jl))(r119:ρ 119=some (.int (lot j).lo))(r120:ρ 120=some (.int (lot j).hi))(r158:ρ 158=some (.bool (lot j).f))(r159:ρ 159=some (.bool (lot j).r))(r160:ρ 160=some (.bool (lot j).s))(hK:720<=K)
  (g:∀H',Ly Gh H' h0 jl lot (j+1)->kf .next ρ H'):
  aC P K ρ H [.expr (.meth (.var 157) 0 [.call 37 [.attr (.var 154) 107, .blt .len [.var 157], .var 119, .var 120, .var 158, .var 159]]), .ite (.var 160) [.expr (.call 40 [.var 151, .sub (.var 157) (.neg (.int 1)), .attr (.var 151) 110, .bool true])] []] kf:=by
 obtain⟨h,st,Y,rfl,hs⟩:=Y
 have ll:(H.lst jl).length=h.n:=by rw[Y.l,ai,aM]
 refine bE (d:=0) hK rfl (l7 hK rfl Y.X.raw (aH r157) rfl (aA hK rfl (aV hK rfl Y.X.raw (vs:=[.ref 156 (some h.hm), .int h.n, .int (lot h.n).lo, .int (lot h.n).hi, .bool (lot h.n).f, .bool (lot h.n).r]) ?_ (Ci Y.X hj (ba hlt) (ac hK rfl) fun H1 X1 y=>?_))))
 ·exact ah (a9 (aH r154) (Y.hm▸hq)) (ah (dz (aH r157) (congrArg Nat.cast ll)) (ah (aH r119) (ah (aH r120) (ah (aH r158) (ah (aH r159) rfl)))))
 refine bz hK rfl (cj (zf (y.lst _ Y.ln▸ll.symm▸Nat.lt_of_le_of_lt hj (by decide))) (yO (Y.app hjl X1 y Y.ln) rfl (fun k hk=>(aB (aj hk)).trans (hs k hk)) ay hlt r151 r157 r160 (ac hK rfl) g))
end
end
section
variable{G G' G1:H}{r:BR}{h:HR}{st:eQ}{ho:Option Nat}{cap K jn jd jl j n m:Nat}{k:V->H->Prop}{sz:Int}{lot:Nat->fY}{xs:List V}
theorem Bf.Km(T:Bf G r sz cap ho){x:Option Nat}:Bf (G.sQ 107 155 r.bu x) r sz cap x:=by
 obtain⟨gs,ge,n,P,e1,e2⟩:=T.gp
 exact⟨Ey T.raw,T.tx,T.mr,T.md,T.dm,T.li,T.ll,T.lt,T.lc,T.beg,T.zv,T.ro,T.un,T.pr,wH,gs,ge,n,⟨Ey P.raw,P.fce,P.fgs,P.fge,P.frm,P.len,P.lt,P.h0,P.h1,P.h2,P.h3⟩,e1,e2⟩
theorem CU{i x:Nat}:pH P G (.ref 155 (some i)) 107 (.ref 156 (some x))=some (G.sQ 107 155 i (some x)):=rfl
noncomputable def HR.nil(hm tr od ru:Nat):HR:=⟨hm,tr,od,ru,0,fun _=>0,fun _=>0,fun _=>0,fun _=>false,fun _=>false,fun _=>false⟩
theorem AS{hm tr od ru:Nat}(q1:G.N 77 156 hm=tr)(q2:G.N 107 156 hm=od)(q3:G.N 99 156 hm=ru)(R:Ru G ru)(q4:G.Q 79 180 tr=none)(q5:G.dct od=(fun _=>none,true)):Hm G (HR.nil hm tr od ru) fun _=>none:=
 have z:∀{k} {p:Prop},k<0->p:=fun h=>absurd h (Nat.not_lt_zero _)
 ⟨Nat.zero_le _,q1,q2,q3,R,fun _ _ h=>z h,fun _ _ h=>z h,⟨[],fun _=>0,fun _=>0,AX q4,fun i=>⟨fun h=>(nomatch h),fun⟨_,h,_⟩=>z h⟩,fun _ h=>z h⟩,fun _ h=>z h,fun _ h=>z h,fun _ h=>z h,fun _ h=>z h,fun _ h=>z h,fun _ h=>z h,fun _ h=>z h,fun _ h=>z h,fun _ h=>z h,fun j _=>by
  show(G.dct od).1 j=none
  rw[q5], .inl rfl⟩
structure Lb(G H:H)(r:BR)(h:HR)(st:eQ)(jl m n:Nat)(lot:Nat->fY):Prop where
 w:Nw G H
 B:BH H r m (m+16) (some (h,st))
 L:LS h st fun k=>some (lot k)
 q:h.n=n
 l:H.lst jl=(List.range n).map fun k=> .ref 108 (some (h.ov k))
 j:G.nl<=jl
 i:jl<H.nl
 c:jl≠r.ce
 R:Rg G H r h
theorem Gd{xs:List Nat}{w:V}{ρ:au}{ka:au->H->Prop}{B:Nat}(hK:B+1<=K)(g:on (G.seq w) fun vs=>on (cw ρ xs vs) fun ρ=>ka ρ G):bZ P K ρ G (.tup xs) w ka:=EA (p:=fun K=>bZ P K ρ G (.tup xs) w ka) hK fun _ _=>g
section
variable{Gh H:H}{h0:HR}(wh:Nw G Gh)(R:Rb G Gh r)(B:Bf Gh r m (m+16) (some h0.hm))(hjl:Gh.nl<=jl)(hlot:∀k,k<n->(lot k).lo<(lot k).hi)
include wh R B hjl hlot
theorem Ch(Y:Lx Gh H h0 jl lot h st)(hn:h.n=n)(hs:∀k,k<n->h.s k=(lot k).s):Lb G H r h st jl m n lot:=by
 subst hn
 refine⟨wh.trans Y.X.w,⟨by show Bf H r m (m+16) (some h.hm);rw[Y.hm];exact B.nw Y.X.w Y.X.raw R,fun p e=>ag e▸⟨Y.X.M,fun k hk=>Nat.ne_of_gt (ae R.ce.2 (Y.X.L.pl k hk)),aj (ae R.md.2 Y.X.L.od)⟩⟩,⟨fun k hk=>(Y.sv k hk).1,fun k hk l e=>?_⟩,rfl,Y.l,af wh.nl hjl,Y.ln,Nat.ne_of_gt (ae R.ce.2 hjl),
  R.on Y.X.w,Y.X.D,⟨af wh.ni Y.X.L.tr,af wh.nd Y.X.L.od,fun k hk=>af wh.ni (Y.X.L.nd k hk),fun k hk=>af wh.ni (Y.X.L.ov k hk),fun k hk=>af wh.nl (Y.X.L.pl k hk)⟩⟩
 rw[←ag e]
 exact⟨⟨ba (hlot k hk),fun _=>hlot k hk⟩,(Y.sv k hk).2.1.symm,(Y.sv k hk).2.2.symm,(hs k hk).symm⟩
theorem wa{ρ:au}{kf:Fl->au->Mine.H->Prop}(hq:Gh.Q 107 155 r.bu=some h0.hm)(hjd:jd<G.nl)(hl:G.lst jd=(List.range n).map fun k=>bH (some (lot k)))(hn:n<=4)(Y0:Ly Gh H h0 jl lot 0)
  (p0:ρ 150=some (.list jd))(p1:ρ 154=some (.ref 155 (some r.bu)))(p2:ρ 151=some (.ref 152 (some h0.ru)))(p3:ρ 157=some (.list jl))(hK:1000<=K)
  (g:∀ρ H h st,Lb G H r h st jl m n lot->kf (.ret (.tup [.ref 155 (some r.bu), .list jl])) ρ H):aC P K ρ H (I5.body.drop 5) kf:=by
 have ln:((List.range n).map fun k=>bH (some (lot k))).length=n:=by rw[ai,aM]
 have w:∀{H j},Ly Gh H h0 jl lot j->H.raw=[]/\Nw Gh H:=fun Y=>Y.elim fun _ Y=>Y.elim fun _ Y=>⟨Y.1.X.raw,Y.1.X.w⟩
 refine eW (d:=0) hK rfl (aq hK rfl (w Y0).1 (aH (n:=11) p0) (to (ws:=(List.range n).map fun k=>bH (some (lot k))) (I:=fun j ρ H=>Ly Gh H h0 jl lot j/\ρ 154=some (.ref 155 (some r.bu))/\ρ 151=some (.ref 152 (some h0.ru))/\ρ 157=some (.list jl)) (fun j ρ H I=>?_) (fun j w' ρ H K hw I hK nx hnx=>?_) (fun ρ H I=>?_) n 0 _ _ _ ln.symm ⟨Y0,p1,p2,p3⟩ (af (Nat.add_le_add_right (Nat.add_le_add_left hn 760) 2) (ac hK rfl))))
 ·show some (H.lst jd)[j]?=_
  rw[(w I.1).2.lst _ (ae hjd wh.nl),wh.lst _ hjd,hl]
 ·have hj:j<n:=ln▸(List.getElem?_eq_some_iff.mp hw).1
  rw[bO,List.getElem?_range hj] at hw
  rw[←ag hw]
  refine Gd hK (bS rfl (bS rfl (wm I.1 (bD (ae hj hn)) (hlot j hj) hjl ?_ I.2.1 I.2.2.1 I.2.2.2 rfl rfl rfl rfl rfl (af (by decide) hK) fun H' Y'=>hnx _ _ ⟨Y',I.2⟩)))
  exact congrArg (fun q=>some (V.ref 156 q)) (((w I.1).2.Q _ _ _ R.bu.2).trans hq)
 ·rw[ln] at I
  obtain⟨h,st,Y,hn,hs⟩:=I.1
  exact bg hK rfl Y.X.raw (lg (n:=11) (ah (n:=10) (aH (n:=9) I.2.1) (ah (n:=9) (aH (n:=8) I.2.2.2) rfl))) (g _ _ _ _ (Ch wh R B hjl hlot Y hn hs))
end
theorem yE{ru:Nat}{ρ:au}{kf:Fl->au->H->Prop}(w:Nw G G1)(R:Rb G G1 r)(B:Bf G1 r m (m+16) none)(hru:ru<G1.ni)(Ru1:Ru G1 ru)(hlot:∀k,k<n->(lot k).lo<(lot k).hi)(hjd:jd<G.nl)(hl:G.lst jd=(List.range n).map fun k=>bH (some (lot k)))(hn:n<=4)
  (p0:ρ 150=some (.list jd))(p1:ρ 154=some (.ref 155 (some r.bu)))(p2:ρ 151=some (.ref 152 (some ru)))(hK:1010<=K)
  (g:∀ρ H h st jl,Lb G H r h st jl m n lot->kf (.ret (.tup [.ref 155 (some r.bu), .list jl])) ρ H):aC P K ρ G1 (I5.body.drop 3) kf:=by
 refine je (d:=0) hK rfl (e_new hK rfl (aA hK rfl (aq hK rfl B.raw (aH (n:=11) p2) (bz hK rfl (bS FC (Dw B.raw (ac hK rfl) fun G5 w5 r5 i5 l5 d5 q1 q2 q3 q4 q5=>sy hK rfl r5 (aH (n:=11) p1) CU ?_))))))
 have z:∀{k} {p:Prop},k<0->p:=fun h=>absurd h (Nat.not_lt_zero _)
 have li:∀{x},x<G1.ni+2->x<G5.ni:=fun h=>i5▸h
 refine bm hK rfl (hH hK rfl (Ey r5) rfl (wa (Gh:=G1.sQ 107 155 r.bu (some G1.ni)) (h0:=HR.nil G1.ni (G1.ni+1) G1.nd ru) (w.sQ R.bu.1) ⟨R.bu,R.tx,R.mr,R.md,R.li,R.ce⟩ B.Km (Nat.le_of_eq l5.symm) hlot wH hjd hl hn ⟨_,fun _=>none,⟨⟨Ey (x:=some G1.ni) r5,?_,⟨li (Nat.lt_add_of_pos_right (by decide)),li (aE _),li (Nat.lt_add_right 2 hru),by exact d5▸aE _,fun _ h=>z h,fun _ h=>z h⟩,⟨Nat.le_succ _,ab _,fun _ h=>z h,fun _ h=>z h,fun _ h=>z h⟩,w5.both.newL⟩,aE _,rfl,rfl,a6,fun _ h=>z h,fun _ h=>z h⟩,rfl,fun _ h=>z h⟩ p0 p1 p2 rfl (ac hK rfl) fun _ _ _ _=>g _ _ _ _ _))
 exact AS q1 q2 q3 ⟨(w5.F _ _ _ hru).trans Ru1.nil,(w5.I _ _ _ hru).trans Ru1.ev,(w5.I _ _ _ hru).trans Ru1.cat⟩ (((gO (by decide):(G5.sQ 107 155 r.bu (some G1.ni)).Q 79 180 (G1.ni+1)=_)).trans q4) q5
theorem mL(hr:G.raw=[])(hjn:jn<G.nl)(hm:(G.lst jn).length=m)(hm0:0<m)(hw:m<=100)(hjd:jd<G.nl)(hl:G.lst jd=(List.range n).map fun k=>bH (some (lot k)))(hn:n<=4)(hlot:∀k,k<n->(lot k).lo<(lot k).hi)(hK:1100<=K)
  (g:∀r h st jl G',Lb G G' r h st jl m n lot->k (.tup [.ref 155 (some r.bu), .list jl]) G'):aD P K G 60 [.list jn, .list jd] k:=by
 refine av hK rfl KW rfl (bm hK rfl (e_new hK rfl (aA hK rfl (e_new hK rfl (xm hK rfl (fun _ _=>rfl) (bS HH (DY hr (ac hK rfl) fun G1 w1 r1 i1 l1 d1 f1 z1=>bz hK rfl (bS EN (wO r1 (by rw[i1];exact aE _) f1 z1 (ac hK rfl) fun G2 w2 r2 i2 l2 d2 ru2=>?_)))))))))
 refine bm hK rfl (e_new hK rfl (xm hK rfl (fun _ _=>rfl) (bS Iw (GV r2 (ac hK rfl) fun G3 w3 r3 i3 l3 d3 b3 x3=>?_))))
 have w12:Nw G G2:=w1.trans w2
 have w13:=w12.trans w3
 have lt12:G1.ni<G2.ni:=i2▸aE _
 have nl {x:Nat} (h:x<G2.nl+6):x<G3.nl:=l3▸h
 have ni {x:Nat} (h:x<G2.ni+3):x<G3.ni:=i3▸h
 have R3:Rb G G3 ⟨G2.ni,G2.ni+1,G2.ni+2,G2.nd,G2.nl+5,G2.nl+4⟩:=⟨⟨w12.ni,ni (Nat.lt_add_of_pos_right (by decide))⟩,⟨aL w12.ni,ni (aY (aE _))⟩,⟨Nat.le_add_right_of_le w12.ni,ni (aE _)⟩,⟨w12.nd,d3▸aE _⟩,⟨Nat.le_add_right_of_le w12.nl,nl (aE _)⟩,⟨Nat.le_add_right_of_le w12.nl,nl (aY (aE _))⟩⟩
 have Ru3:Ru G3 G1.ni:=⟨(w3.F _ _ _ lt12).trans ru2.nil,(w3.I _ _ _ lt12).trans ru2.ev,(w3.I _ _ _ lt12).trans ru2.cat⟩
 have B3:BH G3 ⟨G2.ni,G2.ni+1,G2.ni+2,G2.nd,G2.nl+5,G2.nl+4⟩ 0 8 none:=⟨b3,fun _ q=>aS q⟩
 refine s_call hK rfl r3 rfl (Gk B3 x3 (by decide) (by decide) (ae hjn w13.nl) (aj (ae hjn R3.ce.1)) ((congrArg _ (w13.lst _ hjn)).trans hm) hm0 hw (by decide) (ac hK rfl) fun u G4 F4 B4=>?_)
 have f4:∀a,G4.I a 152 G1.ni=G3.I a 152 G1.ni:=fun a=>F4.I a 152 G1.ni (fun q=>absurd q.1 (by decide)) (fun q=>absurd q.1 (by decide)) fun _ q=>aS q
 have e4:(0:Int)+m=m:=Int.zero_add _
 have c4:8+m+8=m+16:=by rw[Nat.add_comm 8 m]
 exact yE (w13.fb F4 R3) (R3.fb F4) (c4▸e4▸B4.b) (F4.ni▸ni (Nat.lt_trans lt12 (Nat.lt_add_of_pos_right (by decide)))) ⟨F4.F▸Ru3.nil,(f4 _).trans Ru3.ev,(f4 _).trans Ru3.cat⟩ hlot hjd hl hn rfl rfl rfl (ac hK rfl) fun _ _ _ _ _ L=>g _ _ _ _ _ L
end
structure Sep(r:BR)(h:HR)(r':BR)(h':HR):Prop where
 bu:r.bu≠r'.bu
 tx:r.tx≠r'.tx
 ce:r.ce≠r'.ce
 li:r.li≠r'.ce
 pl:∀k,k<h.n->h.pl k≠r'.ce
 md:r.md≠h'.od
 od:h.od≠h'.od
 tr:h.tr≠h'.tr
 nd:∀k,k<h.n->∀k',k'<h'.n->h'.nd k'≠h.nd k
 ov:∀k,k<h.n->∀k',k'<h'.n->h'.ov k'≠h.ov k
section
variable{G G':H}{r r':BR}{h h':HR}{st:eQ}{cap n:Nat}{sz:Int}{L:List Nat}{tr:Nat}{B E:Nat->Int}
structure Fo(h:HR)(r':BR)(G G':H):Prop where
 I:∀a c i,c≠155->c≠192->c≠179->c≠180->G'.I a c i=G.I a c i
 I1:∀a i,i≠r'.bu->G'.I a 155 i=G.I a 155 i
 I2:∀a i,i≠r'.tx->G'.I a 192 i=G.I a 192 i
 I3:∀a k,k<h.n->G'.I a 179 (h.nd k)=G.I a 179 (h.nd k)
 B:∀a c i,c≠179->c≠180->G'.B a c i=G.B a c i
 B3:∀a k,k<h.n->G'.B a 179 (h.nd k)=G.B a 179 (h.nd k)
 Q1:∀a i,G'.Q a 155 i=G.Q a 155 i
 Q2:∀a,G'.Q a 180 h.tr=G.Q a 180 h.tr
 Q3:∀a k,k<h.n->G'.Q a 179 (h.nd k)=G.Q a 179 (h.nd k)
 Q4:∀a k,k<h.n->G'.Q a 108 (h.ov k)=G.Q a 108 (h.ov k)
theorem FB.fo(F:FB r' (some h') G G')(S:Sep r h r' h'):Fo h r' G G':=
 ⟨fun a c i a1 a2 a3 a4=>F.I a c i (fun q=>a1 q.1) (fun q=>a2 q.1) fun _ _=>⟨fun q=>a3 q.1,fun q=>a4 q.1⟩,
  fun a i hi=>F.I a 155 i (fun q=>hi q.2) (fun q=>absurd q.1 (by decide)) fun _ _=>⟨fun q=>absurd q.1 (by decide),fun q=>absurd q.1 (by decide)⟩,
  fun a i hi=>F.I a 192 i (fun q=>absurd q.1 (by decide)) (fun q=>hi q.2) fun _ _=>⟨fun q=>absurd q.1 (by decide),fun q=>absurd q.1 (by decide)⟩,
  fun a k hk=>F.I a 179 _ (fun q=>absurd q.1 (by decide)) (fun q=>absurd q.1 (by decide)) fun _ e=>⟨fun⟨_,k',h1,h2⟩=>by rcases e with _|_;exact S.nd k hk k' h1 h2,fun q=>absurd q.1 (by decide)⟩,
  fun a c i a3 a4=>F.B a c i fun _ _=>⟨fun q=>a3 q.1,fun q=>a4 q.1⟩,
  fun a k hk=>F.B a 179 _ fun _ e=>⟨fun⟨_,k',h1,h2⟩=>by rcases e with _|_;exact S.nd k hk k' h1 h2,fun q=>absurd q.1 (by decide)⟩,
  fun a i=>F.Q a 155 i fun _ _=>⟨fun q=>absurd q.1 (by decide),fun q=>absurd q.1 (by decide),fun q=>absurd q.1 (by decide)⟩,
  fun a=>F.Q a 180 h.tr fun _ e=>⟨fun q=>absurd q.1 (by decide),fun q=>by obtain rfl:=ag e;exact S.tr q.2,fun q=>absurd q.1 (by decide)⟩,
  fun a k hk=>F.Q a 179 _ fun _ e=>⟨fun⟨_,k',h1,h2⟩=>by rcases e with _|_;exact S.nd k hk k' h1 h2,fun q=>absurd q.1 (by decide),fun q=>absurd q.1 (by decide)⟩,
  fun a k hk=>F.Q a 108 _ fun _ e=>⟨fun q=>absurd q.1 (by decide),fun q=>absurd q.1 (by decide),fun⟨_,k',h1,h2⟩=>by obtain rfl:=ag e;exact S.ov k hk k' h1 h2⟩⟩
theorem Tr.fo(T:Tr G h.tr L B E)(F:Fo h r' G G')(hL:∀i,i∈L->∃k,k<h.n/\h.nd k=i):Tr G' h.tr L B E:=by
 obtain⟨nd,sh,id,Fm,m,hl,T,hm⟩:=T
 have I:∀{s} a,s<sh.1->G'.I a 179 (id s)=G.I a 179 (id s):=fun a hs=>by
  obtain⟨k,hk,q⟩:=hL _ ((hm _).mpr ⟨_,hs,rfl⟩)
  exact q▸F.I3 a k hk
 have Q:∀{s} a,s<sh.1->G'.Q a 179 (id s)=G.Q a 179 (id s):=fun a hs=>by
  obtain⟨k,hk,q⟩:=hL _ ((hm _).mpr ⟨_,hs,rfl⟩)
  exact q▸F.Q3 a k hk
 have Bb:∀{s} a,s<sh.1->G'.B a 179 (id s)=G.B a 179 (id s):=fun a hs=>by
  obtain⟨k,hk,q⟩:=hL _ ((hm _).mpr ⟨_,hs,rfl⟩)
  exact q▸F.B3 a k hk
 exact⟨nd,sh,id,Fm,m,hl,⟨T.mem,(F.Q2 _).trans T.root,fun s h=>(Q _ h).trans (T.L s h),fun s h=>(Q _ h).trans (T.R s h),fun s h=>(Q _ h).trans (T.U s h),fun s h=>(Bb _ h).trans (T.C s h),
  fun s h=>(I _ h).trans (T.fb s h),fun s h=>(I _ h).trans (T.fe s h),fun s h=>(I _ h).trans (T.fm s h),fun s h=>(I _ h).trans (T.fo s h),T.fmm,T.fem,T.inj,T.le,T.ord⟩,hm⟩
theorem BH.fb(T:BH G r sz cap (some (h,st)))(F:FB r' (some h') G G')(S:Sep r h r' h'):BH G' r sz cap (some (h,st)):=by
 have O:=F.fo S
 have D:∀d,d≠h'.od->G'.dct d=G.dct d:=fun d hd=>F.dct d fun _ e=>by obtain rfl:=ag e;exact hd
 refine⟨?_,fun p e=>?_⟩
 ·have T:=T.b
  obtain⟨gs,ge,n,P,e1,e2⟩:=T.gp
  exact⟨F.raw,by rw[F.N];exact T.tx,by rw[F.N];exact T.mr,by rw[F.N];exact T.md,by rw[D _ S.md];exact T.dm,by rw[F.N];exact T.li,(F.lst _ T.lt S.li).trans T.ll,ae T.lt F.nl,T.lc,(O.I1 _ _ S.bu).trans T.beg,(O.I1 _ _ S.bu).trans T.zv,(O.B _ _ _ (by decide) (by decide)).trans T.ro,by rw[F.F];exact T.un,by rw[F.F];exact T.pr,(O.Q1 _ _).trans T.ov,
   gs,ge,n,⟨F.raw,by rw[F.N];exact P.fce,(O.I2 _ _ S.tx).trans P.fgs,(O.I2 _ _ S.tx).trans P.fge,(O.I2 _ _ S.tx).trans P.frm,by rw[F.lst _ P.lt S.ce];exact P.len,ae P.lt F.nl,P.h0,P.h1,P.h2,P.h3⟩,e1,e2⟩
 ·obtain rfl:=ag e
  obtain⟨M,a,b⟩:=T.h _ rfl
  obtain⟨L,B,E,T,hm,hv⟩:=M.t
  refine⟨⟨M.n4,by rw[F.N];exact M.tr,by rw[F.N];exact M.od,by rw[F.N];exact M.rl,⟨by rw[F.F];exact M.ru.nil,(O.I _ _ _ (by decide) (by decide) (by decide) (by decide)).trans M.ru.ev,(O.I _ _ _ (by decide) (by decide) (by decide) (by decide)).trans M.ru.cat⟩,M.ndI,M.ovI,⟨L,B,E,T.fo O fun i hi=>((hm i).mp hi).imp fun k q=>⟨q.1,q.2.2⟩,hm,hv⟩,
   fun k hk=>by rw[F.N];exact M.on k hk,fun k hk=>(O.I _ _ _ (by decide) (by decide) (by decide) (by decide)).trans (M.oi k hk),fun k hk=>(O.Q4 _ k hk).trans (M.oh k hk),fun k hk=>by rw[F.N];exact M.op k hk,fun k hk=>⟨ae (M.pl k hk).1 F.nl,(F.lst _ (M.pl k hk).1 (S.pl k hk)).trans (M.pl k hk).2⟩,
   fun k hk=>(O.I3 _ k hk).trans (M.ni k hk),fun k hk=>(O.B3 _ k hk).trans (M.nf k hk),fun k hk=>(O.B3 _ k hk).trans (M.nr k hk),fun k hk=>by rw[D _ S.od];exact M.d1 k hk,fun j hj=>by rw[D _ S.od];exact M.d2 j hj,by exact(D _ S.od)▸M.d3⟩,a,b⟩
theorem hY{a b c:Nat}(h:a<b)(h':b<=c):a≠c:=aj (ae h h')
theorem Rg.sep{G1 G2:H}(R:Rg G1 G2 r h)(R':Rg G2 G' r' h')(T:BH G2 r sz cap (some (h,st))):Sep r h r' h':=
 ⟨hY R.bu.2 R'.bu.1,hY R.tx.2 R'.tx.1,hY R.ce.2 R'.ce.1,hY R.li.2 R'.ce.1,fun k hk=>hY ((T.h _ rfl).1.pl k hk).1 R'.ce.1,hY R.md.2 R'.lo.od,hY R.bd.od R'.lo.od,hY R.bd.tr R'.lo.tr,fun k hk k' hk'=>(hY (R.bd.nd k hk) (R'.lo.nd k' hk')).symm,fun k hk k' hk'=>(hY (R.bd.ov k hk) (R'.lo.ov k' hk')).symm⟩
theorem Rg.sep'{G1 G2:H}(R:Rg G1 G2 r h)(R':Rg G2 G' r' h'):Sep r' h' r h:=
 ⟨(hY R.bu.2 R'.bu.1).symm,(hY R.tx.2 R'.tx.1).symm,(hY R.ce.2 R'.ce.1).symm,(hY R.ce.2 R'.li.1).symm,fun k hk=>(hY R.ce.2 (R'.lo.pl k hk)).symm,(hY R.bd.od R'.md.1).symm,(hY R.bd.od R'.lo.od).symm,(hY R.bd.tr R'.lo.tr).symm,fun k hk k' hk'=>hY (R.bd.nd k' hk') (R'.lo.nd k hk),fun k hk k' hk'=>hY (R.bd.ov k' hk') (R'.lo.ov k hk)⟩
end
theorem Kn:P.fn 64=some f64:=by kernel_rfl
section
variable{G G':H}{jd jc K M d0 B x:Nat}{d m c:Int}{ρ:au}{e1 e2:Mine.E}{es:List Mine.E}{kv:V->H->Prop}
theorem xQ(hK:B<=K)(hd:Nat.ble (d0+31) B=true)(g:cp P (K - (d0+1)) ρ G es fun vs h=>kv (.list h.nl) (h.newL vs)):aN P (K - d0) ρ G (.list es) kv:=by
 rw[bc hK hd,jD];exact g
theorem iW(hM:100<=M)(D:Dk G jd jc d)(h:d+1<=900)(hm:0<m)(p:ρ 146=some (.list jd))(p1:(pv 12).ev ρ G e1=some (.int c))(p2:(pv 10).ev ρ G e2=some (.int m))
  (g:∀r G',0<=r->r<m->LF jd G G'->Dk G' jd jc (d+1)->G'.nl=G.nl->kv (.int (c+r)) G'):aN P M ρ G (.bop .add e1 (.call 58 [.var 146,e2])) kv:=
 ig (d:=0) hM rfl (aq hM rfl D.raw p1 (aV hM rfl D.raw (ah (n:=11) (aH (n:=10) p) (ah (n:=10) p2 rfl)) (eK D h hm (ac hM rfl) fun r r0 r1=>cj rfl (g r _ r0 r1 LF.refl.cA (D.set h) rfl))))
theorem yZ{ws:List V}{jl j:Nat}(h:G.lst jl=ws):itemAt G (.list jl) j=some ws[j]?:=by
 rw[←h];rfl
theorem Hp{xs:List Int}(h:xs.length<=63):m5 G (.fro (xs.map .int)) .none (.int 63)=some (.list G.nl,G.newL (xs.map .int)):=by
 have hb:cutAt (xs.map V.int).length (.int 63) (xs.map V.int).length=some xs.length:=by
  show(if small 63=true then some _ else none)=_
  rw[if_pos (dA (by decide) (by decide)),if_neg (by decide),ai]
  by_cases q:(63:Int)>(xs.length:Nat)
  ·rw[if_pos q]
  ·rw[if_neg q,show xs.length=63 by lia];rfl
 show(cutAt (xs.map V.int).length .none 0).bind (fun a=>(cutAt (xs.map V.int).length (.int 63) (xs.map V.int).length).bind fun b=>some (V.list G.nl,G.newL (((xs.map V.int).drop a).take (b - a))))=_
 rw[hb]
 show some (V.list G.nl,G.newL (((xs.map V.int).drop 0).take (xs.length - 0)))=_
 rw[List.drop_zero,Nat.sub_zero,List.take_of_length_le (Nat.le_of_eq (ai _))]
theorem CJ{xs:List Int}{kv:V->H->Prop}(hx:xs.length<=63)(hr:G.raw=[])(hK:200<=K)
  (g:∀jd jc G',Dk G' jd jc 0->kv (.list jd) G'):aN P K (fun x=>([170].zip [V.fro (xs.map .int)]).lookup x) G (.list [.comp (.blt .abs [.var 171]) 171 (.slice (.var 170) .none (.int 63)) [], .int 0]) kv:=by
 refine xQ (d0:=0) hK rfl (aA hK rfl (di hK rfl (dD hK rfl hr rfl rfl rfl (Hp hx) ?_)))
 have l0:(G.newL (xs.map .int)).lst G.nl=xs.map .int:=a6
 have r0:(G.newL (xs.map .int)).raw=[]:=hr
 have n0:G.nl<(G.newL (xs.map .int)).nl:=aE _
 generalize G.newL (xs.map .int)=G1 at*
 refine dM (B:=60) (I:=fun j H=>H.raw=[]/\H.lst G.nl=xs.map .int/\G1.nl<H.nl/\∃zs:List Int,zs.length=j/\H.lst G1.nl=zs.map .int) (fun j H hI=>yZ hI.2.1) (fun j w H K hw hI hK nx hn=>?_) (fun H hI=>?_) xs.length 0 _ _ (by rw[ai];rfl) ⟨r0,(aU n0).trans l0,aE _,[],rfl,a6⟩ (af (by lia) (ac (n:=160) hK rfl))
 ·obtain⟨hr',h1,h2,zs,h3,h4⟩:=hI
  obtain⟨hj,ew⟩:=List.getElem?_eq_some_iff.mp hw
  rw[ai] at hj
  rw[List.getElem_map] at ew
  refine cq (d:=0) hK rfl ?_
  rw[bx]
  refine aq (d:=0) hK rfl hr' (by rw[←ew];rfl) ⟨by rw[h4,ai,h3];unfold eg;lia,hn _ ⟨hr',(a8 (aj n0)).trans h1,h2,zs++[(xs[j].natAbs:Int)],by rw[List.length_append,h3];rfl,by rw[aW,h4,List.map_append];rfl⟩⟩
 ·obtain⟨hr',h1,h2,zs,h3,h4⟩:=hI
  rw[ai] at h3
  refine aA hK rfl (aq hK rfl hr' rfl (bz hK rfl (g H.nl G1.nl _ ⟨hr',a6,⟨zs,by lia,(aU h2).trans h4⟩,bQ _,by decide,aE _,aY h2,aj h2⟩)))
end
set_option tactic.hygienic true
section
variable{G G' G1 H:H}{jd jl jn K n m:Nat}{k:V->Mine.H->Prop}{kf:Fl->au->Mine.H->Prop}{ρ:au}{fu:Int}{r r':BR}{h h':HR}{E:Ed}{o:Option HR}
structure Bn where
 r:BR
 h:HR
 jl:Nat
structure Bs where
 l:Cy
 z:Int
 c:Nat
noncomputable def Bs.go(Y:Bs)(E:Ed)(fu:Int):Bs:=⟨fun k=>lq (Y.l k) E fu,Y.z - (E.e - E.s)+E.m,Y.c+E.m+8⟩
variable{Z Z':Bn}{Y Y':Bs}
structure Hf(H:Mine.H)(Z:Bn)(Y:Bs):Prop where
 B:∃st,BH H Z.r Y.z Y.c (some (Z.h,st))/\LS Z.h st Y.l
 l:H.lst Z.jl=(List.range Z.h.n).map fun k=> .ref 108 (some (Z.h.ov k))
 n:Z.jl<H.nl
 c:Z.jl≠Z.r.ce
theorem Kl.fb(X:Kl G H)(F:FB r o H G')(c:G.nl<=r.ce):Kl G G':=⟨af X.nl F.nl,fun j h=>(F.lst j (ae h X.nl) (hY h c)).trans (X.lst j h)⟩
structure Fx(G:Mine.H)(Z Z':Bn):Prop where
 S:Sep Z.r Z.h Z'.r Z'.h
 S':Sep Z'.r Z'.h Z.r Z.h
 c:G.nl<=Z.r.ce
 c':G.nl<=Z'.r.ce
 d:Z.jl≠Z'.r.ce
 d':Z'.jl≠Z.r.ce
structure Tw(G H:Mine.H)(Z Z':Bn)(Y Y':Bs):Prop where
 A:Hf H Z Y
 C:Hf H Z' Y'
 K:Kl G H
theorem Fx.symm(X:Fx G Z Z'):Fx G Z' Z:=⟨X.S',X.S,X.c',X.c,X.d',X.d⟩
section
variable(X:Fx G Z Z')(T:Tw G H Z Z' Y Y')
include X T
theorem Tw.fb{Y1:Bs}{st:eQ}(F:FB Z.r (some Z.h) H G')(B:BH G' Z.r Y1.z Y1.c (some (Z.h,st)))(L:LS Z.h st Y1.l):Tw G G' Z Z' Y1 Y':=
 ⟨⟨⟨st,B,L⟩,(F.lst _ T.A.n T.A.c).trans T.A.l,ae T.A.n F.nl,T.A.c⟩,⟨T.C.B.imp fun _ B=>⟨B.1.fb F X.S',B.2⟩,(F.lst _ T.C.n X.d').trans T.C.l,ae T.C.n F.nl,T.C.c⟩,T.K.fb F X.c⟩
theorem Tw.done(o:jS E)(h1:1<=E.s+fu)(h2:E.e+fu<=Y.z+1)(hm:E.m<=3)(hj:jn<G.nl)(hz:∃zs:List Int,zs.length=E.m/\G.lst jn=zs.map .int)(hc:Y.c<=3900)(hK:1080<=K)
  (g:∀u H',Tw G H' Z Z' (Y.go E fu) Y'->k u H'):aD P K H 61 [.ref 155 (some Z.r.bu),yg E jn, .int fu] k:=
 T.A.B.elim fun _ B=>El B.1 B.2 o h1 h2 hm (ae hj T.K.nl) (hY hj X.c) (by rw[T.K.lst _ hj];exact hz) hc hK fun u G' st' F B' L'=>g u G' (T.fb X F B' L')
theorem Tw.BY(hj:jd<G.nl)(l:G.lst jd=(List.range Z.h.n).map fun k=>bH (Y.l k))(hs:Y.z<=100)(hK:800<=K)
  (g:∀H',Tw G H' Z Z' Y Y'->k (.bool true) H'):aD P K H 63 [.ref 155 (some Z.r.bu), .list Z.jl, .list jd] k:=
 T.A.B.elim fun _ B=>AN T.A.c (hY hj X.c) B.1 B.2 T.A.l ((T.K.lst _ hj).trans l) T.A.n (ae hj T.K.nl) hs hK fun G' F B'=>g G' (T.fb X F B' B.2)
omit X
theorem Tw.symm:Tw G H Z' Z Y' Y:=⟨T.C,T.A,T.K⟩
theorem Tw.raw:H.raw=[]:=T.A.B.elim fun _ B=>B.1.b.raw
end
section
variable{m m1 m2:Nat}{s1 e1 s2 e2 c x:Int}(p1:s1<=e1)(b1:m1<=3)
include p1 b1
theorem yc(h:x<=c):x - (e1 - s1)+m1<=c+3:=by lia
omit b1
variable(a2:e1<s2)(a3:e2<=m+1)
include a2
theorem Kp(a1:1<=s1):1<=s2+(m1 - (e1 - s1)):=by lia
include a3
omit p1
theorem Li:e2+(m1 - (e1 - s1))<=m - (e1 - s1)+m1+1:=by lia
theorem LN:e1<=m - (e2 - s2)+m2+1:=by lia
end
theorem nQ{m a:Nat}(m10:m<=10)(b:a<=3):m+16+a+8<=3900:=af (Nat.add_le_add_right (Nat.add_le_add (Nat.add_le_add_right m10 16) b) 8) (by decide)
section
variable{js jt jn1 jn2 ju:Nat}{lot:Nat->fY}{E1 E2:Ed}
  (n2:jt<G.nl)(n3:jn1<G.nl)(n4:jn2<G.nl)(n5:ju<G.nl)(m10:m<=10)
  (l2:G.lst jt=(List.range n).map fun k=>bH (some (lot k)))(hlot:∀k,k<n->(lot k).lo<(lot k).hi)
  (l3:∃zs:List Int,zs.length=E1.m/\G.lst jn1=zs.map .int)(l4:∃zs:List Int,zs.length=E2.m/\G.lst jn2=zs.map .int)
  (l5:G.lst ju=(List.range n).map fun k=>bH (lq (lq (some (lot k)) E1 0) E2 (E1.m - (E1.e - E1.s))))
  (o1:jS E1)(o2:jS E2)(a1:1<=E1.s)(a2:E1.e<E2.s)(a3:E2.e<=m+1)(b1:E1.m<=3)(b2:E2.m<=3)
  (r95:ρ 95=some (yg E1 jn1))(r78:ρ 78=some (yg E2 jn2))(r162:ρ 162=some (.int (E1.m - (E1.e - E1.s))))(r167:ρ 167=some (.list ju))(g:∀ρ G,kf (.ret (.bool true)) ρ G)
include n2 n3 n4 n5 m10 l2 hlot l3 l4 l5 o1 o2 a1 a2 a3 b1 b2 r95 r78 r162 r167 g
theorem Cf(X:Fx G Z Z')(T:Tw G H Z Z' ⟨fun k=>some (lot k),m,m+16⟩ ⟨fun k=>some (lot k),m,m+16⟩)(hn:Z.h.n=n)(hn':Z'.h.n=n)(r150:ρ 150=some (.list jt))(r154:ρ 154=some (.ref 155 (some Z.r.bu)))(r157:ρ 157=some (.list Z.jl))(r176:ρ 176=some (.ref 155 (some Z'.r.bu)))(r177:ρ 177=some (.list Z'.jl))(hK:1180<=K):
  aC P K ρ H (f64.body.drop 14) kf:=by
 have c0:m+16<=3900:=af (Nat.le_add_right _ (0+8)) (nQ m10 (by decide))
 have m10':(m:Int)<=10:=Int.ofNat_le.mpr m10
 refine cv (d:=0) hK rfl (zS hK rfl (rj hK rfl rfl (aV hK rfl T.raw (ah (aH r154) (ah (aH r157) (ah (aH r150) rfl))) (T.BY X n2 (hn▸l2) (ak m10' (by decide)) (ac hK rfl) fun _ T=>s_end hK rfl ?_))))
 refine s_call hK rfl T.raw (ah (aH r154) (ah (aH r95) (ah rfl rfl))) (T.done X o1 (Int.add_zero _▸a1) (Int.add_zero _▸ak (ba a2) (ak o2.le a3)) b1 n3 l3 c0 (ac hK rfl) fun _ _ T=>?_)
 refine s_call hK rfl T.raw (ah (aH r154) (ah (aH r78) (ah (aH r162) rfl))) (T.done X o2 (Kp o1.le a2 a1) (Li a2 a3) b2 n4 l4 (nQ m10 b1) (ac hK rfl) fun _ _ T=>?_)
 refine s_call hK rfl T.raw (ah (aH r176) (ah (aH r78) (ah rfl rfl))) (T.symm.done X.symm o2 (Int.add_zero _▸ak a1 (ak o1.le (ba a2))) (Int.add_zero _▸a3) b2 n4 l4 c0 (ac hK rfl) fun _ _ T=>?_)
 refine s_call hK rfl T.raw (ah (aH r176) (ah (aH r95) (ah rfl rfl))) (T.done X.symm o1 (Int.add_zero _▸a1) (Int.add_zero _▸LN a2 a3) b1 n3 l3 (nQ m10 b2) (ac hK rfl) fun _ _ T=>?_)
 refine bJ hK rfl (nE hK rfl (Dv hK rfl (aV hK rfl T.raw (ah (aH r154) (ah (aH r157) (ah (aH r167) rfl))) (T.symm.BY X n5 (hn▸l5) (ak (yc o2.le b2 (yc o1.le b1 m10')) (by decide)) (ac hK rfl) fun _ T=>?_))))
 exact Ic hK rfl (aV hK rfl T.raw (ah (aH r176) (ah (aH r177) (ah (aH r167) rfl))) (T.symm.BY X.symm n5 (hn'▸l5.trans (List.map_congr_left fun k hk=>congrArg bH (mS o1 o2 a2 (hlot k (List.mem_range.mp hk))))) (ak (yc o1.le b1 (yc o2.le b2 m10')) (by decide)) (ac hK rfl) fun _ _=>g _ _))
theorem we(hr:G.raw=[])(n1:js<G.nl)(l1:(G.lst js).length=m)(m4:0<m)(hn:n<=4)(r149:ρ 149=some (.list js))(r150:ρ 150=some (.list jt))(hK:1200<=K):aC P K ρ G (f64.body.drop 12) kf:=by
 have m100:m<=100:=af m10 (by decide)
 refine bY (d:=0) hK rfl (aV hK rfl hr (ah (aH r149) (ah (aH r150) rfl)) (mL hr n1 l1 m4 m100 n2 l2 hn hlot (ac hK rfl) fun r h st jl G1 L1=>bS rfl (bS rfl ?_)))
 refine bY hK rfl (aV hK rfl L1.B.b.raw (ah (aH r149) (ah (aH r150) rfl)) (mL L1.B.b.raw (ae n1 L1.w.nl) ((congrArg _ (L1.w.lst _ n1)).trans l1) m4 m100 (ae n2 L1.w.nl) ((L1.w.lst _ n2).trans l2) hn hlot (ac hK rfl) fun r' h' st' jl' G2 L2=>bS rfl (bS rfl ?_)))
 exact Cf (Z:=⟨r,h,jl⟩) (Z':=⟨r',h',jl'⟩) n2 n3 n4 n5 m10 l2 hlot l3 l4 l5 o1 o2 a1 a2 a3 b1 b2 r95 r78 r162 r167 g ⟨L1.R.sep L2.R L1.B,L1.R.sep' L2.R,L1.R.ce.1,af L1.w.nl L2.R.ce.1,hY L1.i L2.R.ce.1,(hY L1.R.ce.2 L2.j).symm⟩
  ⟨⟨⟨st,L1.B.nw L2.w L2.B.b.raw L1.R,L1.L⟩,(L2.w.lst _ L1.i).trans (L1.q▸L1.l),ae L1.i L2.w.nl,L1.c⟩,⟨⟨st',L2.B,L2.L⟩,L2.q▸L2.l,L2.i,L2.c⟩,(L1.w.trans L2.w).kl⟩ L1.q L2.q r150 rfl rfl rfl rfl (ac hK rfl)
end
end
set_option tactic.hygienic false
section
variable{G G1:H}{jd jc K n m:Nat}{k:Fl->au->H->Prop}{ρ:au}{d:Int}
theorem gU:∀{ls:List (Option fY)},iB (ls.map bH) 5=true/\hG (ls.map bH) (ls.map bH)=true
 |[]=>⟨rfl,rfl⟩
 |l::ls=>by
  obtain⟨a,b⟩:= @gU ls
  rcases l with _|l
  ·exact⟨a,b⟩
  ·refine⟨a,?_⟩
   show((decide (l.lo=l.lo)&&(decide (l.hi=l.hi)&&(l.f==l.f&&(l.r==l.r&&(l.s==l.s&&true)))))&&hG (ls.map bH) (ls.map bH))=true
   rw[b,aK rfl,aK rfl,beq_self_eq_true,beq_self_eq_true,beq_self_eq_true];rfl
theorem mF{jt ja jb x1 x2:Nat}{lot:Nat->fY}{Ea Eb:Ed}{fu:Int}{e3:Mine.E}{kh:H->Prop}(hr:G.raw=[])(n1:jt<G.nl)(n2:ja<G.nl)(n3:jb<G.nl)(l:G.lst jt=(List.range n).map fun k=>bH (some (lot k)))(la:(G.lst ja).length=Ea.m)(lb:(G.lst jb).length=Eb.m)
  (p1:∀v,(upd ρ 164 v) x1=some (yg Ea ja))(p2:∀v,(upd ρ 164 v) x2=some (yg Eb jb))(p3:∀v H,(pv 12).ev (upd ρ 164 v) H e3=some (.int fu))(hn:n<=4)(hK:700<=K)
  (g:∀H,(∀jd,LF jd G H)->G.nl<H.nl->(H.lst G.nl=(List.range n).map fun k=>bH (lq (lq (some (lot k)) Ea 0) Eb fu))->kh H):
  gH P K ρ (G.newL []) (.call 62 [.call 62 [.var 164, .var x1, .int 0], .var x2,e3]) 164 [] (.list jt) 0 G.nl kh:=by
 refine dM (B:=660) (ws:=(List.range n).map fun k=>bH (some (lot k))) (I:=fun j H=>(∀jd,LF jd G H)/\G.nl<H.nl/\H.lst G.nl=(List.range j).map fun k=>bH (lq (lq (some (lot k)) Ea 0) Eb fu)) (fun j H I=>yZ (((I.1 G.nl).lst _ n1 (aj n1)).trans l)) (fun j w H K hw I hK nx hn'=>?_) (fun H I=>?_) n 0 _ _ (by rw[ai,aM];rfl) ⟨fun _=>LF.refl.newL,aE _,a6⟩ (by lia)
 ·obtain⟨F,q1,q2⟩:=I
  have hr1:H.raw=[]:=(F 0).raw.trans hr
  have hj:j<n:=by
   have:=(List.getElem?_eq_some_iff.mp hw).1
   rw[ai,aM] at this;exact this
  have ew:w=bH (some (lot j)):=by
   rw[bO,List.getElem?_range hj] at hw
   exact(ag hw).symm
  subst ew
  refine cq (d:=0) hK rfl ?_
  rw[bx]
  refine kX (d:=0) hK rfl (aA hK rfl (aV hK rfl hr1 (ah rfl (ah (aH (p1 _)) (ah rfl rfl))) (zZ hr1 ((congrArg _ ((F G.nl).lst _ n2 (aj n2))).trans la) (ac hK rfl) fun H1 F1=>?_)))
  have hr2:H1.raw=[]:=(F1 0).raw.trans hr1
  have n3':jb<H.nl:=ae n3 (F 0).nl
  have lb':(H1.lst jb).length=Eb.m:=by rw[(F1 G.nl).lst _ n3' (aj n3),(F G.nl).lst _ n3 (aj n3)];exact lb
  refine aA hK rfl (aq hK rfl hr2 (aH (p2 _)) (aA hK rfl (aq hK rfl hr2 (p3 _ _) (bz hK rfl (zZ hr2 lb' (ac hK rfl) fun H2 F2=>?_)))))
  have q3:H2.lst G.nl=(List.range j).map fun k=>bH (lq (lq (some (lot k)) Ea 0) Eb fu):=((F2 jt).lst _ (ae q1 (F1 0).nl) (Nat.ne_of_gt n1)).trans (((F1 jt).lst _ q1 (Nat.ne_of_gt n1)).trans q2)
  refine⟨by rw[q3,ai,aM];unfold eg;lia,hn' _ ⟨fun jd=>(((F jd).trans (F1 jd)).trans (F2 jd)).gk (ab _),ae q1 (af (F1 0).nl (F2 0).nl),?_⟩⟩
  rw[aW,q3,List.range_succ,List.map_append];rfl
 ·obtain⟨F,q1,q2⟩:=I
  rw[ai,aM] at q2
  exact g H F q1 q2
theorem IF{i j:Nat}{f:Nat->Option fY}(hi:G.lst i=(List.range n).map fun k=>bH (f k))(hj:G.lst j=(List.range n).map fun k=>bH (f k)):kg G .ne (.list i) (.list j)=some false:=by
 have e:(List.range n).map (fun k=>bH (f k))=((List.range n).map f).map bH:=by rw[List.map_map];rfl
 show(if iB (G.lst i) 5&&iB (G.lst j) 5 then some (hG (G.lst i) (G.lst j)) else none).map (!·)=_
 rw[hi,hj,e,gU.1,gU.2];rfl
theorem ww{js jt:Nat}{lot:Nat->fY}{s1 t1 s2 t2:Int}(D:Dk G jd jc d)(hd:d<=700)
  (n1:js<G.nl)(n2:jt<G.nl)(i1:js≠jd)(i2:jt≠jd)
  (l1:(G.lst js).length=m)(m4:0<m)(m10:m<=10)
  (l2:G.lst jt=(List.range n).map fun k=>bH (some (lot k)))(hn:n<=4)(hlot:∀k,k<n->(lot k).lo<(lot k).hi)
  (a1:1<=s1)(a2:s1<=t1)(a3:t1<s2)(a4:s2<=t2)(a5:t2<=m+1)
  (r146:ρ 146=some (.list jd))(r149:ρ 149=some (.list js))(r150:ρ 150=some (.list jt))(r174:ρ 174=some (.int s1))(r173:ρ 173=some (.int t1))(r172:ρ 172=some (.int s2))(r175:ρ 175=some (.int t2))
  (hK:1220<=K)(g:∀ρ G,k (.ret (.bool true)) ρ G):aC P K ρ G (f64.body.drop 8) k:=by
 refine bY (d:=0) hK rfl (kB hK rfl (aA hK rfl (aV hK rfl D.raw (ah (aH r146) (ah (aH r174) (ah (aH r173) rfl))) (tb D (ak (cG hd 6) (by decide:(700:Int)+6<=900)) a2 (ac hK rfl) fun E1 jn1 G1 d1 o1 e1 f1 m1 F1 D1 hd1 n3 n3' z1=>?_))))
 refine aA hK rfl (aV hK rfl D1.raw (ah (aH r146) (ah (aH r172) (ah (aH r175) rfl))) (tb D1 (ak (cG (ak hd1 (cG hd 6)) 6) (by decide:(700:Int)+6+6<=900)) a4 (ac hK rfl) fun E2 jn2 G2 d2 o2 e2 f2 m2 F2 D2 hd2 n4 n4' z2=>bz hK rfl (bS rfl (bS rfl ?_))))
 have F:LF jd G G2:=F1.trans F2
 have lt:∀{j},j<G.nl->j<G2.nl:=fun h=>ae h F.nl
 have n3':=ae n3' F2.nl
 have z1':∃zs:List Int,zs.length=E1.m/\G2.lst jn1=zs.map .int:=z1.imp fun _ q=>⟨q.1,(F2.lst _ ‹_› (hY D.jl n3).symm).trans q.2⟩
 have y1:(G2.lst jn1).length=E1.m:=z1'.elim fun zs q=>by rw[q.2,ai,q.1]
 have y2:(G2.lst jn2).length=E2.m:=z2.elim fun zs q=>by rw[q.2,ai,q.1]
 have r2:=D2.raw
 refine dP hK rfl r2 (aP (dz (dL rfl rfl rfl) (congrArg Nat.cast y1)) (aP (aH (f1▸r173)) (aH (e1▸r174)) rfl) rfl) ?_
 have l2':=(F.lst _ n2 i2).trans l2
 refine bm hK rfl (di hK rfl (aq hK rfl r2 (aH r150) (mF r2 (lt n2) n3' n4' l2' y1 y2 (fun _=>rfl) (fun _=>rfl) (fun _ _=>rfl) hn (ac hK rfl) fun G3 F3 n5 l3=>?_)))
 have r3:G3.raw=[]:=(F3 0).raw.trans r2
 have z3:=(F3 0).nl
 have up:∀{j},j<G2.nl->j<G3.nl:=fun h=>ae h z3
 have st:∀{j:Nat},j<G2.nl->G3.lst j=G2.lst j:=fun hj=>(F3 G2.nl).lst _ hj (aj hj)
 refine cv hK rfl (rj hK rfl rfl (gh hK rfl (aq hK rfl r3 rfl (di hK rfl (aq hK rfl r3 (aH r150) (mF r3 (up (lt n2)) (up n4') (up n3') ((st (lt n2)).trans l2') ((congrArg _ (st n4')).trans y2) ((congrArg _ (st n3')).trans y1) (fun _=>rfl) (fun _=>rfl) (fun _ _=>rfl) hn (ac hK rfl) fun G4 F4 n6 l4=>?_))))))
 have a3':E1.e<E2.s:=f1.symm▸e2.symm▸a3
 have F4':=F4 G3.nl
 refine bS (IF (((F4').lst _ n5 (aj n5)).trans l3) (l4.trans (List.map_congr_left fun k hk=>congrArg bH (mS o1 o2 a3' (hlot k (List.mem_range.mp hk))).symm))) (s_end hK rfl ?_)
 have st4:∀{j:Nat},j<G2.nl->G4.lst j=G2.lst j:=fun hj=>(F4'.lst _ (up hj) (aj (up hj))).trans (st hj)
 have up4:∀{j},j<G2.nl->j<G4.nl:=fun h=>ae (up h) F4'.nl
 exact we (up4 (lt n2)) (up4 n3') (up4 n4') (ae n5 F4'.nl) m10 ((st4 (lt n2)).trans l2') hlot (st4 n3'▸z1') (st4 n4'▸z2) ((F4'.lst _ n5 (aj n5)).trans l3) o1 o2 (e1.symm▸a1) a3' (f2.symm▸a5) m1 m2 rfl rfl rfl rfl g (F4'.raw.trans r3) (up4 (lt n1)) ((congrArg _ ((st4 (lt n1)).trans (F.lst _ n1 i1))).trans l1) m4 hn r149 r150 (ac hK rfl)
end
section
variable{G G' G1:H}{jd jc js jt K M n m:Nat}{k:Fl->au->H->Prop}{kv:V->H->Prop}{kh:H->Prop}{ρ:au}{d c mm:Int}
theorem wd(D:Dk G jd jc d)(h:d+n<=900)(hm:0<mm)(hn:n<=100)(p:ρ 146=some (.list jd))(hK:260<=K)(g:∀H,LF jd G H->Dk H jd jc (d+n)->G.nl<H.nl->(∃zs:List Int,zs.length=n/\H.lst G.nl=zs.map .int)->kh H):
  gH P K ρ (G.newL []) (.bop .add (.int c) (.call 58 [.var 146, .int mm])) 148 [] (.range n) 0 G.nl kh:=by
 have nej:G.nl≠jd:=Nat.ne_of_gt D.jl
 have l0:(G.newL []).lst G.nl=([]:List Int).map .int:=a6
 refine xU (f:=fun(i:Nat)=>V.int (i:Int)) (J:=fun j H=>Dk H jd jc (d+j)/\LF jd G H/\(∃zs:List Int,zs.length=j/\H.lst G.nl=zs.map .int)/\G.nl<H.nl) (fun j H hI=>zz) (fun j H K hj hI hK nx hn'=>?_) (fun H hI=>g H hI.2.1 hI.1 hI.2.2.2 hI.2.2.1) ⟨(Int.add_zero d).symm▸D.lf LF.refl.newL (aU D.jl),LF.refl.newL,⟨[],rfl,l0⟩,aE _⟩ (af (Nat.add_le_add_right (Nat.add_le_add_left hn 150) 1) (af (by decide) hK))
 have e:d+((j+1:Nat):Int)=d+j+1:=(Int.add_assoc d j 1).symm
 refine cq (d:=0) hK rfl (iW (af (by decide) hK) hI.1 (e▸ak (Int.add_le_add_left (Int.ofNat_le.mpr hj) d) h) hm p rfl rfl fun y H5 _ _ F5 D5 n5=>?_)
 obtain⟨zs,w1,w2⟩:=hI.2.2.1
 have l5:H5.lst G.nl=zs.map .int:=(F5.lst _ hI.2.2.2 nej).trans w2
 exact⟨by rw[l5,ai,w1];exact ae hj (af hn (by decide)),hn' _ ⟨e▸D5.gk nej.symm (aj D.cl),(hI.2.1.trans F5).gk (ab _),⟨zs++[c+y],by rw[List.length_append,w1];rfl,by rw[aW,l5,List.map_append];rfl⟩,ae hI.2.2.2 F5.nl⟩⟩
theorem oE(hM:120<=M)(D:Dk G jd jc d)(h:d+1<=900)(hm:0<mm)(p:ρ 146=some (.list jd))(g:∀b G',LF jd G G'->Dk G' jd jc (d+1)->kv (.bool b) G'):aN P M ρ G (.cmp (.call 58 [.var 146, .int mm]) .eq (.int c)) kv:=
 gh (d:=0) hM rfl (aV hM rfl D.raw (ah (n:=11) (aH (n:=10) p) (ah (n:=10) rfl rfl)) (eK D h hm (ac hM rfl) fun y _ _=>aq hM rfl D.raw rfl (bS rfl (g _ _ LF.refl.cA (D.set h)))))
structure Jg(jd jc js jt m:Nat)(d:Int)(j:Nat)(ρ:au)(H:H):Prop where
 a:ρ 146=some (.list jd)
 b:ρ 149=some (.list js)
 c:ρ 150=some (.list jt)
 s:ρ 116=some (.int m)
 dk:∃d',Dk H jd jc d'/\d'<=d+5*j
 n1:js<H.nl
 l1:(H.lst js).length=m
 n2:jt<H.nl
 l2:∃lot:Nat->fY,H.lst jt=((List.range j).map fun k=>bH (some (lot k)))/\∀k,k<j->(lot k).lo<(lot k).hi
theorem FH{d1 d:Int}{j:Nat}(h:d1<=d+5*j):d1+1+1+1+1+1<=d+5*((j+1:Nat):Int):=by lia
theorem yu{x:Int}(h:x+1<=900):x<=900:=ak (cK (by decide)) h
theorem xx{j:Nat}(I:Jg jd jc js jt m d j ρ G)(i1:js≠jd)(i2:jt≠jd)(i3:js≠jt)(i4:jc≠jt)(hj:j<100)(m0:0<m)(hd:d+5*((j+1:Nat):Int)<=900)(hK:240<=K)(g:∀ρ' G',Jg jd jc js jt m d (j+1) ρ' G'->k .next ρ' G'):
  aC P K ρ G [.asg (.var 119) (.call 58 [.var 146, .var 116]), .asg (.var 120) (.bop .add (.bop .add (.var 119) (.int 1)) (.call 58 [.var 146, .bop .sub (.var 116) (.var 119)])), .expr (.meth (.var 150) 0 [.tup [.var 119, .var 120, .cmp (.call 58 [.var 146, .int 2]) .eq (.int 1), .cmp (.call 58 [.var 146, .int 2]) .eq (.int 1), .cmp (.call 58 [.var 146, .int 3]) .eq (.int 0)]])] k:=by
 obtain⟨d1,D,hd1⟩:=I.dk
 have c5:=ak (FH hd1) hd
 have c4:=yu c5
 have c3:=yu c4
 have c2:=yu c3
 have c1:=yu c2
 refine da (d:=0) hK rfl D.raw (ah (n:=11) (aH (n:=10) I.a) (ah (n:=10) (aH (n:=9) I.s) rfl)) (eK D c1 (Int.ofNat_lt.mpr m0) (ac hK rfl) fun lo l0 l1=>?_)
 have D1:=D.set c1
 have F1:LF jd G (G.ax jd [.list jc, .int (d1+1)]):=LF.refl.cA
 generalize G.ax jd [.list jc, .int (d1+1)]=G1 at*
 refine bm hK rfl (iW (ac hK rfl) D1 c2 (Int.sub_pos_of_lt l1) I.a (aP (n:=11) rfl rfl rfl) (aP (n:=9) (aH (n:=8) (ρ:=upd ρ 119 _) I.s) rfl rfl) fun z G2 z0 z1 F2 D2 _=>?_)
 refine bE hK rfl (l7 hK rfl D2.raw (aH (n:=11) (ρ:=upd (upd ρ 119 _) 120 _) I.c) rfl (aA hK rfl (kB hK rfl (aA hK rfl (aq hK rfl D2.raw rfl (aA hK rfl (aq hK rfl D2.raw rfl (aA hK rfl (oE (ac hK rfl) D2 c3 (by decide) I.a fun f G3 F3 D3=>?_)))))))))
 refine aA hK rfl (oE (ac hK rfl) D3 c4 (by decide) I.a fun r G4 F4 D4=>?_)
 refine aA hK rfl (oE (ac hK rfl) D4 c5 (by decide) I.a fun s G5 F5 D5=>?_)
 have F:=(((F1.trans F2).trans F3).trans F4).trans F5
 obtain⟨lot,q1,q2⟩:=I.l2
 have q3:=(F.lst _ I.n2 i2).trans q1
 exact bz hK rfl (bz hK rfl (cj (zf (by rw[q3,fR];exact hj)) (az hK rfl (g _ _ ⟨I.a,I.b,I.c,I.s,⟨_,D5.gk i2.symm i4,FH hd1⟩,ae I.n1 F.nl,(congrArg _ ((a8 i3).trans (F.lst _ I.n1 i1))).trans I.l1,ae I.n2 F.nl,up1 lot j ⟨lo,lo+1+z,f,r,s⟩,aW.trans ((congrArg (· ++_) q3).trans (ph (fun x=>bH (some x)) (v:=⟨lo,lo+1+z,f,r,s⟩))),fun k hk=>IT (fun k (l:fY)=>k<j+1->l.lo<l.hi) (fun k q c=>q2 k (Nat.lt_of_le_of_ne (bD c) q)) (fun _=>aT (Int.lt_add_one_of_le (bQ lo)) (cK z0)) k hk⟩))))
end
section
variable{x y m:Int}
theorem Jn(h:x<1+y):1+x<=1+y:=Int.add_le_add_left (Int.le_of_lt_add_one (Int.add_comm 1 y▸h)) 1
theorem J4(h:x<2+y - 1):1+x<2+y:=by lia
theorem KG(h:x<m+2 - (2+y)):2+y+x<=m+1:=by lia
theorem J9(h:y<m):0<m+2 - (2+y):=by lia
theorem Kx(h:0<=x):0<2+x - 1:=by lia
theorem KN(h:0<=x):0<1+x:=aT (by decide:(0:Int)<1) (cK h)
end
section
variable{G:H}{jd jc js jt K n m:Nat}{k:Fl->au->H->Prop}{ρ:au}{d:Int}(i1:js≠jd)(i2:jt≠jd)(m4:4<=m)(m10:m<=10)(hn:n<=4)(g:∀ρ G,k (.ret (.bool true)) ρ G)
include i1 i2 m4 m10 hn g
theorem uD{d0:Int}(I:Jg jd jc js jt m d0 n ρ G)(h0:d0<=80)(hK:1250<=K):aC P K ρ G (f64.body.drop 4) k:=by
 obtain⟨d,D,hd⟩:=I.dk
 obtain⟨lot,e1,e2⟩:=I.l2
 have hd:d<=100:=ak hd (Int.add_le_add h0 (Int.mul_le_mul_of_nonneg_left (Int.ofNat_le.mpr hn) (by decide)))
 have d1:=cG hd 1
 have d2:=cG d1 1
 have d3:=cG d2 1
 have m0:(0:Int)<m:=Int.ofNat_lt.mpr (ae (by decide) m4)
 refine bm (d:=0) hK rfl (iW (ac hK rfl) D (ak d1 (by decide)) m0 I.a rfl (aH (n:=9) I.s) fun x3 G6 y3 z3 F6 D6 _=>?_)
 refine bm hK rfl (iW (ac hK rfl) D6 (ak d2 (by decide)) (Kx y3) I.a rfl rfl fun x4 G7 y4 z4 F7 D7 _=>?_)
 refine bm hK rfl (iW (ac hK rfl) D7 (ak d3 (by decide)) (KN y4) I.a rfl rfl fun x5 G8 y5 z5 F8 D8 _=>?_)
 refine bm hK rfl (iW (ac hK rfl) D8 (ak (cG d3 1) (by decide)) (J9 z3) I.a rfl (aP (n:=9) (aP (n:=8) (aH (n:=7) (ρ:=upd (upd (upd ρ 172 _) 173 _) 174 _) I.s) rfl rfl) rfl rfl) fun x6 G9 y6 z6 F9 D9 _=>?_)
 have F:=((F6.trans F7).trans F8).trans F9
 exact ww D9 (ak (cG d3 1) (by decide)) (ae I.n1 F.nl) (ae I.n2 F.nl) i1 i2 ((congrArg _ (F.lst _ I.n1 i1)).trans I.l1) (ae (by decide) m4) m10 ((F.lst _ I.n2 i2).trans e1) hn e2 (cK y5) (Jn z5) (J4 z4) (cK y6) (KG z6) I.a I.b I.c rfl rfl rfl rfl (ac hK rfl) g
omit n hn
theorem qL(i3:js≠jt)(i4:jc≠jt)(D:Dk G jd jc d)(hd:d<=70)(n1:js<G.nl)(n2:jt<G.nl)(l1:(G.lst js).length=m)(l2:G.lst jt=[])(a:ρ 146=some (.list jd))(b:ρ 149=some (.list js))(c:ρ 150=some (.list jt))(s:ρ 116=some (.int m))(hK:1260<=K):aC P K ρ G (f64.body.drop 3) k:=by
 have d1:=cG hd 1
 refine eW (d:=0) hK rfl (j6 hK rfl (aA hK rfl (aV hK rfl D.raw (ah (n:=11) (aH (n:=10) a) (ah (n:=10) rfl rfl)) (eK D (ak d1 (by decide)) (by decide) (ac hK rfl) fun y y0 y1=>bz hK rfl (cj (vF (dA y0 (ak (ba y1) (by decide)))) ?_)))))
 have D5:=D.set (ak d1 (by decide))
 have F5:LF jd G (G.ax jd [.list jc, .int (d+1)]):=LF.refl.cA
 generalize G.ax jd [.list jc, .int (d+1)]=G5 at*
 obtain⟨n,rfl⟩:=Int.eq_ofNat_of_zero_le y0
 have hn:n<=4:=bD (Int.ofNat_lt.mp y1)
 refine C1 (f:=fun(i:Nat)=>V.int (i:Int)) (I:=fun j ρ H=>Jg jd jc js jt m (d+1) j ρ H) (fun j ρ H _=>zz) (fun j ρ H K hj I hK nx hn'=>?_) (fun ρ H I=>uD i1 i2 m4 m10 hn g I (ak d1 (by decide)) (ac hK rfl)) ⟨a,b,c,s,⟨_,D5,cK (by decide)⟩,ae n1 F5.nl,(congrArg _ (F5.lst _ n1 i1)).trans l1,ae n2 F5.nl,fun _=>⟨0,0,false,false,false⟩,(F5.lst _ n2 i2).trans l2,fun k hk=>absurd hk (Nat.not_lt_zero _)⟩ (af (Nat.add_le_add_right (Nat.add_le_add_left hn 250) 2) (ac hK rfl))
 have j4:j+1<=4:=af hj hn
 exact xx ⟨I.a,I.b,I.c,I.s,I.dk,I.n1,I.l1,I.n2,I.l2⟩ i1 i2 i3 i4 (Nat.lt_of_succ_le (af j4 (by decide))) (ae (by decide) m4) (ak (Int.add_le_add d1 (Int.mul_le_mul_of_nonneg_left (Int.ofNat_le.mpr j4) (by decide))) (by decide)) (af (by decide) hK) fun ρ' G' I'=>hn' _ _ I'
end
theorem uo{xs:List Int}{K:Nat}(hx:xs.length<=63)(hK:1290<=K):aD P K Gz 64 [.fro (xs.map .int)] fun v _=>v= .bool true:=by
 refine av hK rfl Kn rfl (bm hK rfl (CJ hx rfl (ac hK rfl) fun jd jc G1 D1=>?_))
 refine bm hK rfl (iW (ac hK rfl) D1 (by decide) (by decide) rfl rfl rfl fun x G2 x0 x1 F2 D2 n2=>?_)
 obtain⟨x,rfl⟩:=Int.eq_ofNat_of_zero_le x0
 have hm:4+x<=10:=Nat.add_le_add_left (bD (Int.ofNat_lt.mp x1)) 4
 have hm':((4+x:Nat):Int)<=10:=Int.ofNat_le.mpr hm
 have dm:(0+1:Int)+((4+x:Nat):Int)<=11:=Int.add_le_add_left hm' 1
 refine bY hK rfl (kB hK rfl (aA hK rfl (di hK rfl (aq hK rfl D2.raw (lK (ah (n:=10) rfl rfl) (dA (Int.natCast_nonneg _) (ak hm' (by decide)))) (wd (n:=4+x) D2 (ak dm (by decide)) (by decide) (af hm (by decide)) rfl (ac hK rfl) fun G3 F3 D3 n3 l3=>?_)))))
 refine aA hK rfl (hH hK rfl D3.raw rfl (bz hK rfl (bS rfl (bS rfl ?_))))
 exact qL (Nat.ne_of_gt D2.jl) (Nat.ne_of_gt (ae D2.jl F3.nl)) (Nat.le_add_right _ _) hm (fun _ _=>rfl) (aj n3) (aj (ae D2.cl F3.nl)) (D3.lf LF.refl.newL (aU D3.jl)) (ak dm (by decide)) (aY n3) (aE _) ((congrArg _ (aU n3)).trans (l3.elim fun zs q=>by rw[q.2,ai,q.1])) a6 rfl rfl rfl rfl (ac hK rfl)
theorem nD:lB:=fun xs hx=>⟨1290,ab _,uo hx (ab _)⟩
theorem Ex:PySem.Challenge.rw_pq0318_01.Holds:=holds_of nD
end Mine.Ab
end
theorem PySem.Challenge.cw_pq0318_01_holds : PySem.Challenge.rw_pq0318_01.Holds :=
 Mine.Ab.Ex
