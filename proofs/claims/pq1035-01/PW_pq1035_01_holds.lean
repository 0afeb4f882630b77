import PyProof.Rows.All
import Wide.All
import OpenK.AllK
import Wide.FinOn
import Lean
import PySem.Challenge.RW_pq1035_01
set_option maxRecDepth 100000
set_option Elab.async false
set_option genInjectivity false
set_option genSizeOf false
set_option bootstrap.genMatcherCode false
namespace Mine.Internal
noncomputable section
section
open PySem PySem.W PyProof.Rows PySem.Calls
def FV(p:Program)(w:World)(m:Nat)(a:Option Value)(n:Nat):SharedT->Thread->Option SharedT:=
 Nat.rec (motive:=λ_=>SharedT->Thread->Option SharedT) (λ_ _=>none)
  (λ_ b s t=>Bool.rec (motive:=λ_=>Option SharedT)
   (Bool.rec (motive:=λ_=>Option SharedT) none
    (Option.rec (motive:=λ_=>Option SharedT) none (λr=>b r.1 r.2)<|PySem.W.Fast.tw10156331382660048174 (PySem.W.Fast.tw11892475500146522536 PySem.W.Fast.tw14364793385576792824) p w s t)
    (PySem.W.Fast.tw6613529449190102663 m a t))
   (some s)<|through t) n
theorem Mx{p:Program}{w:World}{m:Nat}{a:Option Value}:∀{n:Nat}{s c:SharedT}{t:Thread},FV p w m a n s t=some c->topRun treeTable p w m a n s.abs t=some c.abs:=λ{i}=>by
 induction i with
 |zero=>intro _ _ _ h;cases h
 |succ n j=>
  intro s c t h;have b:(Bool.rec (motive:=λ_=>Option SharedT)
   (Bool.rec (motive:=λ_=>Option SharedT) none
    (Option.rec (motive:=λ_=>Option SharedT) none (λr=>FV p w m a n r.1 r.2)<|PySem.W.Fast.tw10156331382660048174 (PySem.W.Fast.tw11892475500146522536 PySem.W.Fast.tw14364793385576792824) p w s t)
    (PySem.W.Fast.tw6613529449190102663 m a t))
   (some s)<|through t)=some c:=h
  rw[<-PySem.W.Fast.te10156331382660048174,<-PySem.W.Fast.te11892475500146522536,<-PySem.W.Fast.te14364793385576792824,<-PySem.W.Fast.te6613529449190102663] at b;unfold topRun;cases f:through t with
  |true=>rw[f] at b;cases b;rfl
  |false=>
   rw[f] at b;cases e:stepOk m a t with
   |false=>rw[e] at b;cases b
   |true=>
    rw[e] at b;cases d:stepT (denote treeTable) p w s t with
    |none=>rw[d] at b;cases b
    |some r=>obtain⟨g,k⟩:=r;rw[d] at b;rw[stepT_spec d];exact j b
def S8(P:Params):List Obj:=[boot_o_0 P,boot_o_1 P,boot_o_2 P,boot_o_3 P,boot_o_4 P,boot_o_5 P,boot_o_6 P,boot_o_7 P,boot_o_8 P,boot_o_9 P,boot_o_10 P]
def H8(P:Params):BT:=(S8 P).foldl (λ(x:BT×Nat) o=>(x.1.ins x.2 o,x.2+1)) (.nil,0) |>.1
theorem H9(P:Params):absHeap (H8 P) 11 (boot_heap P).life=boot_heap P:=by kernel_rfl
noncomputable def qv:Program:={PySem.Challenge.pw_pq1035_01 with main:={PySem.Challenge.pw_pq1035_01.main with body:=PySem.Challenge.pw_pq1035_01.main.body.drop 81}}
theorem V_:(qv.main.body.map λs=>match s with|.FunctionDef n .. =>some n|_=>none)=[some<|Str.ofString "law"]:=by kernel_rfl
theorem yq:opening PySem.Challenge.pw_pq1035_01=plainProg PySem.Challenge.pw_pq1035_01.main.scope.names:=by kernel_rfl
theorem C3(s:Shared):fenceModules? PySem.Challenge.pw_pq1035_01 s=some s:=by kernel_rfl
def qi:List Str:=PySem.Challenge.pw_pq1035_01.boundNames.filter λn=> !(PySem.W.Fast.sEq n<|Str.ofString "law")
def A6(w:World)(a:OsState):SharedT:=⟨H8 w.params,11,(boot_heap w.params).life,#[],boot_drawn,boot_toks,a⟩
noncomputable def H_:Option Value:=some<|.ref 6
theorem FW(w:World):((boot_heap w.params).isNs mainGlobals&&(#[]:Array GenState).size==0,(boot_heap w.params).objs.size,(boot_heap w.params).nsMap mainGlobals "__annotations__")=(true,11,H_):=by kernel_rfl
def Wa:Shared->Bool:=xlAt qv []
def wA{a:Type}(p q:Program)(b:List Str)(w:World)(Y:SharedT->a)(s:SharedT):=
 ((staticsOk (importedModules p.main.body) (boot_heap w.params) s.abs.heap&&namesBound p s.abs.heap&&gensDone s.abs&&laidKept (boot_heap w.params) s.abs.heap),PySem.W.Fast.tw4187177175401517315 q b (importedModules p.main.body) Wa true s.abs,Y s)
theorem My{p q:Program}{b:List Str}{a:Type}{m:Shared->a}{Y:SharedT->a}{l:World->a}{M N:Nat}(C:∀s,m s.abs=Y s)
 (e:opening p=plainProg p.main.scope.names)(f:∀s,fenceModules? p s=some s)(B:Nat.ble 600 N)(D:Nat.ble M N)
 (j:∀(w:World)(c:OsState),(FV p w 11 H_ M (A6 w c)<|topStub p).map (wA p q b w Y)=some (true,openGood q b,l w)):LeftO p q b Wa m l N:=λw=>by
 obtain⟨⟨h,A,d,k,c⟩,v,y⟩:=Option.map_eq_some_iff.mp<|boot_open e B f w;obtain⟨rfl,rfl,rfl,rfl⟩:h=boot_heap w.params/\A= #[]/\d=boot_drawn/\k=boot_toks:=by simpa using y
 obtain⟨F,G,H⟩:_/\_/\_:=by simpa only[Prod.mk.injEq] using FW w
 obtain⟨i,E,g⟩:=Option.map_eq_some_iff.mp<|j w c;have r:=topRun_mono (N-M) _ _ _ _<|Mx E;rw[show M+(N-M)=N by have:=Nat.le_of_ble_eq_true D;omega] at r;have z:(A6 w c).abs=⟨boot_heap w.params,#[],boot_drawn,boot_toks,c⟩:=by show(⟨absHeap (H8 w.params) 11 (boot_heap w.params).life,_,_,_,_⟩:Shared)=_;rw[H9];rfl
 rw[z] at r;unfold wA at g;rw[<-PySem.W.Fast.te4187177175401517315] at g;have n:=congrArg Prod.fst g;have o:=congrArg (λx=>x.2.1) g;have u:=congrArg (λx=>x.2.2) g;dsimp only at n o u;have t:topFrom treeTable p w N ⟨boot_heap w.params,#[],boot_drawn,boot_toks,c⟩=some i.abs:=by unfold topFrom;dsimp only;rw[F,G,H,r];show(match staticsOk (importedModules p.main.body) (boot_heap w.params) i.abs.heap&&namesBound p i.abs.heap&&gensDone i.abs&&laidKept (boot_heap w.params) i.abs.heap with|true=>_|false=>_)=_;rw[n]
 unfold openEnds;rw[v];show(topFrom treeTable p w N _).map _=_;rw[t];exact congrArg some<|Prod.ext o<|(C _).trans u
end
set_option genSizeOf false
set_option genInjectivity false
set_option backward.match.sparseCases false
set_option genCtorIdx false
theorem Ku{a:Type _}{x:a}{G:Prop}(h:(none:Option a)=some x):G:=by cases h
theorem Kx{a:Type _}{x:a}{G:Prop}(h:some x=(none:Option a)):G:=by cases h
theorem Kv{G:Prop}(h:false):G:=by cases h
theorem Kw{G:Prop}(h:true=false):G:=by cases h
theorem kf{G:Prop}(h:∀P:Prop,(G->P)->P):G:=h G id
structure Nm where
 n_:Nat
 deriving DecidableEq
abbrev Sy:=Nm
abbrev IK:=Nm
abbrev Vr:=Nm
noncomputable abbrev au (n:Nat):Nm:=⟨n⟩
abbrev Nm.cB:=au 0x656372756f73
abbrev Nm.aQ:=au 0x73656372756f73
abbrev Nm.rows:=au 1937207154
abbrev Nm.dv:=au 0x746567726174
abbrev Nm.free:=au 1701147238
abbrev Nm.hD:=au 500152823651
abbrev Nm.bL:=au 1953459315
abbrev Nm.global:=au 0x6c61626f6c67
abbrev Nm.eN:=au 0x6c61626f6c67746573
abbrev Nm.jw:=au 0x656e69666564
abbrev Nm.ay:=au 1835627120
abbrev Nm.bt:=au 435728378979
abbrev Nm.closure:=au 0x657275736f6c63
abbrev Nm.fix:=au 7891302
abbrev Nm.move:=au 1702260589
abbrev Nm.call:=au 1819042147
abbrev Nm.zH:=au 1886221674
abbrev Nm.fE:=au 0x65736c616668636e617262
abbrev Nm.cU:=au 1702259047
abbrev Nm.empty:=au 0
abbrev Nm.wB:=au 0x78696665736f6c63
abbrev Nm.aD:=au 1668248176
abbrev Nm.cont:=au 1953394531
abbrev Nm.iO:=au 431198396782
abbrev Nm.SM:=au 26217
abbrev Nm.dj:=au 1869901671
abbrev Nm.made:=au 1701077357
abbrev Nm.WR:=au 28265
abbrev Nm.result:=au 0x746c75736572
abbrev Nm.test:=au 1953719668
abbrev Nm.constant:=au 0x746e6174736e6f63
abbrev Nm.q8:=au 0x6572756465636f7270
abbrev Nm.q9:=au 0x65766974696d697270
abbrev Nm.label:=au 465557414252
abbrev Nm.True:=au 1702195796
abbrev Nm.False:=au 435728179526
abbrev Nm.n0:=au 48
abbrev Nm.n1:=au 49
abbrev Nm.n2:=au 50
abbrev Nm.branch:=au 0x68636e617262
abbrev Nm.ax:=au 0x7265626d756e
abbrev Nm.kr:=au 435611265396
abbrev Nm.bA:=au 0x64656465656e
abbrev Nm.fF:=au 0x747365725f736168
abbrev Nm.ba:=au 0x6e6f697461756e69746e6f635f7369
abbrev Nm.bi:=au 0x737265747369676572
abbrev Nm.ak:=au 0x736e6f697463757274736e69
abbrev Nm.cC:=au 0x736572756465636f7270
abbrev Nm.bE:=au 0x73746e6174736e6f63
abbrev Nm.globals:=au 0x736c61626f6c67
abbrev Nm.fh:=au 500135195763
abbrev Nm.text:=au 1954047348
abbrev Nm.code:=au 1701080931
abbrev Nm.codes:=au 495622319971
abbrev Nm.mark:=au 1802658157
abbrev Nm.params:=au 0x736d61726170
abbrev Nm.ao:=au 7565423
abbrev Nm.cW:=au 6581861
abbrev Nm.ah:=au 521611275877
abbrev Nm.aj:=au 500069396323
abbrev Nm.bJ:=au 0x736b636f6c62
abbrev Nm.se:=au 0x79656b5f7962
abbrev Nm.dW:=au 0x646165725f736c61626f6c67
abbrev Nm.fN:=au 0x736563616c70
abbrev Nm.bO:=au 1953066613
abbrev Nm.cD:=au 0x73656c626174
abbrev Nm.ab:=au 461229747298
abbrev Nm.frees:=au 495622386278
abbrev Nm.fresh:=au 448612627046
abbrev Nm.emit:=au 1953066341
abbrev Nm.jx:=au 0x6563616c705f746e6174736e6f63
abbrev Nm.nB:=au 0x72657473696765725f65657266
abbrev Nm.jy:=au 0x72657473696765725f746e6174736e6f63
abbrev Nm.aa:=au 0x7265747369676572
abbrev Nm.op:=au 28783
abbrev Nm.data:=au 1635017060
abbrev Nm.lh:=au 0x6563616c705f6c61626f6c67
abbrev Nm.args:=au 1936159329
abbrev Nm.aH:=au 1953656691
abbrev Nm.head:=au 1684104552
abbrev Nm.k:=au 107
abbrev Nm.th:=au 0x706f5f7265776f6c
abbrev Nm.sf:=au 0x7473616c5f7265776f6c
abbrev Nm.last:=au 1953718636
abbrev Nm.rest:=au 1953719666
abbrev Nm.lH:=au 0x796e615f73656b6174
abbrev Nm.name:=au 1701667182
abbrev Nm.qj:=au 0x6465727574706163
abbrev Nm.az:=au 495874698355
abbrev Nm.units:=au 495874305653
abbrev Nm.iP:=au 495723962733
abbrev Nm.put:=au 7632240
abbrev Nm.of:=au 26223
abbrev Nm.ux:=au 0x6465746e61775f7369
abbrev Nm.ql:=au 0x7465677261745f65657266
abbrev Nm.oL:=au 0x7465677261745f7473726966
abbrev Nm.lK:=au 0x657265687765736c655f64616572
abbrev Nm.take:=au 1701536116
abbrev Nm.starts:=au 0x737472617473
abbrev Nm.A7:=au 495807460714
abbrev Nm.ji:=au 0x686374617263735f736168
abbrev Nm.here:=au 1701995880
abbrev Nm.moves:=au 495623499629
abbrev Nm.tm:=au 0x6f745f74696d65
abbrev Nm.si:=au 0x6b636f6c625f74696d65
abbrev Nm.finished:=au 0x64656873696e6966
abbrev Nm.aq:=au 1718379891
abbrev Nm.ae:=au 0x6e6f697463757274736e69
abbrev Nm.list:=au 1953720684
abbrev Nm.zip:=au 7367034
abbrev Nm.lL:=au 0x53444e415245504f
abbrev Nm.aB:=au 431349919590
abbrev Nm.gf:=au 0x646e617265706f
abbrev Nm.row:=au 7827314
abbrev Nm.fO:=au 12334
abbrev Nm.own:=au 7239535
abbrev Nm.fP:=au 0x73726961705f646e617265706f
abbrev Nm.one:=au 6647407
abbrev Nm.bH:=au 491327616111
abbrev Nm.isinstance:=au 0x65636e6174736e697369
abbrev Nm.bool:=au 1819242338
abbrev Nm.int:=au 7630441
abbrev Nm.so:=au 0x6c6f626d7953
abbrev Nm.Char:=au 1918986307
abbrev Nm.fG:=au 470121996644
abbrev Nm.Text:=au 1954047316
abbrev Nm.tuple:=au 435611006324
abbrev Nm.key:=au 7955819
abbrev Nm.bG:=au 435459026032
abbrev Nm.jz:=au 0x79656b5f746e6174736e6f63
abbrev Nm.iQ:=au 0x746e6174736e6f635f656d6173
abbrev Nm.len:=au 7234924
abbrev Nm.symbol:=au 0x6c6f626d7973
abbrev Nm.at_:=au 29793
abbrev Nm.arg:=au 6779489
abbrev Nm.vN:=au 1280065859
abbrev Nm.yr:=au 1163282759
abbrev Nm.rK:=au 1330925383
abbrev Nm.BRANCH:=au 79453912912450
abbrev Nm.li:=au 0x72657265776f6c
abbrev Nm.eZ:=au 0x6b636f6c42776f4c
abbrev Nm.e7:=au 0x72657265776f4c
abbrev Nm.dw:=au 0x6465736f6c63
abbrev Nm.b7:=au 0x74696e55776f4c
abbrev Nm.C4:=au 1129271888
abbrev Nm.tn:=au 0x64657265746e65
abbrev Nm.lI:=au 0x6b636f6c625f776f6c
abbrev Nm.dX:=au 0x6d6172676f7270
abbrev Nm.nT:=au 0x74696e755f776f6c
abbrev Nm.ku:=au 1802723693
abbrev Nm.dO:=au 0x736e69676562
abbrev Nm.gC:=au 0x666f5f6b73616d
abbrev Nm.jZ:=au 0x73646165725f646e65
abbrev Nm.gE:=au 0x736b636f6c625f646e65
abbrev Nm.without:=au 0x74756f68746977
abbrev Nm.eA:=au 491328398945
abbrev Nm.b8:=au 0x6e6574746972775f737265747369676572
abbrev Nm.fj:=au 0x646165725f737265747369676572
abbrev Nm.hG:=au 0x646e655f74615f6576696c
abbrev Nm.i9:=au 0x64616568615f6576696c
abbrev Nm.dy:=au 0x676e6974696177
abbrev Nm.ahead:=au 431130765409
abbrev Nm.range:=au 435526984050
abbrev Nm.ij:=au 0x64616568615f736b636f6c62
abbrev Nm.iR:=au 0x6e696765625f74615f6576696c
abbrev Nm.others:=au 0x73726568746f
abbrev Nm.oN:=au 0x666f5f73746962
abbrev Nm.apart:=au 500135194721
abbrev Nm.written:=au 0x6e657474697277
abbrev Nm.around:=au 0x646e756f7261
abbrev Nm.nU:=au 0x666f5f736e69676562
abbrev Nm.aK:=au 500135194689
abbrev Nm.kx:=au 0x646e696865625f6576696c
abbrev Nm.uy:=au 0x706f5f747570
abbrev Nm.ve:=au 474214265705
abbrev Nm.qm:=au 0x736568736977
abbrev Nm.taken:=au 474147938676
abbrev Nm.jA:=au 0x736563616c705f6e656b6174
abbrev Nm.ky:=au 0x656572665f747365776f6c
abbrev Nm.qn:=au 0x666f5f7472617061
abbrev Nm.nV:=au 0x666f5f736568736977
abbrev Nm.enumerate:=au 0x65746172656d756e65
abbrev Nm.kz:=au 0x726564726f5f6e65766967
abbrev Nm.jB:=au 0x6563616c705f6e65736f6863
abbrev Nm.max:=au 7889261
abbrev Nm.hH:=au 0x736563616c50
abbrev Nm.i5:=au 0x73746567726174
abbrev Nm.any:=au 7958113
abbrev Nm.gF:=au 0x68637461726373
abbrev Nm.dY:=au 0x776f5265766f4d
abbrev Nm.steps:=au 495806936179
abbrev Nm.step:=au 1885697139
abbrev Nm.cG:=au 0x656c7075745f646563616c70
abbrev Nm.word:=au 1685221239
abbrev Nm.j3:=au 0x776f725f646563616c70
abbrev Nm.lM:=au 0x73706574735f65766f6d
abbrev Nm.iS:=au 0x686374617263735f736465656e
abbrev Nm.later:=au 491328397676
abbrev Nm.nW:=au 0x706f5f646563616c70
abbrev Nm.v5:=au 0x737265626d756e
abbrev Nm.met:=au 7628141
abbrev Nm.e6:=au 495605343596
abbrev Nm.kA:=au 0x74656d6e755f7473726966
abbrev Nm.oO:=au 0x72657474696d65
abbrev Nm.order:=au 491327353455
abbrev Nm.oP:=au 0x72657474696d45
abbrev Nm.wC:=au 0x74756f79616c
abbrev Nm.dP:=au 0x6572756465636f7250
abbrev Nm.ik:=au 0x666f5f6572756465636f7270
abbrev Nm.lJ:=au 0x666f5f736563616c70
abbrev Nm.dh:=au 0x73656c626154
abbrev Nm.lowered:=au 0x64657265776f6c
abbrev Nm.Unit:=au 1953066581
abbrev Nm.b_:=au 1801676132
abbrev Nm.many:=au 2037277037
abbrev Nm.bT:=au 474450194027
abbrev Nm.way:=au 7954807
abbrev Nm.b6:=au 0x776172645f77616c5f
abbrev Nm.jt:=au 1852994932
abbrev Nm.dI:=au 0x6772615f77616c5f
abbrev Nm.ym:=au 7360323
abbrev Nm.dJ:=au 0x746f6c735f77616c5f
abbrev Nm.hJ:=au 0x6b636f6c4243
abbrev Nm.q_:=au 0x706f635f77616c5f
abbrev Nm.first:=au 500153084262
abbrev Nm.dz:=au 499985044803
abbrev Nm.iu:=au 0x6b636f6c625f77616c5f
abbrev Nm.gw:=au 500151962691
abbrev Nm.bz:=au 1684825448
abbrev Nm.repr:=au 1919968626
abbrev Nm.eV:=au 1684828020
abbrev Nm.dD:=au 0x65756c61765f77616c5f
abbrev Nm.qo:=au 1937334647
abbrev Nm.left:=au 1952867692
abbrev Nm.dQ:=au 0x7365756c6176
abbrev Nm.value:=au 435761734006
abbrev Nm.lO:=au 0x6564616d5f77616c5f
abbrev Nm.cX:=au 435610937463
abbrev Nm.fQ:=au 0x687469775f6e75676562
abbrev Nm.qp:=au 0x706574735f77616c5f
abbrev Nm.KeyError:=au 0x726f72724579654b
abbrev Nm.nD:=au 0x747069726373
abbrev Nm.cM:=au 0x74696e755f6e77617264
abbrev Nm.alike:=au 435593768033
abbrev Nm.lP:=au 0x6d6172676f725043
abbrev Nm.qq:=au 0x74696e755f77616c5f
abbrev Nm.tq:=au 0x666f5f74696e75
abbrev Nm.j_:=au 0x6e61725f77616c5f
abbrev Nm.fR:=au 0x6465736f6c635f77616c5f
abbrev Nm.set:=au 7628147
abbrev Nm.wall:=au 465674794847
abbrev Nm.A2:=au 7823724
set_option genCtorIdx true in
inductive NK where|e9|mM|iH|bK
 deriving DecidableEq
structure Cl where
 i_:Fin 18
 deriving DecidableEq
noncomputable abbrev Cl.dP:Cl:=⟨0⟩
noncomputable abbrev Cl.Unit:Cl:=⟨1⟩
noncomputable abbrev Cl.so:Cl:=⟨2⟩
noncomputable abbrev Cl.Char:Cl:=⟨3⟩
noncomputable abbrev Cl.Text:Cl:=⟨4⟩
noncomputable abbrev Cl.eZ:Cl:=⟨5⟩
noncomputable abbrev Cl.b7:Cl:=⟨6⟩
noncomputable abbrev Cl.dh:Cl:=⟨7⟩
noncomputable abbrev Cl.e7:Cl:=⟨8⟩
noncomputable abbrev Cl.aK:Cl:=⟨9⟩
noncomputable abbrev Cl.hH:Cl:=⟨10⟩
noncomputable abbrev Cl.dY:Cl:=⟨11⟩
noncomputable abbrev Cl.oP:Cl:=⟨12⟩
noncomputable abbrev Cl.ym:Cl:=⟨13⟩
noncomputable abbrev Cl.gw:Cl:=⟨14⟩
noncomputable abbrev Cl.hJ:Cl:=⟨15⟩
noncomputable abbrev Cl.dz:Cl:=⟨16⟩
noncomputable abbrev Cl.lP:Cl:=⟨17⟩
structure Fn where
 i_:Fin 92
 deriving DecidableEq
noncomputable abbrev bP (n:Fin 92):Fn:=⟨n⟩
abbrev Fn.wD:=bP 0
abbrev Fn.FX:=bP 1
abbrev Fn.fP:=bP 2
abbrev Fn.fj:=bP 3
abbrev Fn.b8:=bP 4
abbrev Fn.A8:=bP 5
abbrev Fn.FY:=bP 6
abbrev Fn.FZ:=bP 7
abbrev Fn.yt:=bP 8
abbrev Fn.zI:=bP 9
abbrev Fn.nE:=bP 10
abbrev Fn.iQ:=bP 11
abbrev Fn.jz:=bP 12
abbrev Fn.A9:=bP 13
abbrev Fn.jW:=bP 14
abbrev Fn.kY:=bP 15
abbrev Fn.zJ:=bP 16
abbrev Fn.oQ:=bP 17
abbrev Fn.jX:=bP 18
abbrev Fn.iF:=bP 19
abbrev Fn.nX:=bP 20
abbrev Fn.jC:=bP 21
abbrev Fn.lQ:=bP 22
abbrev Fn.nY:=bP 23
abbrev Fn.lR:=bP 24
abbrev Fn.lI:=bP 25
abbrev Fn.tn:=bP 26
abbrev Fn.nT:=bP 27
abbrev Fn.lowered:=bP 28
abbrev Fn.jZ:=bP 29
abbrev Fn.gE:=bP 30
abbrev Fn.gC:=bP 31
abbrev Fn.oN:=bP 32
abbrev Fn.ve:=bP 33
abbrev Fn.without:=bP 34
abbrev Fn.hG:=bP 35
abbrev Fn.i9:=bP 36
abbrev Fn.kx:=bP 37
abbrev Fn.iR:=bP 38
abbrev Fn.nU:=bP 39
abbrev Fn.ij:=bP 40
abbrev Fn.C5:=bP 41
abbrev Fn.yO:=bP 42
abbrev Fn.uy:=bP 43
abbrev Fn.qn:=bP 44
abbrev Fn.kz:=bP 45
abbrev Fn.nV:=bP 46
abbrev Fn.A_:=bP 47
abbrev Fn.jA:=bP 48
abbrev Fn.ky:=bP 49
abbrev Fn.jB:=bP 50
abbrev Fn.lJ:=bP 51
abbrev Fn.zK:=bP 52
abbrev Fn.mQ:=bP 53
abbrev Fn.kZ:=bP 54
abbrev Fn.tu:=bP 55
abbrev Fn.kB:=bP 56
abbrev Fn.jD:=bP 57
abbrev Fn.lM:=bP 58
abbrev Fn.iS:=bP 59
abbrev Fn.j3:=bP 60
abbrev Fn.cG:=bP 61
abbrev Fn.nW:=bP 62
abbrev Fn.zL:=bP 63
abbrev Fn.tv:=bP 64
abbrev Fn.tw:=bP 65
abbrev Fn.pL:=bP 66
abbrev Fn.rQ:=bP 67
abbrev Fn.di:=bP 68
abbrev Fn.iw:=bP 69
abbrev Fn.mS:=bP 70
abbrev Fn.kA:=bP 71
abbrev Fn.wC:=bP 72
abbrev Fn.ik:=bP 73
abbrev Fn.tq:=bP 74
abbrev Fn.Ia:=bP 75
abbrev Fn.C6:=bP 76
abbrev Fn.Ba:=bP 77
abbrev Fn.C7:=bP 78
abbrev Fn.yu:=bP 79
abbrev Fn.b6:=bP 80
abbrev Fn.dI:=bP 81
abbrev Fn.dJ:=bP 82
abbrev Fn.q_:=bP 83
abbrev Fn.iu:=bP 84
abbrev Fn.qq:=bP 85
abbrev Fn.dD:=bP 86
abbrev Fn.lO:=bP 87
abbrev Fn.fR:=bP 88
abbrev Fn.qp:=bP 89
abbrev Fn.j_:=bP 90
abbrev Fn.A2:=bP 91
set_option genCtorIdx true in
inductive Gl where|C4|rK|BRANCH|vN|yr
noncomputable def eF{b:Type}(d:b):List b->Nat->b
 |[],_=>d
 |a::_,0=>a
 |_::r,i+1=>eF d r i
inductive V where
 |none|bool (b:Bool)|int (i:Int)|str (s:Sy)|aF (vs:List V)|ref (a:Nat)
 deriving Inhabited
noncomputable def V.ctorIdx(x:V):Nat:=@V.casesOn (λ_=>Nat) x 0 (λ_=>1) (λ_=>2) (λ_=>3) (λ_=>4) λ_=>5
inductive a0 where
 |list (vs:List V)|ro (vs:List V)|dict (lk:Bool) (bo:List<|Int×V)|dg (bo:List<|(Int×Int)×V)|inst (c:Cl) (fs:List<|IK×V)
noncomputable def a0.ctorIdx(x:a0):Nat:=@a0.casesOn (λ_=>Nat) x (λ_=>0) (λ_=>1) (λ_ _=>2) (λ_=>3) λ_ _=>4
abbrev Hp:=Nat->Option a0
structure St where
 ρ:Vr->Option V
 h:Hp
noncomputable def h9(h:Hp)(a:Nat)(c:a0):Hp:=λb=>if b=a then some c else h b
noncomputable def bX(a:Vr->Option V)(x:Vr)(v:V):Vr->Option V:=λy=>if y=x then some v else a y
set_option genCtorIdx true in
inductive Qc where|add|sub|mul|fdiv|mod|band|bor|bxor|shl|shr
 deriving DecidableEq
set_option genCtorIdx true in
inductive WS where|eq|ne|lt|le|gt|ge|isin|gU|S9|Bb
 deriving DecidableEq
set_option genCtorIdx true in
inductive Sl where|Ib|SO|EK|zM|rev
 deriving DecidableEq
inductive P where
 |ck|bb|emptyDict|ja|wF (i:Int) (b:Bool)|fA (a:Qc)|eW (a:WS)|attr (f:IK)|sub|slice (k:Sl)|operands
 |len|oR|ka|iy|dR|gG|intOf|anyOf|ke|max2|repr|isBool|isInt|pM (c:Cl)
 |append|extend|pop|nZ
noncomputable def P.ctorIdx(x:P):Nat:=P.casesOn (motive:=λ_=>Nat) x 0 1 2 3 (λ_ _=>4) (λ_=>5) (λ_=>6) (λ_=>7) 8 (λ_=>9) 10 11 12 13 14 15 16 17 18 19 20 21 22 23 (λ_=>24) 25 26 27 28
inductive Tg where|one (x:Vr)|many (xs:List Vr)
set_option genCtorIdx true in
inductive CV where|it|range|zip|uz
mutual
inductive E where
 |hD (v:V)|fS (g:Gl)|ai (x:Vr)|ay (i:P) (es:Es)|lS (gm:Bool) (es:Es)|ite (c:B) (n e:E)
 |comp (jv:E) (tg:Tg) (k:CV) (src:Es) (cond:B) (sc:List<|Vr×NK)|call (f:Fn) (es:Es)|new (c:Cl) (es:Es)|cz (h:E) (j:IK) (es:Es)|jE (a b:E)|iT (i:P) (h:E) (es:Es)
inductive Es where|nil|cons (e:E) (es:Es)
inductive B where|tt|e (x:E)|not (b:B)|op (gm:Bool) (bs:Ix)
inductive Ix where|nil|cons (b:B) (bs:Ix)
end
mutual
inductive S where
 |expr (e:E)|ret (e:E)|d_ (x:Vr) (e:E)|unpack (xs:List Vr) (e:E)|ar (g:E) (f:IK) (e:E)
 |lT (o1:E) (f1:IK) (o2:E) (f2:IK) (e:E)|bR (g i e:E)|ifs (c:B) (a e:Ss)|iI (c:B) (b:Ss)
 |du (tg:Tg) (k:CV) (src:Es) (b:Ss)|zN (b:Ss)
inductive Ss where|nil|cons (s:S) (ss:Ss)
end
def SP:Gl->V
 |.C4=>.str .aD
 |.rK=>.str .dj
 |.BRANCH=>.str .branch
 |.vN=>.str .call
 |.yr=>.str .cU
def uI(c:Cl):Option Fn:=eF none [some .wD,some .FX,some .A8,some .FY,some .FZ,some .yt,some .zI,some .A9,some .zJ,some .C5,some .A_,some .zK,some .zL,some .Ia,some .C6,some .Ba,some .C7,some .yu] c.i_.val
def EL(c:Cl):List<|IK×Fn:=eF [] [
 [],[],[],[],[],[],[(.fresh,.nE)],[(.jx,.jW),(.lh,.kY)],[(.emit,.oQ),(.nB,.jX),(.jy,.iF),(.aa,.nX),(.bi,.jC),(.dv,.lQ),(.th,.nY),(.sf,.lR)],[(.put,.yO)],[],[(.ux,.mQ),(.ql,.kZ),(.take,.tu),(.oL,.kB),(.lK,.jD)],[(.here,.tv),(.emit,.tw),(.tm,.pL),(.moves,.rQ),(.si,.di),(.finished,.iw),(.bi,.mS)],[],[],[],[],[]] c.i_.val
def qr(c:Cl)(m:IK):Option Fn:=(EL c).lookup m
def Bc:List IK:=[.ax,.kr,.bA,.fF,.ba,.bi,.free,.ak,.cC,.bE,.globals,.fh,.text,.code,.codes,.mark,.params,.ao,.cW,.ah,.aj,.bJ,.se,.dW,.fN,.bO,.cD,.ab,.frees,.fresh,.emit,.jx,.nB,.jy,.aa,.op,.dv,.bL,.data,.lh,.args,.aH,.head,.k,.th,.sf,.last,.rest,.lH,.name,.qj,.az,.units,.iP,.put,.of,.aQ,.ux,.ql,.oL,.lK,.take,.starts,.A7,.ji,.here,.moves,.tm,.si,.finished]
def i6(c:Cl)(m:IK):Bool:=(qr c m).isNone&&Bc.contains m
def Be:List<|Sy×List V:=[(.hD,[.str .dv,.str .constant]),(.move,[.str .dv,.str .cB]),(.global,[.str .dv,.str .global]),(.eN,[.str .global,.str .cB]),(.jw,[.str .global,.str .cB]),(.free,[.str .dv,.str .free]),(.closure,[.str .dv,.str .q8,.str .aQ]),(.fix,[.str .rows]),(.ay,[.str .dv,.str .q9,.str .aQ]),(.zH,[.str .label]),(.fE,[.str .cB,.str .label]),(.call,[.str .cB,.str .cB,.str .aQ]),(.cU,[.str .cB,.str .aQ])]
def oS(s:Sy):Option<|List V:=Be.lookup s
def Bf(f:Fn):Option Vr:=eF none [none,none,some .fP,some .fj,some .b8,none,none,none,none,none,none,some .iQ,some .jz,none,none,none,none,none,none,none,none,none,none,none,none,some .lI,some .tn,some .nT,some .lowered,some .jZ,some .gE,some .gC,some .oN,some .ve,some .without,some .hG,some .i9,some .kx,some .iR,some .nU,some .ij,none,none,some .uy,some .qn,some .kz,some .nV,none,some .jA,some .ky,some .jB,some .lJ,none,none,none,none,none,none,some .lM,some .iS,some .j3,some .cG,some .nW,none,none,none,none,none,none,none,none,some .kA,some .wC,some .ik,some .tq,none,none,none,none,none,some .b6,some .dI,some .dJ,some .q_,some .iu,some .qq,some .dD,some .lO,some .fR,some .qp,some .j_,some .A2] f.i_.val
def yv(c:Cl):Vr:=eF .aq [.dP,.Unit,.so,.Char,.Text,.eZ,.b7,.dh,.e7,.aK,.hH,.dY,.oP,.ym,.gw,.hJ,.dz,.lP] c.i_.val
def F0:Gl->Vr
 |.C4=>.C4
 |.rK=>.rK
 |.BRANCH=>.BRANCH
 |.vN=>.vN
 |.yr=>.yr
noncomputable def H':Nat:=92
noncomputable def H7:Nat:=18
noncomputable def Ic:List Gl:=[.C4,.rK,.BRANCH,.vN,.yr]
inductive R where
 |val (v:V)|new (c:a0)|upd (a:Nat) (c:a0) (v:V)
noncomputable def R.ctorIdx(x:R):Nat:=R.casesOn (motive:=λ_=>Nat) x (λ_=>0) (λ_=>1) λ_ _ _=>2
def nF(r:R)(Q:V->St->Prop)(s:St):Prop:=match r with
 |.val v=>Q v s
 |.new c=>∀a,s.h a=none->Q (.ref a) ⟨s.ρ,h9 s.h a c⟩
 |.upd a c v=>Q v ⟨s.ρ,h9 s.h a c⟩
noncomputable def fi(n:Nat):Bool:=decide (n<1000000)
noncomputable def Dh(o:Qc)(i j:Int):Option R:=match o with
 |.add=>some<|.val<|.int<|i+j
 |.sub=>some<|.val<|.int<|i-j
 |.mul=>if decide (-1000000<i)&&decide (i<1000000)&&decide (-1000000<j)&&decide (j<1000000) then some (.val<|.int<|i*j) else none
 |.fdiv=>if decide (0<j)&&decide (j<1000000) then some (.val<|.int<|i/j) else none
 |.mod=>if decide (0<j) then some (.val<|.int<|i%j) else none
 |.band=>if decide (0<=i)&&decide (0<=j) then some (.val<|.int (i.toNat&&&j.toNat:Nat)) else none
 |.bor=>if decide (0<=i)&&decide (0<=j) then some (.val<|.int (i.toNat|||j.toNat:Nat)) else none
 |.bxor=>if decide (0<=i)&&decide (0<=j) then some (.val<|.int (i.toNat^^^j.toNat:Nat)) else none
 |.shl=>if decide (i=1)&&decide (0<=j)&&decide (j<10000) then some (.val<|.int (2^j.toNat:Nat)) else none
 |.shr=>if decide (0<=i)&&decide (0<=j)&&decide (j<10000) then some (.val<|.int (i.toNat>>>j.toNat:Nat)) else none
noncomputable def a0.xs:a0->Option (List V)
 |.list xs=>some xs
 |_=>none
noncomputable def a0.bo:a0->Option (List<|Int×V)
 |.dict _ bo=>some bo
 |_=>none
def f8(h:Hp)(a:Nat):Option<|List V:=(h a).bind a0.xs
noncomputable def V.lj:V->Option Int
 |.int i=>some i
 |_=>Option.none
noncomputable def V.C8:V->Option (List V)
 |.aF a=>some a
 |_=>Option.none
noncomputable def V.vO:V->Option Nat
 |.ref a=>some a
 |_=>Option.none
def mT(v:V)(h:Hp):Option<|List V:=v.vO.bind<|f8 h
noncomputable def V.O1:V->Option Bool
 |.bool b=>some b
 |_=>Option.none
noncomputable def V.Qd:V->Option Sy
 |.str s=>some s
 |_=>Option.none
noncomputable def V.wG:V->Option Bool
 |.bool _=>some true
 |.int _=>some false
 |_=>Option.none
noncomputable def one{a:Type}(b:List V)(f:V->Option a):Option a:=match b with
 |[]=>none
 |v::r=>(match r with
  |[]=>f v
  |_::_=>none)
def wE{a:Type}(b:List V)(f:V->V->Option a):Option a:=match b with
 |[]=>none
 |v::r=>one r<|f v
def O2(o:Qc)(a:Nat)(w:V)(h:Hp):Option R:=match o with
 |.add=>(match w with
  |.ref b=>(f8 h a).bind λd=>(f8 h b).bind λc=>if fi (d.length+c.length) then some (.new<|.list<|d++c) else none
  |_=>none)
 |.mul=>(match w with
  |.int n=>(f8 h a).bind λd=>(match d with
   |[x]=>if decide (0<=n)&&decide (n<1000000) then some (.new<|.list<|List.replicate n.toNat x) else none
   |_=>none)
  |_=>none)
 |_=>none
def O3(o:Qc)(b a:List V):Option R:=match o with
 |.add=>if fi (b.length+a.length) then some (.val<|.aF<|b++a) else none
 |_=>none
def wv(o:Qc)(v w:V)(h:Hp):Option R:=match v with
 |.int i=>(match w with
  |.int j=>Dh o i j
  |_=>none)
 |.aF c=>(match w with
  |.aF b=>O3 o c b
  |_=>none)
 |.ref a=>O2 o a w h
 |_=>none
noncomputable def V.flat:V->Bool
 |.none|.bool _|.int _|.str _=>true
 |_=>false
noncomputable def V.num:V->Option Int
 |.bool b=>some (if b then 1 else 0)
 |.int i=>some i
 |_=>Option.none
noncomputable def V.isNone:V->Bool
 |.none=>true
 |_=>false
def O4(i:Int)(w:V):Bool:=(w.num.map λj=>decide (i=j)).getD false
def cZ(v w:V):Bool:=match v with
 |.none=>w.isNone
 |.bool b=>O4 (if b then 1 else 0) w
 |.int i=>O4 i w
 |.str s=>(w.Qd.map λt=>decide (s=t)).getD false
 |_=>false
inductive D where
 |none|bool (b:Bool)|int (i:Int)|str (s:Sy)|aF (ds:List D)|list (ds:List D)
 deriving Inhabited
mutual
inductive ga(h:Hp):V->D->Prop where
 |none:ga h .none .none
 |bool (b:Bool):ga h (.bool b) (.bool b)
 |int (i:Int):ga h (.int i) (.int i)
 |str (s:Sy):ga h (.str s) (.str s)
 |aF {vs:List V} {ds:List D} (x:fY h vs ds):ga h (.aF vs) (.aF ds)
 |list {a:Nat} {vs:List V} {ds:List D} (e:h a=some (.list vs)) (x:fY h vs ds):ga h (.ref a) (.list ds)
inductive fY(h:Hp):List V->List D->Prop where
 |nil:fY h [] []
 |cons {v:V} {a:D} {vs:List V} {ds:List D} (x:ga h v a) (b:fY h vs ds):fY h (v::vs) (a::ds)
end
mutual
noncomputable def D.depth:D->Nat
 |.aF a=>jb a+1
 |.list a=>jb a+1
 |_=>0
noncomputable def jb:List D->Nat
 |[]=>0
 |d::a=>max d.depth (jb a)
end
def dL(a:List V):Bool:=a.all V.flat
def Ie(v w:V):Option Bool:=if (v.flat&&w.flat) then some (cZ v w) else none
def FO(c d:a0):Option Bool:=match c with
 |.list b=>d.xs.bind λa=>if b.length≠a.length then some false else if (dL b&&dL a) then some ((b.zip a).all λp=>cZ p.1 p.2) else none
 |.dict _ b=>d.bo.bind λa=>if a.isEmpty then some b.isEmpty else none
 |_=>none
def zO(v w:V)(h:Hp):Option Bool:=match v with
 |.ref a=>w.vO.bind λb=>(h a).bind λc=>(h b).bind<|FO c
 |v=>Ie v w
def S_(a:List V):Option<|Int×Int:=match a with
 |[]=>none
 |v::r=>(match r with
  |[]=>none
  |w::q=>(match q with
   |[]=>v.lj.bind λi=>w.lj.bind λj=>some (i,j)
   |_::_=>none))
def t0:V->Option (Int×Int)
 |.aF a=>S_ a
 |_=>none
def Ig(v:V)(a:List V):Option Bool:=if (v.flat&&dL a) then some (a.any λy=>cZ y v) else none
def Y3(v:V)(c:a0):Option Bool:=match c with
 |.list a=>Ig v a
 |.dict _ b=>v.lj.map λi=>(b.lookup i).isSome
 |.dg b=>(t0 v).map λk=>(b.lookup k).isSome
 |_=>none
def zP(v w:V)(h:Hp):Option Bool:=match w with
 |.aF b=>Ig v b
 |.ref a=>(h a).bind<|Y3 v
 |_=>none
def EU(v w:V)(f:Int->Int->Bool):Option Bool:=v.lj.bind λi=>w.lj.map λj=>f i j
def EM(o:WS)(v w:V)(h:Hp):Option Bool:=match o with
 |.eq=>zO v w h
 |.ne=>(zO v w h).map not
 |.isin=>zP v w h
 |.gU=>(zP v w h).map not
 |.S9=>if w.isNone then some v.isNone else none
 |.Bb=>if w.isNone then some (!v.isNone) else none
 |.lt=>EU v w λi j=>decide (i<j)
 |.le=>EU v w λi j=>decide (i<=j)
 |.gt=>EU v w λi j=>decide (j<i)
 |.ge=>EU v w λi j=>decide (j<=i)
noncomputable def sv(v:V)(f:IK)(h:Hp):Option V:=match v with
 |.ref a=>(match h a with|some (.inst _ b)=>b.lookup f|_=>none)
 |_=>none
def WT(i:V):a0->Option V
 |.list a=>i.lj.bind λi=>if 0<=i then a[i.toNat]?else none
 |.dict _ b=>i.lj.bind λi=>b.lookup i
 |.dg b=>(t0 i).bind λk=>b.lookup k
 |_=>none
def zn(v i:V)(h:Hp):Option V:=match v with
 |.aF b=>i.lj.bind λi=>if 0<=i then b[i.toNat]?else none
 |.ref a=>(h a).bind<|WT i
 |_=>none
def pp(k:Sl)(v:V)(h:Hp):Option R:=match k with
 |.EK=>v.C8.bind λa=>if a.isEmpty then none else some<|.val<|.aF<|a.drop 1
 |.zM=>v.C8.bind λa=>if a.isEmpty then none else some<|.val<|.aF<|a.take<|a.length-1
 |.Ib=>(mT v h).map λa=>.new<|.list<|a.take 60
 |.SO=>(mT v h).map λa=>.new<|.list<|a.take 1
 |.rev=>(mT v h).map λa=>.new<|.list a.reverse
def jj(v:V)(h:Hp):Option<|List V:=match v with
 |.aF b=>some b
 |.ref a=>f8 h a
 |_=>none
def mI(v:V)(h:Hp):Option Nat:=(jj v h).map List.length
noncomputable def C9(a:Nat):a0->Option (List V×List (Nat×a0))
 |.list b=>some (b,[(a,.list b)])
 |.ro b=>some (b,[(a,.ro b)])
 |.dict _ c=>some (c.map λp=>.int p.1,[(a,.dict true c)])
 |_=>none
def bm(v:V)(h:Hp):Option<|List V×List (Nat×a0):=match v with
 |.aF b=>some (b,[])
 |.ref a=>(h a).bind<|C9 a
 |_=>none
noncomputable def bY(n:Int):List V:=(List.range n.toNat).map λ(i:Nat)=>.int i
noncomputable def fk(i:Nat):List V->List V
 |[]=>[]
 |v::a=>.aF [.int i,v]::fk (i+1) a
noncomputable def bn(b a:List V):List V:=(b.zip a).map λp=>.aF [p.1,p.2]
noncomputable def kg(v:V)(b:List V):List<|Nat×a0:=match v with
 |.ref a=>[(a,.list b)]
 |_=>[]
def gO(k:CV)(b:List V)(h:Hp):Option<|List V×List (Nat×a0):=match k with
 |.it=>one b λv=>bm v h
 |.range=>one b λv=>v.lj.bind λn=>if decide (0<=n)&&decide (n<1000000) then some (bY n,[]) else none
 |.zip=>wE b λv w=>(jj v h).bind λd=>(jj w h).map λc=>(bn d c,kg v d++kg w c)
 |.uz=>one b λv=>v.vO.bind λa=>(f8 h a).map λd=>(fk 0 d,[(a,.list d)])
noncomputable def Bg(a:Nat):a0->Option (Nat×List (Int×V))
 |.dict lk b=>if lk=true then none else some (a,b)
 |_=>none
def a9(k:CV)(b:List V)(h:Hp):Option<|Nat×List (Int×V):=match k with
 |.it=>one b λv=>v.vO.bind λa=>(h a).bind<|Bg a
 |.range=>none
 |.zip=>none
 |.uz=>none
def dK(l:Option<|Nat×List (Int×V))(lk:Bool)(h:Hp):Hp:=match l with
 |some (a,b)=>h9 h a<|.dict lk b
 |none=>h
def ch(c:List<|Nat×a0)(h:Hp):Prop:=∀p∈c,h p.1=some p.2
noncomputable def aE{a b:Type}[DecidableEq a](k:a)(v:b):List (a×b)->List (a×b)
 |[]=>[(k,v)]
 |(c,d)::r=>if c=k then(c,v)::r else(c,d)::aE k v r
noncomputable def co{a b:Type}[DecidableEq a](k:a):List (a×b)->List (a×b)
 |[]=>[]
 |(c,d)::r=>if c=k then r else(c,d)::co k r
def E'(i x:V):a0->Option a0
 |.list a=>i.lj.bind λi=>if decide (0<=i)&&decide (i<a.length) then some (.list<|a.set i.toNat x) else none
 |.dict lk b=>if lk=true then none else i.lj.bind λi=>if fi b.length then some (.dict false<|aE i x b) else none
 |.dg b=>(t0 i).bind λk=>if fi b.length then some (.dg<|aE k x b) else none
 |_=>none
def nn(v i x:V)(h:Hp):Option<|Nat×a0:=match v with
 |.ref a=>(h a).bind λc=>(E' i x c).map λc=>(a,c)
 |_=>none
def h6(v:V)(f:IK)(x:V)(h:Hp):Option<|Nat×a0:=match v with
 |.ref a=>(match h a with|some (.inst c b)=>if i6 c f then some (a,.inst c<|aE f x b) else none|_=>none)
 |_=>none
def ec(v:V):Option Sy:=match v with
 |.bool true=>some .True
 |.bool false=>some .False
 |.int i=>if i=0 then some .n0 else if i=1 then some .n1 else if i=2 then some .n2 else none
 |_=>none
def nG:List V->Bool
 |[]=>true
 |v::r=> !(r.any<|cZ v)&&nG r
noncomputable def V.Qe:V->Bool
 |.int _=>true
 |_=>false
noncomputable def V.Qg:V->Bool
 |.str _=>true
 |_=>false
noncomputable def pi:List (Int×V)->Option Int
 |[]=>none
 |[(k,_)]=>some k
 |(k,_)::r=>(pi r).map λm=>if k<m then m else k
noncomputable def rn(v:V)(h:Hp):Option Bool:=match v with
 |.none=>some false
 |.bool b=>some b
 |.int i=>some<|decide (i≠0)
 |.str _=>none
 |.aF c=>some<|!c.isEmpty
 |.ref a=>(match h a with|some (.list c)=>some (!c.isEmpty)|_=>none)
noncomputable def uA:V->Option Bool
 |.bool b=>some b
 |_=>none
def WU(a:Nat)(i:Int):a0->Option R
 |.list b=>(match b with
  |[]=>none
  |x::r=>if i=0 then some (.upd a (.list r) x) else none)
 |.dict lk c=>if lk=true then none else(c.lookup i).map λx=>.upd a (.dict false<|co i c) x
 |_=>none
def ay(p:P)(d:List V)(h:Hp):Option R:=match p with
 |.ck=>if fi d.length then some (.val<|.aF d) else none
 |.bb=>if fi d.length then some (.new<|.list d) else none
 |.emptyDict=>if d.isEmpty then some (.new<|.dict false []) else none
 |.ja=>if d.isEmpty then some (.new<|.dg []) else none
 |.wF i b=>if d.isEmpty then some (.new<|.dict false [(i,.bool b)]) else none
 |.fA o=>wE d λv w=>wv o v w h
 |.eW o=>wE d λv w=>(EM o v w h).map λb=>.val<|.bool b
 |.attr f=>one d λv=>(sv v f h).map .val
 |.sub=>wE d λv i=>(zn v i h).map .val
 |.slice k=>one d λv=>pp k v h
 |.operands=>one d λv=>v.Qd.bind λs=>(oS s).map λd=>.val<|.aF d
 |.len=>one d λv=>(mI v h).map λ(n:Nat)=>.val<|.int n
 |.oR=>one d λv=>(mT v h).bind λd=>if (d.all V.Qe||d.all V.Qg)&&nG d&&decide (d.length<4000) then some (.val<|.int d.length) else none
 |.ka=>wE d λv w=>(jj v h).bind λl=>(jj w h).map λg=>.new<|.list<|bn l g
 |.iy=>one d λv=>v.lj.bind λn=>if decide (0<=n)&&decide (n<1000000) then some (.new<|.list<|bY n) else none
 |.dR=>one d λv=>(bm v h).map λx=>.new<|.list x.1
 |.gG=>one d λv=>(mT v h).map λd=>.val<|.aF d
 |.intOf=>one d λv=>v.O1.map λb=>.val<|.int<|if b then 1 else 0
 |.anyOf=>one d λv=>(mT v h).bind λd=>(d.mapM uA).map λe=>.val<|.bool<|e.any id
 |.ke=>one d λv=>v.vO.bind λa=>(h a).bind λc=>c.bo.bind λm=>(pi m).map λi=>.val<|.int i
 |.max2=>wE d λv w=>v.lj.bind λi=>w.lj.map λj=>.val<|.int<|if i<j then j else i
 |.repr=>one d λv=>(ec v).map λs=>.val<|.str s
 |.isBool=>one d λv=>v.wG.map λb=>.val<|.bool b
 |.isInt=>one d λv=>v.wG.map λ_=>.val<|.bool true
 |.pM _=>none
 |.append=>wE d λo v=>o.vO.bind λa=>(f8 h a).bind λd=>if fi d.length then some (.upd a (.list<|d++[v]) .none) else none
 |.extend=>wE d λo v=>o.vO.bind λa=>(f8 h a).bind λd=>(jj v h).bind λl=>if fi (d.length+l.length) then some (.upd a (.list<|d++l) .none) else none
 |.pop=>one d λo=>o.vO.bind λa=>(f8 h a).bind λd=>d.getLast?.map λx=>.upd a (.list d.dropLast) x
 |.nZ=>wE d λo i=>o.vO.bind λa=>i.lj.bind λi=>(h a).bind<|WU a i
noncomputable def Ih:a0->Option Bool
 |.list _=>some false
 |.dict _ _=>some true
 |_=>none
def n9(v:V)(h:Hp):Option Bool:=v.vO.bind λa=>(h a).bind Ih
noncomputable def F3(p:P)(k:Bool):Bool:=match p with
 |.nZ=>true
 |_=> !k
inductive Fl where
 |next|ret (v:V)
def dA(t:Tg)(v:V)(a:Vr->Option V):Option<|Vr->Option V:=match t with
 |.one x=>some<|bX a x v
 |.many c=>v.C8.bind λb=>if c.length=b.length then some ((c.zip b).foldl (λa p=>bX a p.1 p.2) a) else none
noncomputable def Tg.names:Tg->List Vr
 |.one x=>[x]
 |.many a=>a
def gW(t:Tg)(a:Vr->Option V):Vr->Option V:=λy=>if t.names.contains y||decide (y=.fO) then none else a y
def kC(c:List<|Nat×a0)(h:V->(Vr->Option V)->Option (Vr->Option V))(g:(Bool->St->Prop)->St->Prop)(d:(V->St->Prop)->St->Prop)
 (Q:List V->St->Prop):List V->List V->St->Prop
 |[],a,s=>ch c s.h/\Q a s
 |x::f,a,s=>ch c s.h/\∃e,h x s.ρ=some e/\g (λb s=>if b then d (λv s=>kC c h g d Q f (a++[v]) s) s else kC c h g d Q f a s) ⟨e,s.h⟩
def mA(c:List<|Nat×a0)(f:V->(Vr->Option V)->Option (Vr->Option V))(a:(Fl->St->Prop)->St->Prop)(Q:Fl->St->Prop):List V->St->Prop
 |[],s=>ch c s.h/\Q .next s
 |x::e,s=>ch c s.h/\∃b,f x s.ρ=some b/\a (λd s=>match d with|.next=>mA c f a Q e s|.ret v=>ch c s.h/\Q (.ret v) s) ⟨b,s.h⟩
def uB(c:(Bool->St->Prop)->St->Prop)(a:(Fl->St->Prop)->St->Prop)(Q:Fl->St->Prop):Nat->St->Prop
 |0,_=>False
 |n+1,s=>c (λb s=>if b then a (λd s=>match d with|.next=>uB c a Q n s|.ret v=>Q (.ret v) s) s else Q .next s) s
abbrev Sp:=Fn->List V->(V->Hp->Prop)->Hp->Prop
def pN(T:Sp)(f:Fn)(a:List V)(Q:V->St->Prop)(s:St):Prop:=T f a (λv h=>Q v ⟨s.ρ,h⟩) s.h
def Mz(T:Sp)(c:Cl)(b:List V)(Q:V->St->Prop)(s:St):Prop:=
 ∃f,uI c=some f/\∀a,s.h a=none->T f (.ref a::b) (λv h=>v=.none/\Q (.ref a) ⟨s.ρ,h⟩) (h9 s.h a<|.inst c [])
def O5(m:IK)(o:V)(h:Hp)(k:Fn->Prop):Prop:=∃a c b f,o=.ref a/\h a=some (.inst c b)/\qr c m=some f/\k f
mutual
def gg(T:Sp):E->(V->St->Prop)->St->Prop
 |.hD v,Q,s=>Q v s
 |.fS g,Q,s=>Q (SP g) s
 |.ai x,Q,s=>∃v,s.ρ x=some v/\Q v s
 |.ay p h,Q,s=>ju T h (λd s=>∃r,ay p d s.h=some r/\nF r Q s) s
 |.lS b h,Q,s=>Ii T b h Q s
 |.ite c t e,Q,s=>qh T c (λb s=>if b then gg T t Q s else gg T e Q s) s
 |.comp q n k z y _,Q,s=>ju T z (λd s=>∃u c,gO k d s.h=some (u,c)/\
  kC c (dA n) (qh T y) (gg T q) (λj l=>∀a,l.h a=none->Q (.ref a) ⟨s.ρ,h9 (dK (a9 k d s.h) false l.h) a<|.list j⟩) u [] ⟨gW n s.ρ,dK (a9 k d s.h) true s.h⟩) s
 |.call f h,Q,s=>ju T h (λd s=>pN T f d Q s) s
 |.new c h,Q,s=>ju T h (λd s=>Mz T c d Q s) s
 |.jE a b,Q,s=>gg T a (λv s=>gg T b (λw s=>(∃i,ga s.h v (.list i)/\ga s.h w (.list i)/\jb i<=500)/\Q (.bool false) s) s) s
 |.iT p o h,Q,s=>gg T o (λv s=>∃k,(n9 v s.h=some k/\F3 p k)/\ju T h (λd s=>n9 v s.h=some k/\∃r,ay p (v::d) s.h=some r/\nF r Q s) s) s
 |.cz o m h,Q,s=>gg T o (λv s=>O5 m v s.h λf=>ju T h (λd s=>pN T f (v::d) Q s) s) s
def ju(T:Sp):Es->(List V->St->Prop)->St->Prop
 |.nil,Q,s=>Q [] s
 |.cons e a,Q,s=>gg T e (λv s=>ju T a (λb s=>Q (v::b) s) s) s
def Ii(T:Sp)(a:Bool):Es->(V->St->Prop)->St->Prop
 |.nil,_,_=>False
 |.cons e .nil,Q,s=>gg T e Q s
 |.cons e (.cons b c),Q,s=>gg T e (λv s=>∃t,rn v s.h=some t/\(if t=a then Ii T a (.cons b c) Q s else Q v s)) s
def qh(T:Sp):B->(Bool->St->Prop)->St->Prop
 |.tt,Q,s=>Q true s
 |.e x,Q,s=>gg T x (λv s=>∃b,rn v s.h=some b/\Q b s) s
 |.not b,Q,s=>qh T b (λt s=>Q (!t) s) s
 |.op c a,Q,s=>Bh T c a Q s
def Bh(T:Sp)(a:Bool):Ix->(Bool->St->Prop)->St->Prop
 |.nil,Q,s=>Q a s
 |.cons b c,Q,s=>qh T b (λt s=>if t=a then Bh T a c Q s else Q t s) s
end
mutual
def u8(T:Sp):S->(Fl->St->Prop)->St->Prop
 |.expr e,Q,s=>gg T e (λv s=>v.flat=true/\Q .next s) s
 |.ret e,Q,s=>gg T e (λv s=>Q (.ret v) s) s
 |.d_ x e,Q,s=>gg T e (λv s=>Q .next ⟨bX s.ρ x v,s.h⟩) s
 |.unpack A e,Q,s=>gg T e (λv s=>∃h,dA (.many A) v s.ρ=some h/\Q .next ⟨h,s.h⟩) s
 |.ar o f e,Q,s=>gg T e (λv s=>gg T o (λd s=>∃a c,h6 d f v s.h=some (a,c)/\Q .next ⟨s.ρ,h9 s.h a c⟩) s) s
 |.lT w p y q e,Q,s=>gg T e (λv s=>∃l m,v=.aF [l,m]/\
  gg T w (λd s=>∃a c,h6 d p l s.h=some (a,c)/\
   gg T y (λd s=>∃a c,h6 d q m s.h=some (a,c)/\Q .next ⟨s.ρ,h9 s.h a c⟩) ⟨s.ρ,h9 s.h a c⟩) s) s
 |.bR o i e,Q,s=>gg T e (λv s=>gg T o (λd s=>gg T i (λu s=>∃a c,nn d u v s.h=some (a,c)/\Q .next ⟨s.ρ,h9 s.h a c⟩) s) s) s
 |.ifs c t e,Q,s=>qh T c (λb s=>if b then gp T t Q s else gp T e Q s) s
 |.iI c b,Q,s=>∃n,uB (qh T c) (gp T b) Q n s
 |.du z k B b,Q,s=>ju T B (λg s=>∃A c,gO k g s.h=some (A,c)/\mA c (dA z) (gp T b) (λr j=>Q r ⟨j.ρ,dK (a9 k g s.h) false j.h⟩) A ⟨s.ρ,dK (a9 k g s.h) true s.h⟩) s
 |.zN b,Q,s=>gp T b Q s
def gp(T:Sp):Ss->(Fl->St->Prop)->St->Prop
 |.nil,Q,s=>Q .next s
 |.cons x r,Q,s=>u8 T x (λa s=>match a with|.next=>gp T r Q s|.ret v=>Q (.ret v) s) s
end
def iU:List Vr->List V->(Vr->Option V)->(Vr->Option V)
 |x::c,v::b,a=>iU c b<|bX a x v
 |_,_,a=>a
noncomputable abbrev dq (a:E):Es:=(.cons a .nil)
noncomputable abbrev wH (a b:E):Es:=(.cons a<|.cons b .nil)
noncomputable abbrev Wd (a b c:E):Es:=(.cons a<|.cons b<|.cons c .nil)
noncomputable abbrev Bi (a b c d:E):Es:=(.cons a<|.cons b<|.cons c<|.cons d .nil)
noncomputable abbrev Qh (a b c d e:E):Es:=(.cons a<|.cons b<|.cons c<|.cons d<|.cons e .nil)
noncomputable abbrev HY (a b c d e f:E):Es:=(.cons a<|.cons b<|.cons c<|.cons d<|.cons e<|.cons f .nil)
noncomputable abbrev H1 (a b c d e f g:E):Es:=(.cons a<|.cons b<|.cons c<|.cons d<|.cons e<|.cons f<|.cons g .nil)
noncomputable abbrev FM (a b c d e f g h:E):Es:=(.cons a<|.cons b<|.cons c<|.cons d<|.cons e<|.cons f<|.cons g<|.cons h .nil)
noncomputable abbrev e_ (p:P) (a:E):E:=.ay p<|.cons a .nil
noncomputable abbrev b9 (p:P) (a b:E):E:=.ay p<|.cons a<|.cons b .nil
noncomputable abbrev uC (p:P) (a b c:E):E:=.ay p<|.cons a<|.cons b<|.cons c .nil
noncomputable abbrev sq (f:Fn) (a:E):E:=.call f<|.cons a .nil
noncomputable abbrev iG (f:Fn) (a b:E):E:=.call f<|.cons a<|.cons b .nil
noncomputable abbrev Ij (f:Fn) (a b c:E):E:=.call f<|.cons a<|.cons b<|.cons c .nil
noncomputable abbrev SQ (f:Fn) (a b c d:E):E:=.call f<|.cons a<|.cons b<|.cons c<|.cons d .nil
noncomputable abbrev bM (a b:E):E:=.ay .sub<|.cons a<|.cons b .nil
noncomputable abbrev a8 (a:E) (f:IK):E:=.ay (.attr f)<|.cons a .nil
noncomputable abbrev cI (i:Int):E:=.hD<|.int i
noncomputable abbrev cS (s:Sy):E:=.hD<|.str s
noncomputable abbrev iz (a b:E):B:=.e<|.ay (.eW .eq)<|.cons a<|.cons b .nil
noncomputable abbrev rR (a b:E):S:=.expr<|.iT .append a<|.cons b .nil
noncomputable abbrev sC (a:S) (b:Ss):Ss:=.cons a b
noncomputable abbrev sN (a:S):Ss:=.cons a .nil
noncomputable abbrev lC (b:List Vr):List<|Vr×NK:=b.map λx=>(x,.e9)
abbrev lD (b:List Vr) (r:List<|Vr×NK):List<|Vr×NK:=List.append (lC b) r
def og:Ss:=
 (sC (.ar (.ai .aq) .ax<|.ai .ax)
 (sC (.ar (.ai .aq) .kr<|.ai .kr)
 (sC (.ar (.ai .aq) .bA<|.ai .bA)
 (sC (.ar (.ai .aq) .fF<|.ai .fF)
 (sC (.ar (.ai .aq) .ba<|.ai .ba)
 (sC (.ar (.ai .aq) .bi<|.ai .bi)
 (sC (.ar (.ai .aq) .free<|.ai .free)
 (sN<|.ar (.ai .aq) .ak<|.ai .ak))))))))
def vg:Ss:=
 (sC (.ar (.ai .aq) .cC<|.ai .cC)
 (sC (.ar (.ai .aq) .bE<|.ai .bE)
 (sC (.ar (.ai .aq) .globals<|.ai .dW)
 (sN<|.ar (.ai .aq) .fh<|.ai .fh))))
def i7:Ss:=
 (sN<|.ret<|b9 .ka (e_ .operands<|bM (.ai .ae)<|cI 0)<|e_ (.slice .EK)<|.ai .ae)
def iA:Ss:=
 (sC (.d_ .aB<|.ay .bb .nil)
 (sC (.du (.many [.aH,.gf]) .it (dq<|sq .fP<|.ai .ae)
  (sN<|.ifs (iz (.ai .aH)<|cS .cB)
   (sN<|rR (.ai .aB)<|.ai .gf)
   (sN<|.ifs (iz (.ai .aH)<|cS .aQ)
    (sN<|.expr<|.iT .extend (.ai .aB)<|dq<|.ai .gf)
    (sN<|.ifs (iz (.ai .aH)<|cS .rows)
     (sC (.d_ .own<|.comp (bM (.ai .row)<|cI 0) (.one .row) .it (dq<|.ai .gf) .tt<|lC [.fO,.row])
     (sN<|.du (.one .row) .it (dq<|.ai .gf)
      (sN<|.expr<|.iT .extend (.ai .aB)<|dq<|.comp (.ai .aa) (.one .aa) .it (dq<|bM (.ai .row)<|cI 2) (.e<|b9 (.eW .gU) (.ai .aa)<|.ai .own)<|lD [.fO,.aa] [(.own,.iH)]))) .nil))))
 (sN<|.ret<|.ai .aB)))
def gh:Ss:=
 (sC (.d_ .aB<|.ay .bb .nil)
 (sC (.du (.many [.aH,.gf]) .it (dq<|sq .fP<|.ai .ae)
  (sN<|.ifs (iz (.ai .aH)<|cS .dv)
   (sN<|rR (.ai .aB)<|.ai .gf)
   (sN<|.ifs (iz (.ai .aH)<|cS .rows)
    (sN<|.expr<|.iT .extend (.ai .aB)<|dq<|.comp (bM (.ai .row)<|cI 0) (.one .row) .it (dq<|.ai .gf) .tt<|lC [.fO,.row]) .nil)))
 (sN<|.ret<|.ai .aB)))
def yx:Ss:=
 (sC (.ar (.ai .aq) .ax<|.ai .ax)
 (sN<|.ar (.ai .aq) .text<|.ai .text))
def Bj:Ss:=
 (sN<|.ar (.ai .aq) .code<|.ai .code)
def Bk:Ss:=
 (sC (.ar (.ai .aq) .codes<|.ai .codes)
 (sN<|.ar (.ai .aq) .mark<|.hD .none))
def pO:Ss:=
 (sC (.ar (.ai .aq) .ax<|.ai .ax)
 (sC (.ar (.ai .aq) .params<|.ai .params)
 (sC (.ar (.ai .aq) .ao<|.ay .bb .nil)
 (sN<|.ar (.ai .aq) .cW<|.hD .none))))
def qs:Ss:=
 (sC (.ar (.ai .aq) .ax<|.ai .ax)
 (sC (.ar (.ai .aq) .kr<|.ai .kr)
 (sC (.ar (.ai .aq) .ba<|.ai .ba)
 (sC (.ar (.ai .aq) .ah<|.ay .bb .nil)
 (sC (.ar (.ai .aq) .bA<|cI 0)
 (sC (.ar (.ai .aq) .fF<|.hD<|.bool false)
 (sC (.ar (.ai .aq) .free<|cI 0)
 (sC (.ar (.ai .aq) .aj<|cI 0)
 (sN<|.ar (.ai .aq) .bJ<|.ay .bb .nil)))))))))
def pP:Ss:=
 (sC (.ar (.ai .aq) .aj<|b9 (.fA .add) (a8 (.ai .aq) .aj)<|cI 1)
 (sN<|.ret<|b9 (.fA .sub) (a8 (.ai .aq) .aj)<|cI 1))
def kP:Ss:=
 (sC (.ifs (.op false<|.cons (.e<|e_ .isBool<|.ai .one)<|.cons (.e<|e_ .isBool<|.ai .bH) .nil)
  (sN<|.ret<|.lS true<|Wd (e_ .isBool<|.ai .one) (e_ .isBool<|.ai .bH)<|b9 (.eW .eq) (.ai .one)<|.ai .bH) .nil)
 (sC (.ifs (.op false<|.cons (.e<|e_ .isInt<|.ai .one)<|.cons (.e<|e_ .isInt<|.ai .bH) .nil)
  (sN<|.ret<|.lS true<|Wd (e_ .isInt<|.ai .one) (e_ .isInt<|.ai .bH)<|b9 (.eW .eq) (.ai .one)<|.ai .bH) .nil)
 (sC (.ifs (.op true<|.cons (.e<|e_ (.pM .so)<|.ai .one)<|.cons (.e<|e_ (.pM .so)<|.ai .bH) .nil)
  (sN<|.ret<|b9 (.eW .eq) (a8 (.ai .one) .ax)<|a8 (.ai .bH) .ax) .nil)
 (sC (.ifs (.op true<|.cons (.e<|e_ (.pM .Char)<|.ai .one)<|.cons (.e<|e_ (.pM .Char)<|.ai .bH) .nil)
  (sN<|.ret<|b9 (.eW .eq) (a8 (.ai .one) .code)<|a8 (.ai .bH) .code) .nil)
 (sN<|.ret<|b9 (.eW .S9) (.ai .one)<|.ai .bH)))))
def lU:Ss:=
 (sC (.ifs (.e<|e_ .isBool<|.ai .fG)
  (sN<|.ret<|b9 .ck (cI 0)<|e_ .intOf<|.ai .fG) .nil)
 (sC (.ifs (.e<|e_ .isInt<|.ai .fG)
  (sN<|.ret<|b9 .ck (cI 1)<|.ai .fG) .nil)
 (sC (.ifs (.e<|e_ (.pM .so)<|.ai .fG)
  (sN<|.ret<|b9 .ck (cI 2)<|a8 (.ai .fG) .ax) .nil)
 (sC (.ifs (.e<|e_ (.pM .Char)<|.ai .fG)
  (sN<|.ret<|b9 .ck (cI 3)<|a8 (.ai .fG) .code) .nil)
 (sN<|.ret<|.ite (.e<|e_ (.pM .Text)<|.ai .fG) (e_ .gG<|b9 (.fA .add) (e_ .bb<|cI 4)<|a8 (.ai .fG) .codes)<|e_ .ck<|cI 5)))))
def rS:Ss:=
 (sC (.ar (.ai .aq) .bE<|.ay .bb .nil)
 (sC (.ar (.ai .aq) .se<|.ay .ja .nil)
 (sC (.ar (.ai .aq) .dW<|.ay .bb .nil)
 (sN<|.ar (.ai .aq) .fN<|.ay .emptyDict .nil))))
def jk:Ss:=
 (sC (.d_ .key<|sq .jz<|.ai .fG)
 (sC (.ifs (.e<|b9 (.eW .gU) (.ai .key)<|a8 (.ai .aq) .se)
  (sN<|.bR (a8 (.ai .aq) .se) (.ai .key)<|.ay .bb .nil) .nil)
 (sC (.du (.one .bG) .it (dq<|bM (a8 (.ai .aq) .se)<|.ai .key)
  (sN<|.ifs (.e<|iG .iQ (bM (a8 (.ai .aq) .bE)<|.ai .bG)<|.ai .fG)
   (sN<|.ret<|.ai .bG) .nil))
 (sC (rR (a8 (.ai .aq) .bE)<|.ai .fG)
 (sC (rR (bM (a8 (.ai .aq) .se)<|.ai .key)<|b9 (.fA .sub) (e_ .len<|a8 (.ai .aq) .bE)<|cI 1)
 (sN<|.ret<|b9 (.fA .sub) (e_ .len<|a8 (.ai .aq) .bE)<|cI 1))))))
def jY:Ss:=
 (sC (.ifs (.e<|b9 (.eW .gU) (.ai .symbol)<|a8 (.ai .aq) .fN)
  (sC (.bR (a8 (.ai .aq) .fN) (.ai .symbol)<|e_ .len<|a8 (.ai .aq) .dW)
  (sN<|rR (a8 (.ai .aq) .dW)<|.ai .symbol)) .nil)
 (sN<|.ret<|bM (a8 (.ai .aq) .fN)<|.ai .symbol))
def qt:Ss:=
 (sC (.ar (.ai .aq) .bO<|.ai .bO)
 (sC (.ar (.ai .aq) .cD<|.ai .cD)
 (sC (.ar (.ai .aq) .ab<|.ai .ab)
 (sC (.ar (.ai .aq) .frees<|.ay .emptyDict .nil)
 (sN<|.ar (.ai .aq) .bE<|.ay .emptyDict .nil)))))
def qu:Ss:=
 (sN<|rR (a8 (a8 (.ai .aq) .ab) .ao)<|.ai .op)
def jm:Ss:=
 (sC (.ifs (.e<|b9 (.eW .gU) (.ai .at_)<|a8 (.ai .aq) .frees)
  (sC (.d_ .aa<|.cz (a8 (.ai .aq) .bO) .fresh .nil)
  (sC (.expr<|.cz (.ai .aq) .emit<|dq<|uC .ck (cS .free) (.ai .aa)<|.ai .at_)
  (sN<|.bR (a8 (.ai .aq) .frees) (.ai .at_)<|.ai .aa))) .nil)
 (sN<|.ret<|bM (a8 (.ai .aq) .frees)<|.ai .at_))
def gX:Ss:=
 (sC (.d_ .bG<|.cz (a8 (.ai .aq) .cD) .jx<|dq<|.ai .fG)
 (sC (.ifs (.e<|b9 (.eW .gU) (.ai .bG)<|a8 (.ai .aq) .bE)
  (sC (.d_ .aa<|.cz (a8 (.ai .aq) .bO) .fresh .nil)
  (sC (.expr<|.cz (.ai .aq) .emit<|dq<|uC .ck (cS .hD) (.ai .aa)<|.ai .bG)
  (sN<|.bR (a8 (.ai .aq) .bE) (.ai .bG)<|.ai .aa))) .nil)
 (sN<|.ret<|bM (a8 (.ai .aq) .bE)<|.ai .bG)))
def gH:Ss:=
 (sC (.ifs (iz (bM (.ai .arg)<|cI 0)<|cS .bL)
  (sN<|.ret<|bM (.ai .arg)<|cI 1) .nil)
 (sC (.ifs (iz (bM (.ai .arg)<|cI 0)<|cS .free)
  (sN<|.ret<|.cz (.ai .aq) .nB<|dq<|bM (.ai .arg)<|cI 1) .nil)
 (sN<|.ret<|.cz (.ai .aq) .jy<|dq<|bM (.ai .arg)<|cI 1)))
def iJ:Ss:=
 (sN<|.ret<|e_ .gG<|.comp (.cz (.ai .aq) .aa<|dq<|.ai .arg) (.one .arg) .it (dq<|.ai .args) .tt<|lD [.fO,.arg] [(.aq,.iH)])
def j4:Ss:=
 (sN<|.ret<|.ite (.e<|b9 (.eW .ge) (.ai .bL)<|cI 0) (.ai .bL)<|.cz (a8 (.ai .aq) .bO) .fresh .nil)
def cN:Ss:=
 (sN<|.ifs (iz (a8 (.ai .op) .op)<|cS .hD)
  (sN<|.expr<|.cz (.ai .aq) .emit<|dq<|uC .ck (cS .hD) (.cz (.ai .aq) .dv<|dq<|a8 (.ai .op) .bL)<|.cz (a8 (.ai .aq) .cD) .jx<|dq<|a8 (.ai .op) .data)
  (sN<|.ifs (iz (a8 (.ai .op) .op)<|cS .global)
   (sN<|.expr<|.cz (.ai .aq) .emit<|dq<|uC .ck (cS .global) (.cz (.ai .aq) .dv<|dq<|a8 (.ai .op) .bL)<|.cz (a8 (.ai .aq) .cD) .lh<|dq<|a8 (.ai .op) .data)
   (sN<|.ifs (.op false<|.cons (iz (a8 (.ai .op) .op)<|cS .eN)<|.cons (iz (a8 (.ai .op) .op)<|cS .jw) .nil)
    (sC (.d_ .cB<|.cz (.ai .aq) .aa<|dq<|bM (a8 (.ai .op) .args)<|cI 0)
    (sN<|.expr<|.cz (.ai .aq) .emit<|dq<|uC .ck (a8 (.ai .op) .op) (.cz (a8 (.ai .aq) .cD) .lh<|dq<|a8 (.ai .op) .data)<|.ai .cB))
    (sN<|.ifs (iz (a8 (.ai .op) .op)<|cS .ay)
     (sC (.d_ .aQ<|.cz (.ai .aq) .bi<|dq<|a8 (.ai .op) .args)
     (sN<|.expr<|.cz (.ai .aq) .emit<|dq<|.ay .ck<|Bi (cS .ay) (.cz (.ai .aq) .dv<|dq<|a8 (.ai .op) .bL) (a8 (.ai .op) .data)<|.ai .aQ))
     (sN<|.ifs (iz (a8 (.ai .op) .op)<|cS .bt)
      (sC (.d_ .aQ<|.cz (.ai .aq) .bi<|dq<|a8 (.ai .op) .args)
      (sN<|.expr<|.cz (.ai .aq) .emit<|dq<|.ay .ck<|Bi (cS .closure) (.cz (.ai .aq) .dv<|dq<|a8 (.ai .op) .bL) (a8 (.ai .op) .data)<|.ai .aQ))
      (sC (.d_ .rows<|.comp (uC .ck (.ai .bL) (.ai .bO)<|.cz (.ai .aq) .bi<|dq<|.ai .args) (.many [.bL,.bO,.args]) .it (dq<|a8 (.ai .op) .data) .tt<|lD [.fO,.bL,.bO,.args] [(.aq,.iH)])
      (sN<|.expr<|.cz (.ai .aq) .emit<|dq<|b9 .ck (cS .fix)<|e_ .gG<|.ai .rows)))))))
def eD:Ss:=
 (sN<|.ifs (iz (a8 (.ai .last) .aH)<|.fS .vN)
  (sC (.d_ .head<|.cz (.ai .aq) .aa<|dq<|a8 (.ai .last) .head)
  (sC (.d_ .args (.cz (.ai .aq) .bi<|dq<|a8 (.ai .last) .args))
  (sN<|.ar (a8 (.ai .aq) .ab) .cW<|.ay .ck<|Bi (.fS .vN) (.ai .head) (.cz (.ai .aq) .aa<|dq<|a8 (.ai .last) .k)<|.ai .args)))
  (sN<|.ifs (iz (a8 (.ai .last) .aH)<|.fS .yr)
   (sC (.d_ .dv<|.cz (.ai .aq) .aa<|dq<|a8 (.ai .last) .k)
   (sN<|.ar (a8 (.ai .aq) .ab) .cW<|uC .ck (.fS .yr) (.ai .dv)<|.cz (.ai .aq) .bi<|dq<|a8 (.ai .last) .args))
   (sN<|.ifs (iz (a8 (.ai .last) .aH)<|.fS .rK)
    (sN<|.ar (a8 (.ai .aq) .ab) .cW<|uC .ck (.fS .rK) (bM (a8 (.ai .last) .bJ)<|cI 0)<|.cz (.ai .aq) .bi<|dq<|a8 (.ai .last) .args)
    (sN<|.ar (a8 (.ai .aq) .ab) .cW<|.ay .ck<|Bi (.fS .BRANCH) (.cz (.ai .aq) .aa<|dq<|a8 (.ai .last) .head) (bM (a8 (.ai .last) .bJ)<|cI 0)<|bM (a8 (.ai .last) .bJ)<|cI 1))))
def qw:Ss:=
 (sC (.d_ .aB<|.new .eZ<|wH (a8 (.ai .ab) .ax)<|e_ .dR<|a8 (.ai .ab) .params)
 (sC (.d_ .li<|.new .e7<|Wd (.ai .bO) (.ai .cD)<|.ai .aB)
 (sC (.du (.one .op) .it (dq<|a8 (.ai .ab) .ao)
  (sN<|.expr<|.cz (.ai .li) .th<|dq<|.ai .op))
 (sC (.expr<|.cz (.ai .li) .sf<|dq<|a8 (.ai .ab) .last)
 (sN<|.ret<|.ai .aB)))))
def uD:Ss:=
 (sC (.ar (.ai .bO) .ah<|e_ .dR<|a8 (.ai .dw) .params)
 (sC (.ar (.ai .bO) .bA<|.ite (.e<|a8 (.ai .bO) .ba) (e_ .len<|a8 (.ai .dw) .params)<|b9 (.fA .sub) (e_ .len<|a8 (.ai .dw) .params)<|cI 1)
 (sN<|.ifs (.op false<|.cons (.e<|b9 (.eW .ge) (a8 (.ai .dw) .rest)<|cI 0)<|.cons (.e<|a8 (.ai .dw) .lH) .nil)
  (sC (.ar (.ai .bO) .fF<|.hD<|.bool true)
  (sN<|rR (a8 (.ai .bO) .ah)<|.ite (.e<|b9 (.eW .ge) (a8 (.ai .dw) .rest)<|cI 0) (a8 (.ai .dw) .rest)<|.cz (.ai .bO) .fresh .nil)) .nil)))
def wI:Ss:=
 (sC (.d_ .bO<|.new .b7<|Wd (a8 (.ai .dw) .ax) (a8 (.ai .dw) .name)<|b9 (.eW .ne) (a8 (.ai .dw) .aH)<|.fS .C4)
 (sC (.ar (.ai .bO) .free<|a8 (.ai .dw) .qj)
 (sC (.ar (.ai .bO) .aj<|a8 (.ai .dw) .az)
 (sC (.expr<|iG .tn (.ai .bO)<|.ai .dw)
 (sC (.du (.one .ab) .it (dq<|a8 (.ai .dw) .bJ)
  (sN<|rR (a8 (.ai .bO) .bJ)<|Ij .lI (.ai .bO) (.ai .cD)<|.ai .ab))
 (sN<|.ret<|.ai .bO))))))
def yP:Ss:=
 (sN<|.ret<|.comp (iG .nT (.ai .dw)<|.ai .cD) (.one .dw) .it (dq<|a8 (.ai .dX) .units) .tt<|lD [.fO,.dw] [(.nT,.bK),(.cD,.iH)])
def kE:Ss:=
 (sC (.ifs (iz (bM (.ai .cW)<|cI 0)<|.fS .vN)
  (sN<|.ret<|b9 (.fA .add) (b9 .bb (bM (.ai .cW)<|cI 1)<|bM (.ai .cW)<|cI 2)<|e_ .dR<|bM (.ai .cW)<|cI 3) .nil)
 (sC (.ifs (iz (bM (.ai .cW)<|cI 0)<|.fS .yr)
  (sN<|.ret<|b9 (.fA .add) (e_ .bb<|bM (.ai .cW)<|cI 1)<|e_ .dR<|bM (.ai .cW)<|cI 2) .nil)
 (sN<|.ret<|.ite (iz (bM (.ai .cW)<|cI 0)<|.fS .rK) (e_ .dR<|bM (.ai .cW)<|cI 2)<|e_ .bb<|bM (.ai .cW)<|cI 1)))
def lm:Ss:=
 (sC (.ifs (iz (bM (.ai .cW)<|cI 0)<|.fS .rK)
  (sN<|.ret<|e_ .bb<|bM (.ai .cW)<|cI 1) .nil)
 (sN<|.ret<|.ite (iz (bM (.ai .cW)<|cI 0)<|.fS .BRANCH) (b9 .bb (bM (.ai .cW)<|cI 2)<|bM (.ai .cW)<|cI 3)<|.ay .bb .nil))
def yQ:Ss:=
 (sC (.d_ .aB<|cI 0)
 (sC (.du (.one .aa) .it (dq<|.ai .bi)
  (sN<|.d_ .aB<|b9 (.fA .bor) (.ai .aB)<|b9 (.fA .shl) (cI 1)<|.ai .aa))
 (sN<|.ret<|.ai .aB)))
def uE:Ss:=
 (sC (.d_ .aB<|.ay .bb .nil)
 (sC (.d_ .at_<|cI 0)
 (sC (.iI (.e<|b9 (.eW .gt) (b9 (.fA .shr) (.ai .ku)<|.ai .at_)<|cI 0)
  (sC (.ifs (iz (b9 (.fA .band) (b9 (.fA .shr) (.ai .ku)<|.ai .at_)<|cI 1)<|cI 1)
   (sN<|rR (.ai .aB)<|.ai .at_) .nil)
  (sN<|.d_ .at_<|b9 (.fA .add) (.ai .at_)<|cI 1)))
 (sN<|.ret<|.ai .aB))))
def EN:Ss:=
 (sN<|.ret<|b9 (.eW .eq) (b9 (.fA .band) (b9 (.fA .shr) (.ai .ku)<|.ai .aa)<|cI 1)<|cI 1)
def yR:Ss:=
 (sN<|.ret<|b9 (.fA .band) (.ai .ku)<|b9 (.fA .bxor) (.ai .ku)<|.ai .bH)
def nH:Ss:=
 (sC (.d_ .aB<|sq .gC<|sq .jZ<|a8 (.ai .ab) .cW)
 (sC (.du (.one .ax) .it (dq<|sq .gE<|a8 (.ai .ab) .cW)
  (sN<|.d_ .aB<|b9 (.fA .bor) (.ai .aB)<|iG .without (bM (.ai .dO)<|.ai .ax)<|sq .gC<|a8 (bM (a8 (.ai .bO) .bJ)<|.ai .ax) .params))
 (sN<|.ret<|.ai .aB)))
def tx:Ss:=
 (sN<|.ret<|b9 (.fA .bor) (iG .without (.ai .eA)<|sq .gC<|sq .b8<|.ai .op)<|sq .gC<|sq .fj<|.ai .op)
def nI:Ss:=
 (sC (.d_ .eA<|Ij .hG (.ai .bO) (.ai .ab)<|.ai .dO)
 (sC (.d_ .aB<|.ay .bb .nil)
 (sC (.du (.one .op) .it (dq<|e_ (.slice .rev)<|a8 (.ai .ab) .ao)
  (sC (rR (.ai .aB)<|.ai .eA)
  (sN<|.d_ .eA<|iG .i9 (.ai .op)<|.ai .eA)))
 (sN<|.ret<|e_ (.slice .rev)<|.ai .aB))))
def kQ:Ss:=
 (sC (.d_ .eA<|Ij .hG (.ai .bO) (.ai .ab)<|.ai .dO)
 (sC (.du (.one .op) .it (dq<|e_ (.slice .rev)<|a8 (.ai .ab) .ao)
  (sN<|.d_ .eA<|iG .i9 (.ai .op)<|.ai .eA))
 (sN<|.ret<|.ai .eA)))
def mU:Ss:=
 (sC (.d_ .dO<|b9 (.fA .mul) (e_ .bb<|cI 0)<|e_ .len<|a8 (.ai .bO) .bJ)
 (sC (.d_ .dy<|e_ .iy<|e_ .len<|a8 (.ai .bO) .bJ)
 (sC (.d_ .ahead<|sq .ij<|.ai .bO)
 (sC (.iI (.e<|b9 (.eW .ne) (.ai .dy)<|.ay .bb .nil)
  (sC (.d_ .ax<|.iT .pop (.ai .dy) .nil)
  (sC (.d_ .aB<|Ij .iR (.ai .bO) (bM (a8 (.ai .bO) .bJ)<|.ai .ax)<|.ai .dO)
  (sN<|.ifs (.e<|b9 (.eW .ne) (.ai .aB)<|bM (.ai .dO)<|.ai .ax)
   (sC (.bR (.ai .dO) (.ai .ax)<|.ai .aB)
   (sN<|.expr<|.iT .extend (.ai .dy)<|dq<|.comp (.ai .bH) (.one .bH) .it (dq<|bM (.ai .ahead)<|.ai .ax) (.e<|b9 (.eW .gU) (.ai .bH)<|.ai .dy)<|lD [.fO,.bH] [(.dy,.iH)])) .nil))))
 (sN<|.ret<|.ai .dO)))))
def jF:Ss:=
 (sC (.d_ .aB<|.comp (.ay .bb .nil) (.one .ab) .it (dq<|a8 (.ai .bO) .bJ) .tt<|lC [.fO,.ab])
 (sC (.du (.one .ab) .it (dq<|a8 (.ai .bO) .bJ)
  (sN<|.du (.one .ax) .it (dq<|sq .gE<|a8 (.ai .ab) .cW)
   (sN<|.ifs (.e<|b9 (.eW .gU) (a8 (.ai .ab) .ax)<|bM (.ai .aB)<|.ai .ax)
    (sN<|rR (bM (.ai .aB)<|.ai .ax)<|a8 (.ai .ab) .ax) .nil)))
 (sN<|.ret<|.ai .aB)))
def tA:Ss:=
 (sN<|.ar (.ai .aq) .iP<|b9 (.fA .mul) (e_ .bb<|cI 0)<|.ai .aj)
def qz:Ss:=
 (sC (.d_ .others<|iG .without (.ai .ku)<|b9 (.fA .shl) (cI 1)<|.ai .aa)
 (sC (.bR (a8 (.ai .aq) .iP) (.ai .aa)<|b9 (.fA .bor) (bM (a8 (.ai .aq) .iP)<|.ai .aa)<|.ai .others)
 (sN<|.du (.one .bH) .it (dq<|sq .oN<|.ai .others)
  (sN<|.bR (a8 (.ai .aq) .iP) (.ai .bH)<|b9 (.fA .bor) (bM (a8 (.ai .aq) .iP)<|.ai .bH)<|b9 (.fA .shl) (cI 1)<|.ai .aa))))
def wJ:Ss:=
 (sC (.d_ .written<|sq .b8<|.ai .op)
 (sC (.d_ .around<|b9 (.fA .bor) (.ai .eA)<|sq .gC<|.ai .written)
 (sC (.ifs (iz (bM (.ai .op)<|cI 0)<|cS .fix)
  (sN<|.d_ .around<|b9 (.fA .bor) (.ai .around)<|sq .gC<|sq .fj<|.ai .op) .nil)
 (sN<|.du (.one .aa) .it (dq<|.ai .written)
  (sN<|.expr<|.cz (.ai .apart) .put<|wH (.ai .aa)<|.ai .around)))))
def su:Ss:=
 (sC (.d_ .dO<|sq .nU<|.ai .bO)
 (sC (.d_ .apart<|.new .aK<|dq<|a8 (.ai .bO) .aj)
 (sC (.d_ .ah<|b9 (.fA .bor) (sq .gC<|a8 (.ai .bO) .ah)<|bM (.ai .dO)<|cI 0)
 (sC (.du (.one .aa) .it (dq<|a8 (.ai .bO) .ah)
  (sN<|.expr<|.cz (.ai .apart) .put<|wH (.ai .aa)<|.ai .ah))
 (sC (.du (.one .ab) .it (dq<|a8 (.ai .bO) .bJ)
  (sC (.d_ .params<|b9 (.fA .bor) (sq .gC<|a8 (.ai .ab) .params)<|bM (.ai .dO)<|a8 (.ai .ab) .ax)
  (sC (.du (.one .aa) .it (dq<|a8 (.ai .ab) .params)
   (sN<|.expr<|.cz (.ai .apart) .put<|wH (.ai .aa)<|.ai .params))
  (sN<|.du (.many [.op,.eA]) .zip (wH (a8 (.ai .ab) .ao)<|Ij .kx (.ai .bO) (.ai .ab)<|.ai .dO)
   (sN<|.expr<|Ij .uy (.ai .apart) (.ai .op)<|.ai .eA)))))
 (sN<|.ret<|.ai .apart))))))
def nJ:Ss:=
 (sC (.d_ .aB<|.ay .emptyDict .nil)
 (sC (.du (.one .aa) .it (dq<|a8 (.ai .bO) .ah)
  (sN<|.bR (.ai .aB) (.ai .aa)<|.hD<|.bool true))
 (sC (.du (.one .ab) .it (dq<|a8 (.ai .bO) .bJ)
  (sC (.du (.one .aa) .it (dq<|a8 (.ai .ab) .params)
   (sN<|.bR (.ai .aB) (.ai .aa)<|.hD<|.bool true))
  (sN<|.du (.one .op) .it (dq<|a8 (.ai .ab) .ao)
   (sN<|.du (.one .aa) .it (dq<|sq .b8<|.ai .op)
    (sN<|.bR (.ai .aB) (.ai .aa)<|.hD<|.bool true)))))
 (sN<|.ret<|e_ .dR<|.ai .aB))))
def mV:Ss:=
 (sC (.d_ .aB<|.comp (.ay .bb .nil) (.one .aa) .range (dq<|a8 (.ai .bO) .aj) .tt<|lC [.fO,.aa])
 (sC (.du (.one .ab) .it (dq<|a8 (.ai .bO) .bJ)
  (sN<|.ifs (iz (bM (a8 (.ai .ab) .cW)<|cI 0)<|.fS .rK)
   (sN<|.du (.many [.cB,.dv]) .zip (wH (bM (a8 (.ai .ab) .cW)<|cI 2)<|a8 (bM (a8 (.ai .bO) .bJ)<|bM (a8 (.ai .ab) .cW)<|cI 1) .params)
    (sC (rR (bM (.ai .aB)<|.ai .cB)<|.ai .dv)
    (sN<|rR (bM (.ai .aB)<|.ai .dv)<|.ai .cB))) .nil))
 (sN<|.ret<|.ai .aB)))
def rT:Ss:=
 (sC (.ar (.ai .aq) .of<|.ai .of)
 (sN<|.ar (.ai .aq) .aj<|.ai .aj))
def lV:Ss:=
 (sC (.d_ .aB<|cI 0)
 (sC (.du (.one .bH) .it (dq<|sq .oN<|bM (a8 (.ai .apart) .iP)<|.ai .aa)
  (sN<|.ifs (.e<|b9 (.eW .isin) (.ai .bH)<|.ai .of)
   (sN<|.d_ .aB<|b9 (.fA .bor) (.ai .aB)<|b9 (.fA .shl) (cI 1)<|bM (.ai .of)<|.ai .bH) .nil))
 (sN<|.ret<|.ai .aB)))
def nK:Ss:=
 (sC (.d_ .at_<|cI 0)
 (sC (.iI (.e<|iG .ve (.ai .ku)<|.ai .at_)
  (sN<|.d_ .at_<|b9 (.fA .add) (.ai .at_)<|cI 1))
 (sN<|.ret<|.ai .at_)))
def lW:Ss:=
 (sC (.d_ .taken<|Ij .jA (.ai .apart) (.ai .of)<|.ai .aa)
 (sC (.du (.one .bH) .it (dq<|bM (.ai .qm)<|.ai .aa)
  (sN<|.ifs (.op true<|.cons (.e<|b9 (.eW .isin) (.ai .bH)<|.ai .of)<|.cons (.not<|.e<|iG .ve (.ai .taken)<|bM (.ai .of)<|.ai .bH) .nil)
   (sN<|.ret<|bM (.ai .of)<|.ai .bH) .nil))
 (sN<|.ret<|sq .ky<|.ai .taken)))
def kF:Ss:=
 (sC (.d_ .apart<|sq .qn<|.ai .bO)
 (sC (.d_ .qm<|sq .nV<|.ai .bO)
 (sC (.d_ .of<|.ay .emptyDict .nil)
 (sC (.du (.many [.bG,.aa]) .uz (dq<|a8 (.ai .bO) .ah)
  (sN<|.bR (.ai .of) (.ai .aa)<|.ai .bG))
 (sC (.du (.one .aa) .it (dq<|sq .kz<|.ai .bO)
  (sN<|.ifs (.e<|b9 (.eW .gU) (.ai .aa)<|.ai .of)
   (sN<|.bR (.ai .of) (.ai .aa)<|SQ .jB (.ai .apart) (.ai .of) (.ai .qm)<|.ai .aa) .nil))
 (sC (.d_ .aj<|e_ .len<|a8 (.ai .bO) .ah)
 (sC (.du (.one .aa) .it (dq<|.ai .of)
  (sN<|.d_ .aj<|b9 .max2 (.ai .aj)<|b9 (.fA .add) (bM (.ai .of)<|.ai .aa)<|cI 1))
 (sN<|.ret<|.new .hH<|wH (.ai .of)<|.ai .aj))))))))
def lY:Ss:=
 (sC (.ar (.ai .aq) .aQ<|.ay .emptyDict .nil)
 (sN<|.du (.many [.dv,.cB]) .zip (wH (.ai .i5)<|.ai .aQ)
  (sN<|.ifs (.e<|b9 (.eW .ne) (.ai .dv)<|.ai .cB)
   (sN<|.bR (a8 (.ai .aq) .aQ) (.ai .dv)<|.ai .cB) .nil)))
def k4:Ss:=
 (sN<|.ret<|e_ .anyOf<|.comp (b9 (.eW .eq) (bM (a8 (.ai .aq) .aQ)<|.ai .dv)<|.ai .aa) (.one .dv) .it (dq<|a8 (.ai .aq) .aQ) .tt<|lD [.fO,.dv] [(.aa,.iH),(.aq,.iH)])
def gP:Ss:=
 (sC (.du (.one .dv) .it (dq<|a8 (.ai .aq) .aQ)
  (sN<|.ifs (.not<|.e<|.cz (.ai .aq) .ux<|dq<|.ai .dv)
   (sN<|.ret<|.ai .dv) .nil))
 (sN<|.ret<|.hD .none))
def qA:Ss:=
 (sN<|.ret<|.iT .nZ (a8 (.ai .aq) .aQ)<|dq<|.ai .dv)
def jG:Ss:=
 (sN<|.ret<|bM (e_ .dR<|a8 (.ai .aq) .aQ)<|cI 0)
def iV:Ss:=
 (sN<|.du (.one .dv) .it (dq<|e_ .dR<|a8 (.ai .aq) .aQ)
  (sN<|.ifs (iz (bM (a8 (.ai .aq) .aQ)<|.ai .dv)<|.ai .aa)
   (sN<|.bR (a8 (.ai .aq) .aQ) (.ai .dv)<|.ai .bH) .nil))
def fH:Ss:=
 (sC (.d_ .row<|.new .dY<|wH (.ai .i5)<|.ai .aQ)
 (sC (.d_ .aB<|.ay .bb .nil)
 (sC (.iI (.e<|b9 (.eW .ne) (a8 (.ai .row) .aQ)<|.ay .emptyDict .nil)
  (sC (.d_ .dv<|.cz (.ai .row) .ql .nil)
  (sC (.ifs (.e<|b9 (.eW .S9) (.ai .dv)<|.hD .none)
   (sC (.d_ .dv<|.cz (.ai .row) .oL .nil)
   (sC (rR (.ai .aB)<|uC .ck (cS .move) (.ai .gF)<|.ai .dv)
   (sN<|.expr<|.cz (.ai .row) .lK<|wH (.ai .dv)<|.ai .gF))) .nil)
  (sN<|rR (.ai .aB)<|uC .ck (cS .move) (.ai .dv)<|.cz (.ai .row) .take<|dq<|.ai .dv))))
 (sN<|.ret<|.ai .aB))))
def pQ:Ss:=
 (sN<|.ret<|e_ .anyOf<|.comp (b9 (.eW .eq) (bM (.ai .step)<|cI 1)<|.ai .gF) (.one .step) .it (dq<|.ai .steps) .tt<|lD [.fO,.step] [(.gF,.iH)])
def tB:Ss:=
 (sN<|.ret<|uC .ck (bM (.ai .of)<|bM (.ai .row)<|cI 0) (bM (.ai .row)<|cI 1)<|iG .cG (bM (.ai .row)<|cI 2)<|.ai .of)
def lZ:Ss:=
 (sN<|.ret<|e_ .gG<|.comp (bM (.ai .of)<|.ai .aa) (.one .aa) .it (dq<|.ai .bi) .tt<|lD [.fO,.aa] [(.of,.iH)])
def fI:Ss:=
 (sC (.d_ .word<|bM (.ai .op)<|cI 0)
 (sC (.ifs (.op false<|.cons (iz (.ai .word)<|cS .hD)<|.cons (iz (.ai .word)<|cS .global)<|.cons (iz (.ai .word)<|cS .free) .nil)
  (sN<|.ret<|uC .ck (.ai .word) (bM (.ai .of)<|bM (.ai .op)<|cI 1)<|bM (.ai .op)<|cI 2) .nil)
 (sC (.ifs (.op false<|.cons (iz (.ai .word)<|cS .eN)<|.cons (iz (.ai .word)<|cS .jw) .nil)
  (sN<|.ret<|uC .ck (.ai .word) (bM (.ai .op)<|cI 1)<|bM (.ai .of)<|bM (.ai .op)<|cI 2) .nil)
 (sC (.ifs (.op false<|.cons (iz (.ai .word)<|cS .closure)<|.cons (iz (.ai .word)<|cS .ay) .nil)
  (sN<|.ret<|.ay .ck<|Bi (.ai .word) (bM (.ai .of)<|bM (.ai .op)<|cI 1) (bM (.ai .op)<|cI 2)<|iG .cG (bM (.ai .op)<|cI 3)<|.ai .of) .nil)
 (sC (.ifs (iz (.ai .word)<|cS .move)
  (sN<|.ret<|uC .ck (.ai .word) (bM (.ai .of)<|bM (.ai .op)<|cI 1)<|bM (.ai .of)<|bM (.ai .op)<|cI 2) .nil)
 (sN<|.ret<|b9 .ck (.ai .word)<|e_ .gG<|.comp (iG .j3 (.ai .row)<|.ai .of) (.one .row) .it (dq<|bM (.ai .op)<|cI 1) .tt<|lD [.fO,.row] [(.j3,.bK),(.of,.iH)]))))))
def qB:Ss:=
 (sC (.ar (.ai .aq) .bO<|.ai .bO)
 (sC (.ar (.ai .aq) .fN<|.ai .fN)
 (sC (.ar (.ai .aq) .ak<|.ay .bb .nil)
 (sC (.ar (.ai .aq) .starts<|.ay .emptyDict .nil)
 (sC (.ar (.ai .aq) .A7<|.ay .bb .nil)
 (sN<|.ar (.ai .aq) .ji<|.hD<|.bool false))))))
def qC:Ss:=
 (sN<|.ret<|e_ .len<|a8 (.ai .aq) .ak)
def qD:Ss:=
 (sN<|rR (a8 (.ai .aq) .ak)<|.ai .ae)
def mW:Ss:=
 (sC (rR (a8 (.ai .aq) .A7)<|b9 .ck (.cz (.ai .aq) .here .nil)<|.ai .ab)
 (sN<|.expr<|.cz (.ai .aq) .emit<|dq<|.ai .ae))
def kR:Ss:=
 (sC (.d_ .of<|a8 (a8 (.ai .aq) .fN) .of)
 (sC (.d_ .steps<|Ij .lM (iG .cG (.ai .i5)<|.ai .of) (iG .cG (.ai .aQ)<|.ai .of)<|a8 (a8 (.ai .aq) .fN) .aj)
 (sC (.ar (.ai .aq) .ji<|.lS false<|wH (a8 (.ai .aq) .ji)<|iG .iS (.ai .steps)<|a8 (a8 (.ai .aq) .fN) .aj)
 (sN<|.du (.one .step) .it (dq<|.ai .steps)
  (sN<|.expr<|.cz (.ai .aq) .emit<|dq<|.ai .step)))))
def cj:Ss:=
 (sC (.bR (a8 (.ai .aq) .starts) (a8 (.ai .ab) .ax)<|.cz (.ai .aq) .here .nil)
 (sC (.d_ .of<|a8 (a8 (.ai .aq) .fN) .of)
 (sC (.du (.one .op) .it (dq<|a8 (.ai .ab) .ao)
  (sN<|.expr<|.cz (.ai .aq) .emit<|dq<|iG .nW (.ai .op)<|.ai .of))
 (sC (.d_ .cW<|a8 (.ai .ab) .cW)
 (sN<|.ifs (iz (bM (.ai .cW)<|cI 0)<|.fS .vN)
  (sN<|.expr<|.cz (.ai .aq) .emit<|dq<|.ay .ck<|Bi (cS .call) (bM (.ai .of)<|bM (.ai .cW)<|cI 1) (bM (.ai .of)<|bM (.ai .cW)<|cI 2)<|iG .cG (bM (.ai .cW)<|cI 3)<|.ai .of)
  (sN<|.ifs (iz (bM (.ai .cW)<|cI 0)<|.fS .rK)
   (sC (.expr<|.cz (.ai .aq) .moves<|wH (a8 (bM (a8 (a8 (.ai .aq) .bO) .bJ)<|bM (.ai .cW)<|cI 1) .params)<|bM (.ai .cW)<|cI 2)
   (sN<|.ifs (.e<|b9 (.eW .ne) (bM (.ai .cW)<|cI 1)<|.ai .later)
    (sN<|.expr<|.cz (.ai .aq) .tm<|wH (b9 .ck (cS .zH)<|cI<|-1)<|bM (.ai .cW)<|cI 1) .nil))
   (sN<|.ifs (iz (bM (.ai .cW)<|cI 0)<|.fS .BRANCH)
    (sC (.expr<|.cz (.ai .aq) .tm<|wH (uC .ck (cS .fE) (bM (.ai .of)<|bM (.ai .cW)<|cI 1)<|cI<|-1)<|bM (.ai .cW)<|cI 3)
    (sN<|.ifs (.e<|b9 (.eW .ne) (bM (.ai .cW)<|cI 2)<|.ai .later)
     (sN<|.expr<|.cz (.ai .aq) .tm<|wH (b9 .ck (cS .zH)<|cI<|-1)<|bM (.ai .cW)<|cI 2) .nil))
    (sN<|.expr<|.cz (.ai .aq) .emit<|dq<|uC .ck (cS .cU) (bM (.ai .of)<|bM (.ai .cW)<|cI 1)<|iG .cG (bM (.ai .cW)<|cI 2)<|.ai .of))))))))
def gI:Ss:=
 (sC (.d_ .aB<|e_ .dR<|a8 (.ai .aq) .ak)
 (sC (.du (.many [.at_,.ab]) .it (dq<|a8 (.ai .aq) .A7)
  (sN<|.bR (.ai .aB) (.ai .at_)<|b9 (.fA .add) (e_ (.slice .zM)<|bM (.ai .aB)<|.ai .at_)<|e_ .ck<|bM (a8 (.ai .aq) .starts)<|.ai .ab))
 (sN<|.ret<|.ai .aB)))
def k5:Ss:=
 (sN<|.ret<|b9 (.fA .add) (a8 (a8 (.ai .aq) .fN) .aj)<|e_ .intOf<|a8 (.ai .aq) .ji)
def nL:Ss:=
 (sC (.du (.one .ax) .it (dq<|.ai .v5)
  (sN<|.ifs (.e<|b9 (.eW .gU) (.ai .ax)<|.ai .met)
   (sN<|.ret<|.ai .ax) .nil))
 (sN<|.ret<|.hD .none))
def iW:Ss:=
 (sC (.d_ .met<|.ay (.wF 0 true) .nil)
 (sC (.d_ .aB<|.ay .bb .nil)
 (sC (.d_ .dy<|e_ .bb<|cI 0)
 (sC (.iI (.e<|b9 (.eW .ne) (.ai .dy)<|.ay .bb .nil)
  (sC (.d_ .ax<|.iT .pop (.ai .dy) .nil)
  (sN<|.iI (.e<|b9 (.eW .Bb) (.ai .ax)<|.hD .none)
   (sC (rR (.ai .aB)<|.ai .ax)
   (sC (.d_ .e6<|sq .gE<|a8 (bM (a8 (.ai .bO) .bJ)<|.ai .ax) .cW)
   (sC (.d_ .ax<|iG .kA (.ai .e6)<|.ai .met)
   (sN<|.du (.one .bH) .it (dq<|.ai .e6)
    (sC (.ifs (.op true<|.cons (.e<|b9 (.eW .gU) (.ai .bH)<|.ai .met)<|.cons (.e<|b9 (.eW .ne) (.ai .bH)<|.ai .ax) .nil)
     (sN<|rR (.ai .dy)<|.ai .bH) .nil)
    (sN<|.bR (.ai .met) (.ai .bH)<|.hD<|.bool true)))))))))
 (sN<|.ret<|.ai .aB)))))
def hO:Ss:=
 (sC (.d_ .oO<|.new .oP<|wH (.ai .bO)<|.ai .fN)
 (sC (.d_ .order<|sq .wC<|.ai .bO)
 (sC (.du (.many [.at_,.ax]) .uz (dq<|.ai .order)
  (sC (.d_ .later<|.ite (.e<|b9 (.eW .lt) (b9 (.fA .add) (.ai .at_)<|cI 1)<|e_ .len<|.ai .order) (bM (.ai .order)<|b9 (.fA .add) (.ai .at_)<|cI 1)<|.hD .none)
  (sN<|.expr<|.cz (.ai .oO) .si<|wH (bM (a8 (.ai .bO) .bJ)<|.ai .ax)<|.ai .later)))
 (sN<|.ret<|.new .dP<|FM (a8 (.ai .bO) .ax) (a8 (.ai .bO) .kr) (a8 (.ai .bO) .bA) (a8 (.ai .bO) .fF) (a8 (.ai .bO) .ba) (.cz (.ai .oO) .bi .nil) (a8 (.ai .bO) .free)<|.cz (.ai .oO) .finished .nil))))
def yS:Ss:=
 (sC (.d_ .cD<|.new .dh .nil)
 (sC (.d_ .cC<|.comp (iG .ik (.ai .bO)<|sq .lJ<|.ai .bO) (.one .bO) .it (dq<|iG .lowered (.ai .dX)<|.ai .cD) .tt<|lD [.fO,.bO] [(.ik,.bK),(.lJ,.bK)])
 (sN<|.ret<|.new .Unit<|Bi (.ai .cC) (a8 (.ai .cD) .bE) (a8 (.ai .cD) .dW)<|a8 (.ai .dX) .fh)))
def wK:Ss:=
 (sC (.ar (.ai .aq) .bL<|.ai .bL)
 (sC (.ar (.ai .aq) .op<|.ai .op)
 (sC (.ar (.ai .aq) .data<|.ai .data)
 (sN<|.ar (.ai .aq) .args (.ai .args)))))
def tC:Ss:=
 (sC (.ar (.ai .aq) .aH<|.ai .aH)
 (sC (.ar (.ai .aq) .head<|.ai .head)
 (sC (.ar (.ai .aq) .args (.ai .args))
 (sC (.ar (.ai .aq) .k<|.ai .k)
 (sN<|.ar (.ai .aq) .bJ<|.ai .bJ)))))
def rU:Ss:=
 (sC (.ar (.ai .aq) .ax<|.ai .ax)
 (sC (.ar (.ai .aq) .params<|.ai .params)
 (sC (.ar (.ai .aq) .ao<|.ay .bb .nil)
 (sN<|.ar (.ai .aq) .last<|.hD .none))))
def tD:Ss:=
 (sC (.ar (.ai .aq) .ax<|.ai .ax)
 (sC (.ar (.ai .aq) .aH<|.ai .aH)
 (sC (.ar (.ai .aq) .params<|.ay .bb .nil)
 (sC (.ar (.ai .aq) .rest<|cI<|-1)
 (sC (.ar (.ai .aq) .lH<|.hD<|.bool false)
 (sC (.ar (.ai .aq) .qj<|cI 0)
 (sC (.ar (.ai .aq) .az<|cI 0)
 (sC (.ar (.ai .aq) .bJ<|.ay .bb .nil)
 (sN<|.ar (.ai .aq) .name (cS .empty))))))))))
def pR:Ss:=
 (sC (.ar (.ai .aq) .units<|.ay .bb .nil)
 (sN<|.ar (.ai .aq) .fh<|cI 0))
def wL:Ss:=
 (sC (.bR (.ai .b_) (cI 1)<|b9 (.fA .add) (bM (.ai .b_)<|cI 1)<|cI 1)
 (sC (.ifs (.e<|b9 (.eW .le) (bM (.ai .b_)<|cI 1)<|e_ .len<|bM (.ai .b_)<|cI 0)
  (sN<|.ret<|b9 (.fA .mod) (bM (bM (.ai .b_)<|cI 0)<|b9 (.fA .sub) (bM (.ai .b_)<|cI 1)<|cI 1)<|.ai .many) .nil)
 (sN<|.ret<|b9 (.fA .mod) (b9 (.fA .fdiv) (b9 (.fA .add) (b9 (.fA .add) (b9 (.fA .mul) (b9 (.fA .mul) (bM (.ai .b_)<|cI 1)<|bM (.ai .b_)<|cI 1)<|cI 31)<|b9 (.fA .mul) (cI 17)<|bM (.ai .b_)<|cI 1)<|b9 (.fA .mul) (cI 5)<|e_ .len<|bM (.ai .b_)<|cI 0)<|cI 7)<|.ai .many)))
def yT:Ss:=
 (sC (.d_ .way<|iG .b6 (.ai .b_)<|cI 4)
 (sC (.ifs (iz (.ai .way)<|cI 0)
  (sN<|.ret<|b9 .ck (cS .hD)<|bM (.ay .bb<|Qh (cI 1) (.hD<|.bool true) (.hD<|.bool false) (cI 0)<|cI 2)<|iG .b6 (.ai .b_)<|cI 5) .nil)
 (sC (.ifs (.op false<|.cons (iz (.ai .way)<|cI 1)<|.cons (iz (.ai .bT)<|.ay .bb .nil) .nil)
  (sN<|.ret<|b9 .ck (cS .free)<|iG .b6 (.ai .b_)<|cI 2) .nil)
 (sN<|.ret<|b9 .ck (cS .bL)<|bM (.ai .bT)<|iG .b6 (.ai .b_)<|e_ .len<|.ai .bT))))
def wM:Ss:=
 (sC (.ar (.ai .bO) .az<|b9 (.fA .add) (a8 (.ai .bO) .az)<|cI 1)
 (sC (rR (.ai .bT)<|b9 (.fA .sub) (a8 (.ai .bO) .az)<|cI 1)
 (sN<|.ret<|b9 (.fA .sub) (a8 (.ai .bO) .az)<|cI 1)))
def yU:Ss:=
 (sC (.unpack [.way,.args]<|b9 .ck (iG .b6 (.ai .b_)<|cI 7)<|.comp (iG .dI (.ai .b_)<|.ai .bT) (.one .jt) .range (dq<|cI 2) .tt<|lD [.fO,.jt] [(.dI,.bK),(.b_,.iH),(.bT,.iH)])
 (sC (.ifs (iz (.ai .way)<|cI 0)
  (sN<|.ret<|.new .ym<|Bi (iG .dJ (.ai .bO)<|.ai .bT) (cS .hD) (bM (uC .bb (cI 1) (.hD<|.bool true)<|cI 0)<|iG .b6 (.ai .b_)<|cI 3)<|.ay .bb .nil) .nil)
 (sC (.ifs (iz (.ai .way)<|cI 1)
  (sN<|.ret<|.new .ym<|Bi (iG .dJ (.ai .bO)<|.ai .bT) (cS .global) (b9 (.fA .add) (cI 10)<|iG .b6 (.ai .b_)<|cI 3)<|.ay .bb .nil) .nil)
 (sC (.ifs (iz (.ai .way)<|cI 2)
  (sN<|.ret<|.new .ym<|Bi (cI<|-1) (.ite (iz (iG .b6 (.ai .b_)<|cI 2)<|cI 0) (cS .jw)<|cS .eN) (b9 (.fA .add) (cI 10)<|iG .b6 (.ai .b_)<|cI 3)<|e_ (.slice .SO)<|.ai .args) .nil)
 (sC (.ifs (iz (.ai .way)<|cI 3)
  (sN<|.ret<|.new .ym<|Bi (iG .dJ (.ai .bO)<|.ai .bT) (cS .bt) (iG .b6 (.ai .b_)<|cI 3)<|.ai .args) .nil)
 (sC (.ifs (iz (.ai .way)<|cI 4)
  (sC (.unpack [.one,.bH]<|b9 .ck (iG .dJ (.ai .bO)<|.ai .bT)<|iG .dJ (.ai .bO)<|.ai .bT)
  (sN<|.ret<|.new .ym<|Bi (cI<|-1) (cS .wB) (b9 .bb (uC .ck (.ai .one) (cI 1)<|b9 .bb (b9 .ck (cS .bL)<|.ai .bH)<|bM (.ai .args)<|cI 0)<|uC .ck (.ai .bH) (cI 2)<|e_ .bb<|b9 .ck (cS .bL)<|.ai .one)<|.ay .bb .nil)) .nil)
 (sN<|.ret<|.new .ym<|Bi (.ite (iz (.ai .way)<|cI 5) (cI<|-1)<|iG .dJ (.ai .bO)<|.ai .bT) (cS .ay) (iG .b6 (.ai .b_)<|cI 4)<|.ai .args)))))))
def vh:Ss:=
 (sC (.d_ .ab<|.new .hJ<|wH (e_ .len<|a8 (.ai .bO) .bJ)<|.ai .params)
 (sC (rR (a8 (.ai .bO) .bJ)<|.ai .ab)
 (sC (.expr<|.iT .extend (.ai .bT)<|dq<|.ai .params)
 (sC (.du (.one .jt) .range (dq<|b9 (.fA .add) (cI 1)<|iG .b6 (.ai .b_)<|cI 2)
  (sN<|rR (a8 (.ai .ab) .ao)<|Ij .q_ (.ai .b_) (.ai .bO)<|.ai .bT))
 (sN<|.ret<|.ai .ab)))))
def sy:Ss:=
 (sC (.unpack [.bO,.bT]<|b9 .ck (.new .dz<|wH (.ai .ax)<|.ite (iz (iG .b6 (.ai .b_)<|cI 2)<|cI 0) (cS .aD)<|cS .cont)<|.ay .bb .nil)
 (sC (.lT (.ai .bO) .name (.ai .bO) .qj (b9 .ck (cS .iO)<|cI 2))
 (sC (.ar (.ai .bO) .params<|.comp (iG .dJ (.ai .bO)<|.ai .bT) (.one .jt) .range (dq<|b9 (.fA .add) (cI 1)<|iG .b6 (.ai .b_)<|cI 3) .tt<|lD [.fO,.jt] [(.dJ,.bK),(.bT,.iH),(.bO,.iH)])
 (sC (.d_ .way<|iG .b6 (.ai .b_)<|cI 3)
 (sC (.ifs (iz (.ai .way)<|cI 1)
  (sN<|.ar (.ai .bO) .rest<|iG .dJ (.ai .bO)<|.ai .bT) .nil)
 (sC (.ar (.ai .bO) .lH<|b9 (.eW .eq) (.ai .way)<|cI 2)
 (sC (.d_ .first (SQ .iu (.ai .b_) (.ai .bO) (.ai .bT)<|.ay .bb .nil))
 (sC (.ifs (iz (iG .b6 (.ai .b_)<|cI 3)<|cI 0)
  (sC (.d_ .args (.comp (iG .dI (.ai .b_)<|.ai .bT) (.one .jt) .range (dq<|cI 2) .tt<|lD [.fO,.jt] [(.dI,.bK),(.b_,.iH),(.bT,.iH)]))
  (sC (.ar (.ai .first) .last<|.new .gw<|Qh (cS .cU) (.hD .none) (.ai .args) (iG .dI (.ai .b_)<|.ai .bT)<|.ay .bb .nil)
  (sN<|.ret<|.ai .bO))) .nil)
 (sC (.ar (.ai .first) .last<|.new .gw<|Qh (cS .SM) (iG .dI (.ai .b_)<|.ai .bT) (.ay .bb .nil) (.hD .none)<|b9 .bb (cI 1)<|cI 2)
 (sC (.du (.one .jt) .range (dq<|cI 2)
  (sC (.d_ .own<|e_ .dR<|.ai .bT)
  (sC (.d_ .ab<|SQ .iu (.ai .b_) (.ai .bO) (.ai .own)<|.ay .bb .nil)
  (sN<|.ar (.ai .ab) .last<|.new .gw<|Qh (cS .dj) (.hD .none) (b9 .bb (iG .dI (.ai .b_)<|.ai .own)<|iG .dI (.ai .b_)<|.ai .own) (.hD .none)<|e_ .bb<|cI 3))))
 (sC (.d_ .last<|SQ .iu (.ai .b_) (.ai .bO) (.ai .bT)<|b9 .bb (iG .dJ (.ai .bO)<|.ay .bb .nil)<|iG .dJ (.ai .bO)<|.ay .bb .nil)
 (sC (.d_ .args (.comp (iG .dI (.ai .b_)<|.ai .bT) (.one .jt) .range (dq<|cI 2) .tt<|lD [.fO,.jt] [(.dI,.bK),(.b_,.iH),(.bT,.iH)]))
 (sC (.ar (.ai .last) .last<|.new .gw<|Qh (cS .call) (iG .dI (.ai .b_)<|.ai .bT) (.ai .args) (iG .dI (.ai .b_)<|.ai .bT)<|.ay .bb .nil)
 (sN<|.ret<|.ai .bO))))))))))))))
def mZ:Ss:=
 (sC (.ifs (iz (bM (.ai .arg)<|cI 0)<|cS .hD)
  (sN<|.ret<|b9 .ck (cS .hD)<|e_ .repr<|bM (.ai .arg)<|cI 1) .nil)
 (sN<|.ret<|.ite (iz (bM (.ai .arg)<|cI 0)<|cS .bL) (bM (.ai .bz)<|bM (.ai .arg)<|cI 1)<|b9 .ck (cS .free)<|bM (.ai .arg)<|cI 1))
def sA:Ss:=
 (sC (.du (.many [.bL,.ax,.args]) .it (dq<|.ai .rows)
  (sN<|.bR (.ai .bz) (.ai .bL)<|uC .ck (cS .made) (e_ .len<|.ai .eV)<|.ai .ax))
 (sN<|rR (.ai .eV)<|b9 .ck (cS .fix)<|.comp (.comp (iG .dD (.ai .bz)<|.ai .arg) (.one .arg) .it (dq<|.ai .args) .tt<|lD [.fO,.arg] [(.dD,.bK),(.bz,.iH)]) (.many [.bL,.ax,.args]) .it (dq<|.ai .rows) .tt<|lD [.fO,.bL,.ax,.args] [(.bz,.iH)]))
def bU:Ss:=
 (sC (.unpack [.bz,.eV,.at_,.left]<|.ay .ck<|Bi (.ay .emptyDict .nil) (.ay .bb .nil) (cI 0)<|e_ .dR<|.ai .qo)
 (sC (.du (.one .bL) .it (dq<|b9 (.fA .add) (a8 (.ai .bO) .params)<|.ite (.e<|b9 (.eW .ge) (a8 (.ai .bO) .rest)<|cI 0) (e_ .bb<|a8 (.ai .bO) .rest)<|.ay .bb .nil)
  (sN<|.bR (.ai .bz) (.ai .bL)<|b9 .ck (cS .WR)<|.ai .bL))
 (sN<|.iI (.e<|.hD<|.bool true)
  (sC (.du (.one .op) .it (dq<|a8 (bM (a8 (.ai .bO) .bJ)<|.ai .at_) .ao)
   (sC (.d_ .dQ<|.comp (iG .dD (.ai .bz)<|.ai .arg) (.one .arg) .it (dq<|a8 (.ai .op) .args) .tt<|lD [.fO,.arg] [(.dD,.bK),(.bz,.iH)])
   (sN<|.ifs (iz (a8 (.ai .op) .op)<|cS .wB)
    (sN<|.expr<|Ij .lO (.ai .bz) (.ai .eV)<|a8 (.ai .op) .data)
    (sN<|.ifs (.e<|b9 (.eW .isin) (a8 (.ai .op) .op)<|b9 .ck (cS .jw)<|cS .eN)
     (sN<|rR (.ai .eV)<|uC .ck (a8 (.ai .op) .op) (a8 (.ai .op) .data)<|bM (.ai .dQ)<|cI 0)
     (sC (.d_ .data<|.ite (iz (a8 (.ai .op) .op)<|cS .hD) (e_ .repr<|a8 (.ai .op) .data)<|a8 (.ai .op) .data)
     (sC (.d_ .aB<|b9 (.fA .add) (b9 .ck (a8 (.ai .op) .op)<|.ai .data)<|e_ .gG<|.ai .dQ)
     (sC (.ifs (iz (a8 (.ai .op) .op)<|cS .ay)
      (sC (.d_ .aB<|b9 .ck (cS .result)<|e_ .len<|.ai .eV)
      (sN<|rR (.ai .eV)<|uC .ck (cS .ay) (a8 (.ai .op) .data)<|.ai .dQ)) .nil)
     (sN<|.bR (.ai .bz) (a8 (.ai .op) .bL)<|.ai .aB))))))))
  (sC (.d_ .last<|a8 (bM (a8 (.ai .bO) .bJ)<|.ai .at_) .last)
  (sC (.d_ .dQ<|.comp (iG .dD (.ai .bz)<|.ai .arg) (.one .arg) .it (dq<|a8 (.ai .last) .args) .tt<|lD [.fO,.arg] [(.dD,.bK),(.bz,.iH)])
  (sN<|.ifs (iz (a8 (.ai .last) .aH)<|cS .SM)
   (sC (rR (.ai .eV)<|b9 .ck (cS .test)<|iG .dD (.ai .bz)<|a8 (.ai .last) .head)
   (sN<|.d_ .at_<|bM (a8 (.ai .last) .bJ)<|.iT .nZ (.ai .left)<|dq<|cI 0))
   (sN<|.ifs (iz (a8 (.ai .last) .aH)<|cS .dj)
    (sC (.du (.many [.bL,.value]) .zip (wH (a8 (bM (a8 (.ai .bO) .bJ)<|bM (a8 (.ai .last) .bJ)<|cI 0) .params)<|.ai .dQ)
     (sN<|.bR (.ai .bz) (.ai .bL)<|.ai .value))
    (sN<|.d_ .at_<|bM (a8 (.ai .last) .bJ)<|cI 0))
    (sN<|.ifs (iz (a8 (.ai .last) .aH)<|cS .call)
     (sN<|.ret<|b9 (.fA .add) (.ai .eV)<|e_ .bb<|.ay .ck<|Bi (cS .call) (iG .dD (.ai .bz)<|a8 (.ai .last) .head) (iG .dD (.ai .bz)<|a8 (.ai .last) .k)<|.ai .dQ)
     (sN<|.ret<|b9 (.fA .add) (.ai .eV)<|e_ .bb<|uC .ck (cS .cU) (iG .dD (.ai .bz)<|a8 (.ai .last) .k)<|.ai .dQ))))))))))
def fT:Ss:=
 (sN<|.ifs (iz (bM (.ai .op)<|cI 0)<|cS .hD)
  (sN<|.bR (.ai .bz) (bM (.ai .op)<|cI 1)<|b9 .ck (cS .hD)<|e_ .repr<|bM (a8 (.ai .cX) .bE)<|bM (.ai .op)<|cI 2)
  (sN<|.ifs (iz (bM (.ai .op)<|cI 0)<|cS .free)
   (sN<|.bR (.ai .bz) (bM (.ai .op)<|cI 1)<|b9 .ck (cS .free)<|bM (.ai .op)<|cI 2)
   (sN<|.ifs (iz (bM (.ai .op)<|cI 0)<|cS .move)
    (sN<|.bR (.ai .bz) (bM (.ai .op)<|cI 1)<|bM (.ai .bz)<|bM (.ai .op)<|cI 2)
    (sN<|.ifs (iz (bM (.ai .op)<|cI 0)<|cS .global)
     (sN<|.bR (.ai .bz) (bM (.ai .op)<|cI 1)<|b9 .ck (cS .global)<|bM (a8 (.ai .cX) .globals)<|bM (.ai .op)<|cI 2)
     (sN<|.ifs (.e<|b9 (.eW .isin) (bM (.ai .op)<|cI 0)<|b9 .ck (cS .jw)<|cS .eN)
      (sN<|rR (.ai .eV)<|uC .ck (bM (.ai .op)<|cI 0) (bM (a8 (.ai .cX) .globals)<|bM (.ai .op)<|cI 1)<|bM (.ai .bz)<|bM (.ai .op)<|cI 2)
      (sN<|.ifs (iz (bM (.ai .op)<|cI 0)<|cS .fix)
       (sN<|.expr<|Ij .lO (.ai .bz) (.ai .eV)<|.comp (uC .ck (bM (.ai .row)<|cI 0) (bM (.ai .row)<|cI 1)<|.comp (b9 .ck (cS .bL)<|.ai .cB) (.one .cB) .it (dq<|bM (.ai .row)<|cI 2) .tt<|lC [.fO,.cB]) (.one .row) .it (dq<|bM (.ai .op)<|cI 1) .tt<|lC [.fO,.row])
       (sN<|.ifs (iz (bM (.ai .op)<|cI 0)<|cS .ay)
        (sC (.d_ .dQ<|.comp (bM (.ai .bz)<|.ai .cB) (.one .cB) .it (dq<|bM (.ai .op)<|cI 3) .tt<|lD [.fO,.cB] [(.bz,.iH)])
        (sC (.bR (.ai .bz) (bM (.ai .op)<|cI 1)<|b9 .ck (cS .result)<|e_ .len<|.ai .eV)
        (sN<|rR (.ai .eV)<|uC .ck (cS .ay) (bM (.ai .op)<|cI 2)<|.ai .dQ)))
        (sN<|.bR (.ai .bz) (bM (.ai .op)<|cI 1)<|b9 (.fA .add) (b9 .ck (cS .bt)<|bM (.ai .op)<|cI 2)<|e_ .gG<|.comp (bM (.ai .bz)<|.ai .cB) (.one .cB) .it (dq<|bM (.ai .op)<|cI 3) .tt<|lD [.fO,.cB] [(.bz,.iH)]))))))))
def rc:Ss:=
 (sC (.unpack [.bz,.eV,.at_,.left]<|.ay .ck<|Bi (.ay .emptyDict .nil) (.ay .bb .nil) (cI 0)<|e_ .dR<|.ai .qo)
 (sC (.du (.many [.aa,.bL]) .uz (dq<|.ai .fQ)
  (sN<|.bR (.ai .bz) (.ai .aa)<|b9 .ck (cS .WR)<|.ai .bL))
 (sC (.zN
  (sN<|.du (.one .jt) .range (dq<|cI 80)
   (sC (.d_ .op<|bM (a8 (.ai .code) .ak)<|.ai .at_)
   (sC (.d_ .at_<|b9 (.fA .add) (.ai .at_)<|cI 1)
   (sN<|.ifs (iz (bM (.ai .op)<|cI 0)<|cS .zH)
    (sN<|.d_ .at_<|bM (.ai .op)<|cI 1)
    (sN<|.ifs (iz (bM (.ai .op)<|cI 0)<|cS .fE)
     (sC (rR (.ai .eV)<|b9 .ck (cS .test)<|bM (.ai .bz)<|bM (.ai .op)<|cI 1)
     (sN<|.d_ .at_<|.ite (iz (.iT .nZ (.ai .left)<|dq<|cI 0)<|cI 0) (.ai .at_)<|bM (.ai .op)<|cI 2))
     (sN<|.ifs (iz (bM (.ai .op)<|cI 0)<|cS .call)
      (sC (rR (.ai .eV)<|.ay .ck<|Bi (cS .call) (bM (.ai .bz)<|bM (.ai .op)<|cI 1) (bM (.ai .bz)<|bM (.ai .op)<|cI 2)<|.comp (bM (.ai .bz)<|.ai .cB) (.one .cB) .it (dq<|bM (.ai .op)<|cI 3) .tt<|lD [.fO,.cB] [(.bz,.iH)])
      (sN<|.ret<|.ite (.e<|b9 (.eW .lt) (e_ .ke<|.ai .bz)<|a8 (.ai .code) .bi) (.ai .eV)<|.hD .none))
      (sN<|.ifs (iz (bM (.ai .op)<|cI 0)<|cS .cU)
       (sC (rR (.ai .eV)<|uC .ck (cS .cU) (bM (.ai .bz)<|bM (.ai .op)<|cI 1)<|.comp (bM (.ai .bz)<|.ai .cB) (.one .cB) .it (dq<|bM (.ai .op)<|cI 2) .tt<|lD [.fO,.cB] [(.bz,.iH)])
       (sN<|.ret<|.ite (.e<|b9 (.eW .lt) (e_ .ke<|.ai .bz)<|a8 (.ai .code) .bi) (.ai .eV)<|.hD .none))
       (sN<|.expr<|SQ .qp (.ai .cX) (.ai .bz) (.ai .eV)<|.ai .op)))))))))
 (sN<|.ret<|.hD .none))))
def tE:Ss:=
 (sC (.unpack [.b_,.dX]<|b9 .ck (b9 .bb (e_ (.slice .Ib)<|e_ .dR<|.ai .nD)<|cI 0)<|.new .lP .nil)
 (sC (.du (.one .ax) .range (dq<|b9 (.fA .add) (cI 1)<|iG .b6 (.ai .b_)<|cI 2)
  (sN<|rR (a8 (.ai .dX) .units)<|iG .qq (.ai .b_)<|.ai .ax))
 (sC (.ar (.ai .dX) .fh<|iG .b6 (.ai .b_)<|e_ .len<|a8 (.ai .dX) .units)
 (sC (.d_ .cX<|sq .tq<|.ai .dX)
 (sC (.ifs (.op false<|.cons (.e<|b9 (.eW .ne) (e_ .len<|a8 (.ai .cX) .cC)<|e_ .len<|a8 (.ai .dX) .units)<|.cons (.e<|b9 (.eW .ne) (a8 (.ai .cX) .fh)<|a8 (.ai .dX) .fh) .nil)
  (sN<|.ret<|.hD<|.bool false) .nil)
 (sC (.du (.many [.cM,.code]) .zip (wH (a8 (.ai .dX) .units)<|a8 (.ai .cX) .cC)
  (sC (.d_ .fQ<|b9 (.fA .add) (a8 (.ai .cM) .params)<|.ite (.e<|b9 (.eW .ge) (a8 (.ai .cM) .rest)<|cI 0) (e_ .bb<|a8 (.ai .cM) .rest)<|.ay .bb .nil)
  (sC (.d_ .many<|b9 (.fA .sub) (e_ .len<|a8 (.ai .cM) .params)<|.ite (iz (a8 (.ai .cM) .aH)<|cS .aD) (cI 1)<|cI 0)
  (sC (.d_ .eV<|.ay .bb<|Qh (a8 (.ai .code) .ax) (a8 (.ai .code) .kr) (a8 (.ai .code) .ba) (a8 (.ai .code) .bA)<|a8 (.ai .code) .free)
  (sC (.ifs (.e<|b9 (.eW .ne) (.ai .eV)<|.ay .bb<|Qh (a8 (.ai .cM) .ax) (cS .iO) (b9 (.eW .eq) (a8 (.ai .cM) .aH)<|cS .cont) (.ai .many)<|cI 2)
   (sN<|.ret<|.hD<|.bool false) .nil)
  (sC (.ifs (.e<|b9 (.eW .ne) (a8 (.ai .code) .fF)<|.lS false<|wH (b9 (.eW .ge) (a8 (.ai .cM) .rest)<|cI 0)<|a8 (.ai .cM) .lH)
   (sN<|.ret<|.hD<|.bool false) .nil)
  (sN<|.du (.one .qo) .it (dq<|b9 .ck (e_ .bb<|cI 0)<|e_ .bb<|cI 1)
   (sN<|.ifs (.e<|.jE (SQ .j_ (.ai .cX) (.ai .code) (.ai .fQ)<|.ai .qo)<|iG .fR (.ai .cM)<|.ai .qo)
    (sN<|.ret<|.hD<|.bool false) .nil))))))))
 (sC (.d_ .alike<|.comp (e_ .repr<|.ai .fG) (.one .fG) .it (dq<|a8 (.ai .cX) .bE) .tt<|lD [.fO,.fG] [(.repr,.bK)])
 (sN<|.ret<|.lS true<|wH (b9 (.eW .eq) (e_ .oR<|.ai .alike)<|e_ .len<|.ai .alike)<|b9 (.eW .eq) (e_ .oR<|a8 (.ai .cX) .globals)<|e_ .len<|a8 (.ai .cX) .globals))))))))
def ft(f:Fn):List Vr:=eF [] [[.aq,.ax,.kr,.bA,.fF,.ba,.bi,.free,.ak],[.aq,.cC,.bE,.dW,.fh],[.ae],[.ae],[.ae],[.aq,.ax,.text],[.aq,.code],[.aq,.codes],[.aq,.ax,.params],[.aq,.ax,.kr,.ba],[.aq],[.one,.bH],[.fG],[.aq],[.aq,.fG],[.aq,.symbol],[.aq,.bO,.cD,.ab],[.aq,.op],[.aq,.at_],[.aq,.fG],[.aq,.arg],[.aq,.args],[.aq,.bL],[.aq,.op],[.aq,.last],[.bO,.cD,.ab],[.bO,.dw],[.dw,.cD],[.dX,.cD],[.cW],[.cW],[.bi],[.ku],[.ku,.aa],[.ku,.bH],[.bO,.ab,.dO],[.op,.eA],[.bO,.ab,.dO],[.bO,.ab,.dO],[.bO],[.bO],[.aq,.aj],[.aq,.aa,.ku],[.apart,.op,.eA],[.bO],[.bO],[.bO],[.aq,.of,.aj],[.apart,.of,.aa],[.ku],[.apart,.of,.qm,.aa],[.bO],[.aq,.i5,.aQ],[.aq,.aa],[.aq],[.aq,.dv],[.aq],[.aq,.aa,.bH],[.i5,.aQ,.gF],[.steps,.gF],[.row,.of],[.bi,.of],[.op,.of],[.aq,.bO,.fN],[.aq],[.aq,.ae],[.aq,.ae,.ab],[.aq,.i5,.aQ],[.aq,.ab,.later],[.aq],[.aq],[.v5,.met],[.bO],[.bO,.fN],[.dX],[.aq,.bL,.op,.data,.args],[.aq,.aH,.head,.args,.k,.bJ],[.aq,.ax,.params],[.aq,.ax,.aH],[.aq],[.b_,.many],[.b_,.bT],[.bO,.bT],[.b_,.bO,.bT],[.b_,.bO,.bT,.params],[.b_,.ax],[.bz,.arg],[.bz,.eV,.rows],[.bO,.qo],[.cX,.bz,.eV,.op],[.cX,.code,.fQ,.qo],[.nD]] f.i_.val
def fm(f:Fn):List<|Vr×NK:=eF [] [(lC [.aq,.ax,.kr,.bA,.fF,.ba,.bi,.free,.ak]),
 (lC [.aq,.cC,.bE,.dW,.fh]),
 [(.ae,.e9),(.list,.bK),(.zip,.bK),(.lL,.bK)],
 (lD [.ae,.aB,.aH,.gf,.row] [(.own,.mM),(.fP,.bK)]),
 (lD [.ae,.aB,.aH,.gf] [(.fP,.bK)]),
 (lC [.aq,.ax,.text]),
 (lC [.aq,.code]),
 (lC [.aq,.codes]),
 (lC [.aq,.ax,.params]),
 (lC [.aq,.ax,.kr,.ba]),
 [(.aq,.e9)],
 (lD [.one,.bH] [(.isinstance,.bK),(.bool,.bK),(.int,.bK),(.so,.bK),(.Char,.bK)]),
 [(.fG,.e9),(.isinstance,.bK),(.bool,.bK),(.int,.bK),(.so,.bK),(.Char,.bK),(.Text,.bK),(.tuple,.bK)],
 [(.aq,.e9)],
 (lD [.aq,.fG,.key,.bG] [(.jz,.bK),(.iQ,.bK),(.len,.bK)]),
 (lD [.aq,.symbol] [(.len,.bK)]),
 (lC [.aq,.bO,.cD,.ab]),
 (lC [.aq,.op]),
 (lC [.aq,.at_,.aa]),
 (lC [.aq,.fG,.bG,.aa]),
 (lC [.aq,.arg]),
 [(.aq,.mM),(.args,.e9),(.tuple,.bK)],
 (lC [.aq,.bL]),
 [(.aq,.mM),(.op,.e9),(.cB,.e9),(.aQ,.e9),(.rows,.e9),(.tuple,.bK)],
 (lD [.aq,.last,.head,.args,.dv] [(.vN,.bK),(.yr,.bK),(.rK,.bK),(.BRANCH,.bK)]),
 (lD [.bO,.cD,.ab,.aB,.li,.op] [(.eZ,.bK),(.list,.bK),(.e7,.bK)]),
 (lD [.bO,.dw] [(.list,.bK),(.len,.bK)]),
 (lD [.dw,.cD,.bO,.ab] [(.b7,.bK),(.C4,.bK),(.tn,.bK),(.lI,.bK)]),
 [(.dX,.e9),(.cD,.mM)],
 [(.cW,.e9),(.vN,.bK),(.list,.bK),(.yr,.bK),(.rK,.bK)],
 [(.cW,.e9),(.rK,.bK),(.BRANCH,.bK)],
 (lC [.bi,.aB,.aa]),
 (lC [.ku,.aB,.at_]),
 (lC [.ku,.aa]),
 (lC [.ku,.bH]),
 (lD [.bO,.ab,.dO,.aB,.ax] [(.gC,.bK),(.jZ,.bK),(.gE,.bK),(.without,.bK)]),
 (lD [.op,.eA] [(.without,.bK),(.gC,.bK),(.b8,.bK),(.fj,.bK)]),
 (lD [.bO,.ab,.dO,.eA,.aB,.op] [(.hG,.bK),(.i9,.bK)]),
 (lD [.bO,.ab,.dO,.eA,.op] [(.hG,.bK),(.i9,.bK)]),
 (lD [.bO,.dO] [(.dy,.mM),(.ahead,.e9),(.ax,.e9),(.aB,.e9),(.len,.bK),(.list,.bK),(.range,.bK),(.ij,.bK),(.iR,.bK)]),
 (lD [.bO,.ab,.aB,.ax] [(.gE,.bK)]),
 (lC [.aq,.aj]),
 (lD [.aq,.aa,.ku,.others,.bH] [(.without,.bK),(.oN,.bK)]),
 (lD [.apart,.op,.eA,.written,.around,.aa] [(.b8,.bK),(.gC,.bK),(.fj,.bK)]),
 (lD [.bO,.dO,.apart,.ah,.aa,.ab,.params,.op,.eA] [(.nU,.bK),(.aK,.bK),(.gC,.bK),(.zip,.bK),(.kx,.bK),(.uy,.bK)]),
 (lD [.bO,.aB,.aa,.ab,.op] [(.b8,.bK),(.list,.bK)]),
 (lD [.bO,.aB,.ab,.cB,.dv] [(.range,.bK),(.rK,.bK),(.zip,.bK)]),
 (lC [.aq,.of,.aj]),
 (lD [.apart,.of,.aa,.aB,.bH] [(.oN,.bK)]),
 (lD [.ku,.at_] [(.ve,.bK)]),
 (lD [.apart,.of,.qm,.aa,.taken,.bH] [(.jA,.bK),(.ve,.bK),(.ky,.bK)]),
 (lD [.bO,.apart,.qm,.of,.bG,.aa,.aj] [(.qn,.bK),(.nV,.bK),(.enumerate,.bK),(.kz,.bK),(.jB,.bK),(.len,.bK),(.max,.bK),(.hH,.bK)]),
 (lD [.aq,.i5,.aQ,.dv,.cB] [(.zip,.bK)]),
 [(.aq,.mM),(.aa,.mM),(.any,.bK)],
 (lC [.aq,.dv]),
 (lC [.aq,.dv]),
 [(.aq,.e9),(.list,.bK)],
 (lD [.aq,.aa,.bH,.dv] [(.list,.bK)]),
 (lD [.i5,.aQ,.gF,.row,.aB,.dv] [(.dY,.bK)]),
 [(.steps,.e9),(.gF,.mM),(.any,.bK)],
 (lD [.row,.of] [(.cG,.bK)]),
 [(.bi,.e9),(.of,.mM),(.tuple,.bK)],
 [(.op,.e9),(.of,.mM),(.word,.e9),(.cG,.bK),(.tuple,.bK)],
 (lC [.aq,.bO,.fN]),
 [(.aq,.e9),(.len,.bK)],
 (lC [.aq,.ae]),
 (lC [.aq,.ae,.ab]),
 (lD [.aq,.i5,.aQ,.of,.steps,.step] [(.lM,.bK),(.cG,.bK),(.iS,.bK)]),
 (lD [.aq,.ab,.later,.of,.op,.cW] [(.nW,.bK),(.vN,.bK),(.cG,.bK),(.rK,.bK),(.BRANCH,.bK)]),
 (lD [.aq,.aB,.at_,.ab] [(.list,.bK)]),
 [(.aq,.e9),(.int,.bK)],
 (lC [.v5,.met,.ax]),
 (lD [.bO,.met,.aB,.dy,.ax,.e6,.bH] [(.gE,.bK),(.kA,.bK)]),
 (lD [.bO,.fN,.oO,.order,.at_,.ax,.later] [(.oP,.bK),(.wC,.bK),(.enumerate,.bK),(.len,.bK),(.dP,.bK)]),
 (lD [.dX,.cD,.cC] [(.dh,.bK),(.lowered,.bK),(.Unit,.bK)]),
 (lC [.aq,.bL,.op,.data,.args]),
 (lC [.aq,.aH,.head,.args,.k,.bJ]),
 (lC [.aq,.ax,.params]),
 (lC [.aq,.ax,.aH]),
 [(.aq,.e9)],
 (lD [.b_,.many] [(.len,.bK)]),
 (lD [.b_,.bT,.way] [(.b6,.bK),(.len,.bK)]),
 (lC [.bO,.bT]),
 [(.b_,.mM),(.bO,.e9),(.bT,.mM),(.way,.e9),(.args,.e9),(.one,.e9),(.bH,.e9),(.b6,.bK),(.range,.bK),(.ym,.bK),(.dJ,.bK)],
 (lD [.b_,.bO,.bT,.params,.ab,.jt] [(.hJ,.bK),(.len,.bK),(.range,.bK),(.b6,.bK),(.q_,.bK)]),
 [(.b_,.mM),(.ax,.e9),(.bO,.mM),(.bT,.mM),(.jt,.e9),(.way,.e9),(.first,.e9),(.args,.e9),(.own,.e9),(.ab,.e9),(.last,.e9),(.dz,.bK),(.b6,.bK),(.range,.bK),(.dJ,.bK),(.iu,.bK),(.gw,.bK),(.dI,.bK),(.list,.bK)],
 (lD [.bz,.arg] [(.repr,.bK)]),
 [(.bz,.mM),(.eV,.e9),(.rows,.e9),(.bL,.e9),(.ax,.e9),(.args,.e9),(.len,.bK)],
 (lD [.bO,.qo] [(.bz,.mM),(.eV,.e9),(.at_,.e9),(.left,.e9),(.bL,.e9),(.op,.e9),(.dQ,.e9),(.data,.e9),(.aB,.e9),(.last,.e9),(.value,.e9),(.list,.bK),(.lO,.bK),(.repr,.bK),(.tuple,.bK),(.len,.bK),(.dD,.bK),(.zip,.bK)]),
 [(.cX,.e9),(.bz,.mM),(.eV,.e9),(.op,.e9),(.dQ,.e9),(.repr,.bK),(.lO,.bK),(.len,.bK),(.tuple,.bK)],
 (lD [.cX,.code,.fQ,.qo] [(.bz,.mM),(.eV,.e9),(.at_,.e9),(.left,.e9),(.aa,.e9),(.bL,.e9),(.jt,.e9),(.op,.e9),(.list,.bK),(.enumerate,.bK),(.range,.bK),(.max,.bK),(.qp,.bK),(.KeyError,.bK)]),
 (lD [.nD,.b_,.dX,.ax,.cX,.cM,.code,.fQ,.many,.eV,.qo,.alike] [(.list,.bK),(.lP,.bK),(.range,.bK),(.b6,.bK),(.qq,.bK),(.len,.bK),(.tq,.bK),(.zip,.bK),(.j_,.bK),(.fR,.bK),(.set,.bK)])] f.i_.val
def h8(f:Fn):Ss:=eF .nil [og,vg,i7,iA,gh,yx,Bj,Bk,pO,qs,pP,kP,lU,rS,jk,jY,qt,qu,jm,gX,gH,iJ,j4,cN,eD,qw,uD,wI,yP,kE,lm,yQ,uE,EN,yR,nH,tx,nI,kQ,mU,jF,tA,qz,wJ,su,nJ,mV,rT,lV,nK,lW,kF,lY,k4,gP,qA,jG,iV,fH,pQ,tB,lZ,fI,qB,qC,qD,mW,kR,cj,gI,k5,nL,iW,hO,yS,wK,tC,rU,tD,pR,wL,yT,wM,yU,vh,sy,mZ,sA,bU,fT,rc,tE] f.i_.val
def Ik(T:Sp)(f:Fn)(a:List V)(Q:V->Hp->Prop)(h:Hp):Prop:=
 (ft f).length=a.length/\gp T (h8 f) (λb s=>match b with|.next=>Q .none s.h|.ret v=>Q v s.h) ⟨iU (ft f) a λ_=>none,h⟩
def Tn:Nat->Sp
 |0=>λ_ _ _ _=>False
 |n+1=>Ik<|Tn n
def v7:Prop:=∀b:List Int,b.length<=63->∀a:Nat,gp (Tn 10) (h8 .A2) (λc _=>c=.ret (.bool true)) ⟨bX (λ_=>none) .nD<|.ref a,h9 (λ_=>none) a<|.ro<|b.map V.int⟩
set_option backward.match.sparseCases false
set_option genCtorIdx false
set_option tactic.hygienic false
set_option linter.all false
set_option bootstrap.genMatcherCode false
local macro_rules | `(tactic| cases $h:ident) => `(tactic| first | exact Ku $h | exact Kv $h | exact Kw $h | exact Kx $h | (replace $h := Option.some.inj $h; subst $h) | cases ($h))
local macro_rules | `(tactic| walk_at "mem") => `(tactic| first | assumption | exact .head _ | (refine .tail _ ?_; walk_at "mem"))
def Ln.Y4(c:List Nat):Nat->Nat:=c.rec (λ_=>0) λa _ k i=>i.rec a λj _=>k j
def Ln.dot(c:List Nat):List Nat->Nat:=c.rec (λ_=>0) λa _ k p=>p.rec 0 λb q _=>a*b+k q
def Ln.add(p:List Nat):List Nat->List Nat:=p.rec (λq=>q) λa s k q=>q.rec (a::s) λb t _=>(a+b)::k t
def Ln.mul(m:Nat)(p:List Nat):List Nat:=p.rec [] λa _ k=>(m*a)::k
noncomputable def Ln.un(i:Nat):List Nat:=i.rec [1] λ_ u=>0::u
def Ln.le(p:List Nat):List Nat->Bool:=p.rec (λ_=>true) λa _ k q=>q.rec (Nat.beq a 0&&k []) λb t _=>Nat.ble a b&&k t
theorem z{a:Sort u}{b:a}:b=b:=rfl
namespace Ln
theorem tF:∀c,dot c []=0:=λc=>by cases c<;>rfl
theorem Qi:∀c i,dot c (un i)=Y4 c i:=λc=>by
 induction c with
 |nil=>exactλ_=>rfl
 |cons a s k=>
  intro i;cases i with
  |zero=>exact(congrArg (a*1+ ·)<|tF s).trans<|Nat.mul_one a
  |succ i=>exact(Nat.zero_add _).trans<|k i
theorem rh:∀c p q,dot c (add p q)=dot c p+dot c q:=λc=>by
 induction c with
 |nil=>exactλ_ _=>rfl
 |cons x s k=>
  intro p q;cases p with
  |nil=>exact(Nat.zero_add _).symm
  |cons a p=>
   cases q with
   |nil=>rfl
   |cons b q=>show x*(a+b)+dot s (add p q)=x*a+dot s p+(x*b+dot s q);rw[k,Nat.mul_add,Nat.add_add_add_comm]
theorem tG:∀m c p,dot c (mul m p)=m*dot c p:=λm c=>by
 induction c with
 |nil=>exactλ_=>rfl
 |cons x s k=>
  intro p;cases p with
  |nil=>rfl
  |cons a p=>show x*(m*a)+dot s (mul m p)=m*(x*a+dot s p);rw[k,Nat.mul_add,Nat.mul_left_comm]
theorem Qj:∀c p q,le p q=true->dot c p<=dot c q:=λc=>by
 induction c with
 |nil=>exactλ_ _ _=>Nat.le_refl _
 |cons x s k=>
  intro p q h;cases p with
  |nil=>exact Nat.zero_le _
  |cons a p=>
   cases q with
   |nil=>have h:=(Bool.and_eq_true _ _).mp h;have e:=Nat.eq_of_beq_eq_true h.1;have:=k p [] h.2;subst e;rw[tF] at this;exact Nat.add_le_add (Nat.le_refl<|x*0) this
   |cons b q=>have h:=(Bool.and_eq_true _ _).mp h;exact Nat.add_le_add (Nat.mul_le_mul_left x<|Nat.le_of_ble_eq_true h.1)<|k p q h.2
end Ln
noncomputable def Ln.cut{a:Sort b}(e:Nat)(f:Nat->Nat->a):a:=f (e/256%16^(e%256))<|e/256/16^(e%256)
def Ln.ev(c:List Nat)(n:Nat):Nat->Nat:=n.rec (λ_=>0) λ_ k e=>cond (Nat.ble (e%16) 11) (Y4 c<|e%16)<|cond (Nat.beq (e%16) 12) (e/16)<|cond (Nat.beq (e%16) 13) (cut (e/16) λl r=>k l+k r)<|cond (Nat.beq (e%16) 14) (cut (e/16) λl r=>l*k r)<|cut (e/16) λl r=>k r*l
def Ln.po(n:Nat):Nat->List Nat:=n.rec (λ_=>[]) λ_ k e=>cond (Nat.ble (e%16) 11) (un<|e%16+1)<|cond (Nat.beq (e%16) 12) [e/16]<|cond (Nat.beq (e%16) 13) (cut (e/16) λl r=>add (k l)<|k r)<|cut (e/16) λl r=>mul l<|k r
namespace Ln
theorem ad{a b c d:Nat}(e:a=c)(f:b=d):a+b=c+d:=by subst e f;rfl
theorem yV(c:List Nat):∀n e,dot (1::c) (po n e)=ev c n e:=λn=>by
 induction n with
 |zero=>exactλ_=>tF _
 |succ n k=>
  intro e;show dot (1::c) (cond _ _<|cond _ _<|cond _ _ _)=cond _ _ (cond _ _<|cond _ _<|cond _ _ _);cases Nat.ble (e%16) 11 with
  |true=>exact Qi (1::c)<|e%16+1
  |false=>
  cases Nat.beq (e%16) 12 with
  |true=>exact(congrArg (1*(e/16)+ ·)<|tF c).trans<|Nat.one_mul _
  |false=>
  cases Nat.beq (e%16) 13 with
  |true=>exact(rh _ _ _).trans<|ad (k _)<|k _
  |false=>
  refine(tG _ _ _).trans<|(congrArg (_* ·)<|k _).trans ?_;cases Nat.beq (e%16) 14 with
  |true=>rfl
  |false=>exact Nat.mul_comm _ _
end Ln
def Ln.Y5(c:List Nat)(k l r:Nat):Prop:=cond (Nat.beq k 0) (ev c 9 l<=ev c 9 r)<|cond (Nat.beq k 3) (¬ev c 9 l<=ev c 9 r)<|ev c 9 l=ev c 9 r
def Ln.hy(c:List Nat)(G:Prop)(n:Nat):Nat->Prop:=n.rec (λ_=>G) λ_ k e=>cond (Nat.beq (e%16) 0) G<|cut (e/256) λl t=>cut t λr t=>Y5 c (e/16%16) l r->k t
def Ln.up(k l r:Nat)(f:List Nat->List Nat->Bool):Bool:=cond (Nat.ble k 1) (f (po 9 l)<|po 9 r)<|cond (Nat.beq k 3) (f (add (po 9 r) [1])<|po 9 l)<|f (po 9 r)<|po 9 l
def Ln.WV(n:Nat):Nat->List Nat->List Nat->Bool:=n.rec (λ_ _ _=>false) λ_ k e L R=>cond (Nat.beq (e%16) 0) (le (add R [1]) L)<|cut (e/256) λl t=>cut t λr t=>up (e/16%16) l r λx y=>k t (add L<|mul (e%16) x)<|add R<|mul (e%16) y
def Ln.den(c:List Nat)(e:Nat):Prop:=cond (Nat.beq (e%16) 0) (hy c False 20<|e/16)<|cut (e/16) λl t=>cut t λr t=>hy c (ev c 9 l<=ev c 9 r) 20 t
def Ln.top(e:Nat):Bool:=cond (Nat.beq (e%16) 0) (WV 20 (e/16) [] [])<|cut (e/16) λl t=>cut t λr t=>WV 20 t (mul (e%16)<|add (po 9 r) [1])<|mul (e%16)<|po 9 l
namespace Ln
theorem one(c:List Nat):dot (1::c) [1]=1:=congrArg (1*1+ ·)<|tF c
theorem lt{a b x:Nat}(e:x=1)(h:a<b):a+x<=b:=e.symm▸h
theorem F4{p a b:Bool}{A B:Prop}(h:cond p a b=true)(j:a=true->A)(k:b=true->B):cond p A B:=by
 cases p with
 |true=>exact j h
 |false=>exact k h
theorem MA{e:Nat}{f:Nat->Nat->Bool}{F:Nat->Nat->Prop}(h:cut e f=true)(k:∀a r,f a r=true->F a r):cut e F:=k _ _ h
theorem pe(c:List Nat){e f:Nat}(h:ev c 9 e<=ev c 9 f):dot (1::c) (po 9 e)<=dot (1::c) (po 9 f):=by rw[yV,yV];exact h
theorem Ta{c:List Nat}{k l r:Nat}{f:List Nat->List Nat->Bool}(h:up k l r f=true)(g:Y5 c k l r):∃x y,f x y=true/\dot (1::c) x<=dot (1::c) y:=
 match k,h,g with
 |0,h,g=>⟨_,_,h,pe c g⟩
 |1,h,g=>⟨_,_,h,pe c<|Nat.le_of_eq g⟩
 |2,h,g=>⟨_,_,h,pe c<|Nat.le_of_eq<|Eq.symm g⟩
 |3,h,g=>⟨_,_,h,by rw[rh,yV,yV];exact lt (one c)<|Nat.lt_of_not_le g⟩
 |k+4,h,g=>⟨_,_,h,pe c<|Nat.le_of_eq<|Eq.symm g⟩
theorem Il{c:List Nat}{G:Prop}:∀n e L R,WV n e L R=true->(¬G->dot (1::c) L<=dot (1::c) R)->hy c G n e:=λn=>by
 induction n with
 |zero=>exactλe L R h=>absurd h Bool.noConfusion
 |succ n k=>
  intro e L R h g;refine F4 h (λh=>Classical.byContradiction λa=>?_) λh=>MA h λl t h=>MA h λr t h d=>?_;·have:=Qj (1::c) _ _ h;rw[rh,one] at this;exact Nat.lt_irrefl _<|Nat.lt_of_lt_of_le this (g a)
  ·obtain⟨x,y,b,f⟩:=Ta h d;refine k _ _ _ b λa=>?_;rw[rh,rh,tG,tG];exact Nat.add_le_add (g a)<|Nat.mul_le_mul_left _ f
end Ln
theorem L1(c:List Nat)(e:Nat)(h:Ln.top e=true):Ln.den c e:=
 Ln.F4 h (λh=>Ln.Il _ _ _ _ h λ_=>Nat.le_refl _) λh=>Ln.MA h λl t h=>Ln.MA h λr t h=>Ln.Il _ _ _ _ h λa=>by rw[Ln.tG,Ln.tG,Ln.rh,Ln.one,Ln.yV,Ln.yV];exact Nat.mul_le_mul_left _<|Nat.lt_of_not_le a
theorem oA{p q:Prop}{G:Prop}(h:p/\q)(k:p->q->G):G:=k h.1<|h.2
theorem oE{b:Type}{p:b->Prop}{G:Prop}(h:∃a,p a)(k:∀a,p a->G):G:=h.elim λa c=>k a c
theorem bS{b:Type}{p q:b->Prop}{G:Prop}(h:∃a,p a/\q a)(k:∀a,p a->q a->G):G:=h.elim λa c=>k a c.1<|c.2
theorem F5{p q r:Prop}{G:Prop}(h:p/\q/\r)(k:p->q->r->G):G:=k h.1 (h.2).1 ((h.2).2)
theorem vP{c d:Type}{p:c->d->Prop}{G:Prop}(h:∃a,∃b,p a b)(k:∀a,∀b,p a b->G):G:=h.elim λa e=>e.elim λb f=>k a b f
theorem iK{b:Type}{p q r:b->Prop}{G:Prop}(h:∃a,p a/\q a/\r a)(k:∀a,p a->q a->r a->G):G:=h.elim λa c=>k a c.1 (c.2).1 ((c.2).2)
theorem iB{c d:Type}{p q:c->d->Prop}{G:Prop}(h:∃a,∃b,p a b/\q a b)(k:∀a,∀b,p a b->q a b->G):G:=h.elim λa f=>f.elim λb e=>k a b e.1<|e.2
theorem oU{p q r s:Prop}{G:Prop}(h:p/\q/\r/\s)(k:p->q->r->s->G):G:=k h.1 (h.2).1 ((h.2).2).1 (((h.2).2).2)
theorem MB{d e f:Type}{p:d->e->f->Prop}{G:Prop}(h:∃a,∃b,∃c,p a b c)(k:∀a,∀b,∀c,p a b c->G):G:=h.elim λa g=>g.elim λb i=>i.elim λc j=>k a b c j
theorem jn{c d:Type}{p q r:c->d->Prop}{G:Prop}(h:∃a,∃b,p a b/\q a b/\r a b)(k:∀a,∀b,p a b->q a b->r a b->G):G:=h.elim λa f=>f.elim λb e=>k a b e.1 (e.2).1 ((e.2).2)
theorem kG{b:Type}{p q:Prop}{r s:b->Prop}{G:Prop}(h:p/\q/\∃a,r a/\s a)(k:p->q->∀a,r a->s a->G):G:=((h.2).2).elim λa c=>k h.1 (h.2).1 a c.1 (c.2)
theorem qE{d e f:Type}{p q:d->e->f->Prop}{G:Prop}(h:∃a,∃b,∃c,p a b c/\q a b c)(k:∀a,∀b,∀c,p a b c->q a b c->G):G:=h.elim λa i=>i.elim λb j=>j.elim λc g=>k a b c g.1<|g.2
theorem EO{p q r s t:Prop}{G:Prop}(h:p/\q/\r/\s/\t)(k:p->q->r->s->t->G):G:=k h.1 (h.2).1 ((h.2).2).1 (((h.2).2).2).1 ((((h.2).2).2).2)
theorem qF{b:Type}{p q r s t:b->Prop}{G:Prop}(h:∃a,p a/\q a/\r a/\s a/\t a)(k:∀a,p a->q a->r a->s a->t a->G):G:=h.elim λa c=>k a c.1 (c.2).1 ((c.2).2).1 (((c.2).2).2).1 ((((c.2).2).2).2)
theorem c_{c d:Type}{p q:Prop}{r s:c->d->Prop}{G:Prop}(h:p/\q/\∃a,∃b,r a b/\s a b)(k:p->q->∀a,∀b,r a b->s a b->G):G:=((h.2).2).elim λa f=>f.elim λb e=>k h.1 (h.2).1 a b e.1 (e.2)
theorem zQ{e f g i:Type}{p q:e->f->g->i->Prop}{G:Prop}(h:∃a,∃b,∃c,∃r,p a b c r/\q a b c r)(k:∀a,∀b,∀c,∀r,p a b c r->q a b c r->G):G:=h.elim λa l=>l.elim λb m=>m.elim λc n=>n.elim λr j=>k a b c r j.1<|j.2
theorem zR{c d:Type}{p q r s:c->d->Prop}{G:Prop}(h:∃a,∃b,p a b/\q a b/\r a b/\s a b)(k:∀a,∀b,p a b->q a b->r a b->s a b->G):G:=h.elim λa f=>f.elim λb e=>k a b e.1 (e.2).1 ((e.2).2).1 (((e.2).2).2)
theorem dB{d e f:Type}{p q r s:d->e->f->Prop}{G:Prop}(h:∃a,∃b,∃c,p a b c/\q a b c/\r a b c/\s a b c)(k:∀a,∀b,∀c,p a b c->q a b c->r a b c->s a b c->G):G:=h.elim λa i=>i.elim λb j=>j.elim λc g=>k a b c g.1 (g.2).1 ((g.2).2).1 (((g.2).2).2)
theorem v8{d e f:Type}{p:Prop}{q r s:d->e->f->Prop}{G:Prop}(h:p/\∃a,∃b,∃c,q a b c/\r a b c/\s a b c)(k:p->∀a,∀b,∀c,q a b c->r a b c->s a b c->G):G:=(h.2).elim λa i=>i.elim λb j=>j.elim λc g=>k h.1 a b c g.1 (g.2).1 ((g.2).2)
theorem C_{c d:Type}{p:Prop}{q r s:c->d->Prop}{G:Prop}(h:p/\∃a,∃b,q a b/\r a b/\s a b)(k:p->∀a,∀b,q a b->r a b->s a b->G):G:=(h.2).elim λa f=>f.elim λb e=>k h.1 a b e.1 (e.2).1 ((e.2).2)
theorem zS{b:Type}{p q:Prop}{r s t:b->Prop}{G:Prop}(h:p/\q/\∃a,r a/\s a/\t a)(k:p->q->∀a,r a->s a->t a->G):G:=((h.2).2).elim λa c=>k h.1 (h.2).1 a c.1 (c.2).1 ((c.2).2)
theorem tH{d e f:Type}{p q r s t:d->e->f->Prop}{G:Prop}(h:∃a,∃b,∃c,p a b c/\q a b c/\r a b c/\s a b c/\t a b c)(k:∀a,∀b,∀c,p a b c->q a b c->r a b c->s a b c->t a b c->G):G:=h.elim λa i=>i.elim λb j=>j.elim λc g=>k a b c g.1 (g.2).1 ((g.2).2).1 (((g.2).2).2).1 ((((g.2).2).2).2)
theorem ri{e f g i:Type}{p q r s t:e->f->g->i->Prop}{G:Prop}(h:∃a,∃b,∃c,∃w,p a b c w/\q a b c w/\r a b c w/\s a b c w/\t a b c w)(k:∀a,∀b,∀c,∀w,p a b c w->q a b c w->r a b c w->s a b c w->t a b c w->G):G:=h.elim λa l=>l.elim λb m=>m.elim λc n=>n.elim λw j=>k a b c w j.1 (j.2).1 ((j.2).2).1 (((j.2).2).2).1 ((((j.2).2).2).2)
theorem O6{c d:Type}{p:c->Prop}{q r:c->d->Prop}{G:Prop}(h:∃a,p a/\∃b,q a b/\r a b)(k:∀a,p a->∀b,q a b->r a b->G):G:=h.elim λa e=>(e.2).elim λb f=>k a e.1 b f.1<|f.2
theorem sD{d e f:Type}{p:Prop}{q r s t u v:d->e->f->Prop}{G:Prop}(h:p/\∃a,∃b,∃c,q a b c/\r a b c/\s a b c/\t a b c/\u a b c/\v a b c)(k:p->∀a,∀b,∀c,q a b c->r a b c->s a b c->t a b c->u a b c->v a b c->G):G:=(h.2).elim λa i=>i.elim λb j=>j.elim λc g=>k h.1 a b c g.1 (g.2).1 ((g.2).2).1 (((g.2).2).2).1 ((((g.2).2).2).2).1 (((((g.2).2).2).2).2)
theorem oB{b c:Type}{o:Option b}{f:b->Option c}{r:c}{G:Prop}(h:o.bind f=some r)(k:∀a,o=some a->f a=some r->G):G:=(Option.bind_eq_some_iff.mp h).elim λa h=>k a h.1 h.2
theorem oM{b c:Type}{o:Option b}{f:b->c}{r:c}{G:Prop}(h:o.map f=some r)(k:∀a,o=some a->f a=r->G):G:=(Option.map_eq_some_iff.mp h).elim λa h=>k a h.1 h.2
theorem a_{b:Type}{p q:b->Prop}(a:b)(d:p a)(c:q a):∃a,p a/\q a:=⟨a,d,c⟩
theorem fJ{c d:Type}{p q:c->d->Prop}(a:c)(b:d)(f:p a b)(e:q a b):∃a,∃b,p a b/\q a b:=⟨a,b,f,e⟩
theorem g6{b:Type}{p q r:b->Prop}(a:b)(e:p a)(c:q a)(d:r a):∃a,p a/\q a/\r a:=⟨a,e,c,d⟩
theorem kH{c d:Type}{p q r:c->d->Prop}(a:c)(b:d)(g:p a b)(e:q a b)(f:r a b):∃a,∃b,p a b/\q a b/\r a b:=⟨a,b,g,e,f⟩
theorem H3{c d:Type}{p:c->d->Prop}(a:c)(b:d)(e:p a b):∃a,∃b,p a b:=⟨a,b,e⟩
theorem l7{c d:Type}{p q r s:c->d->Prop}(a:c)(b:d)(h:p a b)(e:q a b)(f:r a b)(g:s a b):∃a,∃b,p a b/\q a b/\r a b/\s a b:=⟨a,b,h,e,f,g⟩
theorem oV{b:Type}{p q r s t:b->Prop}(a:b)(g:p a)(c:q a)(d:r a)(e:s a)(f:t a):∃a,p a/\q a/\r a/\s a/\t a:=⟨a,g,c,d,e,f⟩
theorem vm{b:Type}{p q:Prop}{r s:b->Prop}(f:p)(c:q)(a:b)(d:r a)(e:s a):p/\q/\∃a,r a/\s a:=⟨f,c,a,d,e⟩
theorem oW{d e f:Type}{p q r s:d->e->f->Prop}(a:d)(b:e)(c:f)(j:p a b c)(g:q a b c)(h:r a b c)(i:s a b c):∃a,∃b,∃c,p a b c/\q a b c/\r a b c/\s a b c:=⟨a,b,c,j,g,h,i⟩
theorem Dc{c d:Type}{p:Prop}{q:c->d->Prop}(f:p)(a:c)(b:d)(e:q a b):p/\∃a,∃b,q a b:=⟨f,a,b,e⟩
theorem F6{b:Type}{p:Prop}{q r:b->Prop}(e:p)(a:b)(c:q a)(d:r a):p/\∃a,q a/\r a:=⟨e,a,c,d⟩
theorem uG{c d:Type}{p:Prop}{q r s:c->d->Prop}(h:p)(a:c)(b:d)(e:q a b)(f:r a b)(g:s a b):p/\∃a,∃b,q a b/\r a b/\s a b:=⟨h,a,b,e,f,g⟩
theorem yW{d e f:Type}{p q:d->e->f->Prop}(a:d)(b:e)(c:f)(h:p a b c)(g:q a b c):∃a,∃b,∃c,p a b c/\q a b c:=⟨a,b,c,h,g⟩
theorem wN{c d:Type}{p q:Prop}{r s:c->d->Prop}(h:p)(e:q)(a:c)(b:d)(f:r a b)(g:s a b):p/\q/\∃a,∃b,r a b/\s a b:=⟨h,e,a,b,f,g⟩
theorem Bl{c d:Type}{p q:c->Prop}{r:c->d->Prop}(a:c)(g:p a)(e:q a)(b:d)(f:r a b):∃a,p a/\q a/\∃b,r a b:=⟨a,g,e,b,f⟩
theorem MC{d e f:Type}{p:d->e->f->Prop}(a:d)(b:e)(c:f)(g:p a b c):∃a,∃b,∃c,p a b c:=⟨a,b,c,g⟩
theorem rV{b:Type}{p q r s:b->Prop}(a:b)(f:p a)(c:q a)(d:r a)(e:s a):∃a,p a/\q a/\r a/\s a:=⟨a,f,c,d,e⟩
theorem eP{p q r:Prop}(c:p)(a:q)(b:r):p/\q/\r:=⟨c,a,b⟩
theorem hV{p q r s:Prop}(d:p)(a:q)(b:r)(c:s):p/\q/\r/\s:=⟨d,a,b,c⟩
theorem EP{p q r s t:Prop}(e:p)(a:q)(b:r)(c:s)(d:t):p/\q/\r/\s/\t:=⟨e,a,b,c,d⟩
theorem Dd{b:Type}{p q:Prop}{r s t:b->Prop}(g:p)(c:q)(a:b)(d:r a)(e:s a)(f:t a):p/\q/\∃a,r a/\s a/\t a:=⟨g,c,a,d,e,f⟩
theorem De{e f g h:Type}{p q:e->f->g->h->Prop}(a:e)(b:f)(c:g)(d:h)(j:p a b c d)(i:q a b c d):∃a,∃b,∃c,∃d,p a b c d/\q a b c d:=⟨a,b,c,d,j,i⟩
theorem wO{e f g h:Type}{p q r s:e->f->g->h->Prop}(a:e)(b:f)(c:g)(d:h)(l:p a b c d)(i:q a b c d)(j:r a b c d)(k:s a b c d):∃a,∃b,∃c,∃d,p a b c d/\q a b c d/\r a b c d/\s a b c d:=⟨a,b,c,d,l,i,j,k⟩
abbrev H:=List<|Nat×a0
abbrev cK:=List<|Nat×Nat
abbrev aV:=Vr->Option V
abbrev dC:=V->Hp->Prop
theorem m{p:Prop}[Decidable p](h:decide p=true:=by decide):p:=of_decide_eq_true h
theorem N{c:Type e}{b a:c}{l:List c}(h:a∈l):a∈b::l:=.tail _ h
theorem q{b:Type c}{a:b}{l:List b}:a∈a::l:=.head _
def bN{a:Nat}:=@L1 [a]
def aG{a b:Nat}:=@L1 [a,b]
def bF{a b c:Nat}:=@L1 [a,b,c]
def jQ{a b c d:Nat}:=@L1 [a,b,c,d]
def da.{a,v}:=@List.casesOn.{a,v}
def ff.{a}:=@Bool.casesOn.{a}
def gQ.{a}:=@V.casesOn.{a}
def kI.{a}:=@a0.casesOn.{a}
def qG.{a,v}:=@Option.casesOn.{a,v}
def wQ.{a}:=@Nat.casesOn.{a}
section
open PySem PySem.W PyProof.Rows PySem.Calls
abbrev f9:=Value->Shared->Prop
def cs:=@List.mem_append_right
def ci:=@Nat.lt_of_lt_of_le
def eL:=@List.mem_singleton
def eR:=@List.length_append
def ct:=@Nat.le_refl
def hB:=@Nat.sub_add_cancel
def ew:=@List.mem_cons
def fZ:=@List.length_map
def mj:=@Heap.get?_push_of_some
def ll:=@List.mem_append_left
def eJ:=@Nat.le_trans
def ii:=@List.lookup_cons
def jp:=@Int.natCast_nonneg
def bp:=@Eq.symm
def f6:=@Nat.lt_trans
def jM:=@List.length_cons
def lX:=@List.append_assoc
def i3:=@List.not_mem_nil
def mx:=@List.mem_append
def j0:=@List.append_nil
def me:=@Option.some.inj
def oH:=@Bool.and_eq_true
def sB:=@List.getElem?_eq_getElem
def db:=@Or.elim
def oe:=@List.getElem?_map
def ip:=@Heap.lt_size
def pt:=@List.mem_cons_self
def ng:=@Nat.le_antisymm
def rW:=@List.forall_mem_nil
def r_:=@Nat.add_lt_add_left
def ox:=@Nat.le_add_right
def sg:=@Nat.lt_of_le_of_lt
def sI:=@Nat.add_lt_add_right
def sK:=@Heap.get?_push_size
def sj:=@List.prefix_refl
def pc:=@List.map_cons
def sS:=@List.all_eq_true
def v6:=@List.getElem?_eq_some_iff
def pu:=@Heap.size_push
def qc:=@Nat.max_le
def sn:=@List.map_append
def wS:=@List.getD_eq_getElem?_getD
def s4:=@Nat.succ_le_succ
def o:=@wpAny_bind
def d:=@wpAny_mono
def cw:=@wpAny_pure
def nz:=@beq_eq_false_iff_ne
def nl:=@Bool.and_eq_true_iff
noncomputable def Df:Nat->Nat->List Nat
 |0,_=>[]
 |f+1,n=>if n=0 then[] else n%256::Df f (n/256)
noncomputable def wR:List Nat->Nat
 |[]=>0
 |a::r=>a+256*wR r
theorem vn:∀(f n:Nat),n<=f->wR (Df f n)=n:=λa=>by
 induction a with
 |zero=>intro n h;exact(Nat.le_zero.mp h).symm
 |succ f b=>
  intro n h;show wR (if n=0 then[] else n%256::Df f (n/256))=n;by_cases q:n=0;·rw[if_pos q,q];rfl
  ·rw[if_neg q];show n%256+256*wR (Df f<|n/256)=n;rw[b (n/256)<|Nat.le_of_lt_succ<|ci (Nat.div_lt_self (Nat.pos_of_ne_zero q) m) h,Nat.add_comm];exact Nat.div_add_mod n 256
def eX(x:Nm):PySem.Str:=⟨(Df x.n_ x.n_).toArray⟩
abbrev dx(x:IK):PySem.Str:=eX x
abbrev an(x:Vr):PySem.Str:=eX x
theorem rj(x y:Nm)(e:eX x=eX y):x=y:=by have h:Df x.n_ x.n_=Df y.n_ y.n_:=congrArg (λs:PySem.Str=>s.cps.toList) e;have h:=congrArg wR h;rw[vn _ _<|ct _,vn _ _<|ct _] at h;cases x;cases y;exact congrArg Nm.mk h
theorem jc(x y:Vr)(e:an x=an y):x=y:=rj x y e
theorem Bm(x y:IK)(e:dx x=dx y):x=y:=rj x y e
abbrev cr:=Addr->Option Addr
abbrev zT:=Addr->Option Obj
noncomputable def u(b:cr)(g:Heap):zT:=λa=>if b a=Option.none then g.get? a else Option.none
theorem bV:u b g a=some c↔b a=Option.none/\g.get? a=some c:=by unfold u;split<;>simp_all
abbrev Im(g:zT)(t:Addr)(a:Array Value)(n:Nat):Prop:=g t=some {cls:=.type "tuple",dict:=none,data:=.seq a n,slots:= #[]}
theorem Im.uw{c:Array Value}(h:Im (u a g) b c n):IsT g b c n:=(bV.mp h).2
section
variable(w:World)
mutual
inductive aL(g:zT):V->Value->Prop where
 |none:aL g .none .none
 |bool (b:Bool):aL g (.bool b) (.bool b)
 |int (i:Int) (c:Tok):aL g (.int i) (.int i c)
 |str (s:Sy) (c:Tok):aL g (.str s) (.str (eX s) c)
 |ref (a:Addr):aL g (.ref a) (.ref a)
 |aF {vs:List V} {r:Addr} {xs:List Value} {n:Nat} (e:Im g r xs.toArray n) (h:aC g vs xs) (hl:vs.length<=1000000):aL g (.aF vs) (.ref r)
inductive aC(g:zT):List V->List Value->Prop where
 |nil:aC g [] []
 |cons {v:V} {x:Value} {vs:List V} {xs:List Value} (h:aL g v x) (r:aC g vs xs):aC g (v::vs) (x::xs)
end
def fU(o:Obj):Prop:=o.cls=.type "tuple"/\∃a n,o.data=.seq a n
def bC(g b:zT):Prop:=∀a o,g a=some o->fU o->b a=some o
theorem bC.refl(g:zT):bC g g:=λ_ _ e _=>e
theorem bC.trans(x:bC a b)(y:bC b c):bC a c:=λk o e h=>y k o (x k o e h) h
theorem aC.ind{M:List V->List Value->Prop}(n:M [] [])(c:∀{e x a b},aL g e x->aC g a b->M a b->M (e::a) (x::b)){b:List Value}(h:aC g a b):M a b:=
 aC.rec (motive_1:=λ_ _ _=>True) (motive_2:=λa b _=>M a b) trivial (λ_=>trivial) (λ_ _=>trivial) (λ_ _=>trivial) (λ_=>trivial) (λ_ _ _ _=>trivial) n (λh r _ i=>c h r i) h
theorem aL.mono(k:bC g c)(h:aL g n x):aL c n x:=
 aL.rec (motive_1:=λn x _=>aL c n x) (motive_2:=λf j _=>aC c f j) .none .bool .int .str .ref (λe _ d i=>.aF (k _ _ e<|Dc z _ _ z) i d) .nil (λ_ _ a b=>.cons a b) h
theorem aC.mono(k:bC g b){a:List V}(h:aC g a xs):aC b a xs:=aC.ind .nil (λh _ i=>.cons (h.mono k) i) h
theorem aC.length{a:List V}(h:aC g a b):a.length=b.length:=aC.ind (M:=λa b=>a.length=b.length) rfl (λ_ _ i=>congrArg (·+1) i) h
theorem aC.append{a:List V}{b:List Value}(h:aC g a e)(k:aC g c b):aC g (a++c)<|e++b:=aC.ind (M:=λa e=>aC g (a++c)<|e++b) k (λh _ i=>.cons h i) h
theorem aC.get{a:List V}(h:aC g a b):∀(i:Nat){v:V},a[i]?=some v->∃x,b[i]?=some x/\aL g v x:=
 aC.ind (M:=λa b=>∀(i:Nat){v:V},a[i]?=some v->∃x,b[i]?=some x/\aL g v x) (λi v e=>by rw[List.getElem?_nil] at e;cases e) (λ{v x a b} h r k i w e=>by
  induction i using wQ with
  |zero=>exact(a_ _ z<|me e▸h)
  |succ i=>exact k i e) h
theorem aC.get_none(h:aC g a xs){i:Nat}(e:a[i]?=Option.none):xs[i]?=Option.none:=by rw[List.getElem?_eq_none_iff] at e⊢;rw[<-h.length];exact e
theorem aC.set{g:zT}{a:List V}{b:List Value}(h:aC g a b):∀(i:Nat){v:V}{x:Value},aL g v x->aC g (a.set i v) (b.set i x):=
 aC.ind (M:=λa b=>∀(i:Nat){v:V}{x:Value},aL g v x->aC g (a.set i v) (b.set i x)) (λ_ _ _ _=>.nil) (λh r k i w y q=>by
  induction i using wQ with
  |zero=>exact .cons q r
  |succ i=>exact .cons h<|k i q) h
theorem aC.take{a:List V}(h:aC g a b):∀n,aC g (a.take n) (b.take n):=
 aC.ind (M:=λa b=>∀n,aC g (a.take n)<|b.take n) (λn=>by rw[List.take_nil,List.take_nil];exact .nil) (λh r k n=>by
  induction n using wQ with
  |zero=>exact .nil
  |succ n=>exact .cons h<|k n) h
theorem aC.drop{a:List V}(h:aC g a b):∀n,aC g (a.drop n) (b.drop n):=
 aC.ind (M:=λa b=>∀n,aC g (a.drop n)<|b.drop n) (λn=>by rw[List.drop_nil,List.drop_nil];exact .nil) (λh r k n=>by
  induction n using wQ with
  |zero=>exact .cons h r
  |succ n=>exact k n) h
theorem aC.reverse{a:List V}(h:aC g a b):aC g a.reverse b.reverse:=
 aC.ind (M:=λa b=>aC g a.reverse b.reverse) .nil (λh r k=>by rw[List.reverse_cons,List.reverse_cons];exact aC.append k<|.cons h .nil) h
theorem aC.replicate(h:aL g a x):∀n,aC g (List.replicate n a) (List.replicate n x)
 |0=>.nil
 |n+1=>.cons h<|aC.replicate h n
inductive gA(g:zT):List (Int×V)->List (Int×Value)->Prop where
 |nil:gA g [] []
 |cons {k:Int} {v:V} {x:Value} {b:List (Int×V)} {a:List (Int×Value)} (h:aL g v x) (r:gA g b a):gA g ((k,v)::b) ((k,x)::a)
theorem gA.mono(k:bC g a){l:List (Int×V)}(h:gA g l c):gA a l c:=by
 induction h with
 |nil=>exact .nil
 |cons h _ b=>exact .cons (h.mono k) b
inductive kJ(g:zT):List ((Int×Int)×V)->List (List Int×Addr×Value)->Prop where
 |nil:kJ g [] []
 |cons {i j:Int} {v:V} {a:Addr} {x:Value} {c:List ((Int×Int)×V)} {b:List (List Int×Addr×Value)} (h:aL g v x) (r:kJ g c b):kJ g (((i,j),v)::c) (([i,j],a,x)::b)
theorem kJ.mono(k:bC g a){l:List ((Int×Int)×V)}(h:kJ g l c):kJ a l c:=by
 induction h with
 |nil=>exact .nil
 |cons h _ b=>exact .cons (h.mono k) b
inductive k6(g:zT):List (IK×V)->List DictEntry->Prop where
 |nil:k6 g [] []
 |cons {f:IK} {v:V} {a:Tok} {hs:Int} {x:Value} {c:List (IK×V)} {b:List DictEntry} (h:aL g v x) (r:k6 g c b):k6 g ((f,v)::c) (⟨hs,.str (dx f) a,x⟩::b)
theorem k6.mono(k:bC g a){l:List (IK×V)}(h:k6 g l c):k6 a l c:=by
 induction h with
 |nil=>exact .nil
 |cons h _ b=>exact .cons (h.mono k) b
end
def zU(b:cr)(a:Addr):Prop:=b a=none\/b a=some 0\/b a=some 1
def oc(b:cr)(a:Addr):Prop:=b a=none\/b a=some 1
section
variable(O:Program)(w:World)(U:Heap)(Y:Cl->Addr)
def eQ(b:cr)(g:Heap)(a:Addr):a0->Prop
 |.list e=>b a=some a/\e.length<=1000000/\∃j n,IsL g a j.toArray n/\aC (u b g) e j
 |.ro e=>(a<U.objs.size/\b a=none)/\e.length<=1000000/\∃j,g.IsList a j.toArray/\aC (u b g) e j
 |.dict lk i=>b a=some (if lk=true then 0 else a)/\i.length<=1000000/\∃m,g.DictOf (intKind O w) a m/\gA (u b g) i m
 |.dg i=>b a=some a/\i.length<=1000000/\∃m,g.DictOfH (tupleKind<|intKind O w) a m/\kJ (u b g) i m/\∀y∈m,b y.2.1=none
 |.inst c k=>b a=some a/\∃d h n,(b d=some a/\d≠a)/\g.get? a=some (instObj (Y c) d)/\g.get? d=some (dictOf h n)/\k6 (u b g) k h/\(k.map (·.1)).Nodup/\∀f∈k.map (·.1),i6 c f=true
structure t(ow:cr)(h:Hp)(g:Heap):Prop where
 base:∀b e,U.get? b=some e->g.get? b=some e
 big:1<U.objs.size
 size:U.objs.size<=g.objs.size
 owned:∀x a,ow x=some a->U.objs.size<=x/\x<g.objs.size
 cell:∀a c,h a=some c->eQ O w U Y ow g a c
end
structure y(F:Addr->Prop)(ow bZ:cr)(s s':Shared):Prop where
 size:s.heap.objs.size<=s'.heap.objs.size
 own:∀x,x<s.heap.objs.size->bZ x=ow x
 keep:∀x a,s.heap.get? x=some a->zU ow x->¬F x->s'.heap.get? x=some a
 aF:bC (u ow s.heap) (u bZ s'.heap)
 rest:s'.gens=s.gens/\s'.drawn=s.drawn/\s'.os=s.os
theorem y.refl(F:Addr->Prop)(a:cr)(s:Shared):y F a a s s:=⟨ct _,λ_ _=>rfl,λ_ _ e _ _=>e,bC.refl _,z,z,z⟩
theorem zU.Io(h:zU b x)(e:a x=b x):zU a x:=by unfold zU at h⊢;rw[e];exact h
theorem y.trans(x:y F n g b c)(d:y F g j c i):y F n j b i:=
 ⟨eJ x.size d.size,λa h=>(d.own a<|ci h x.size).trans<|x.own a h,
  λa o e h f=>d.keep a o (x.keep a o e h f) (h.Io<|x.own a<|ip e) f,x.aF.trans d.aF,
  d.rest.1.trans x.rest.1,d.rest.2.1.trans x.rest.2.1,d.rest.2.2.trans x.rest.2.2⟩
theorem y.weaken{c b:cr}(x:y F c b s i)(k:∀a,F a->g a):y g c b s i:=
 ⟨x.size,x.own,λa o e h f=>x.keep a o e h λq=>f<|k a q,x.aF,x.rest⟩
theorem y.fresh{F G:Addr->Prop}{c b:cr}{s d:Shared}(x:y G c b s d)(k:∀a,G a->F a\/s.heap.objs.size<=a):y F c b s d:=
 ⟨x.size,x.own,λa o e h f=>x.keep a o e h λq=>(k a q).elim f λz=>absurd (ip e)<|Nat.not_lt.mpr z,x.aF,x.rest⟩
abbrev pZ:Addr->Prop:=λ_=>False
theorem y.all(x:y pZ b g s c)(e:s.heap.get? a=some i)(h:b a=none):c.heap.get? a=some i:=x.keep a i e (.inl h) id
theorem cO(h:Heap.ExtBut X g b)(c:∀j,g.get? X=some j->i X≠none\/¬fU j):bC (u i g)<|u i b:=λa j e t=>by
 rw[bV] at e⊢;by_cases q:a=X;·clear h;subst q;exact absurd t<|(c j e.2).resolve_left λz=>z e.1
 ·exact⟨e.1,h a j q e.2⟩
theorem l8(g:Heap)(o:Obj):Heap.ExtBut g.objs.size g<|g.push o:=λ_ _ _ e=>mj _ e
theorem l9(a:cr)(g:Heap)(o:Obj):bC (u a g)<|u a<|g.push o:=λ_ _ e _=>by rw[bV] at e⊢;exact⟨e.1,mj _ e.2⟩
noncomputable def sE(b:cr)(a:Addr):cr:=λx=>if x=a then some a else b x
theorem wU(f:Heap.ExtBut a g c)(d:g.objs.size<=a):bC (u h g)<|u (sE h a) c:=λx o e _=>by rw[bV] at e⊢;haveI b:=Nat.ne_of_lt<|ci (ip e.2) d;exact⟨(if_neg b).trans e.1,f x o b e.2⟩
section
variable{O:Program}{w:World}{U:Heap}{Y:Cl->Addr}
theorem Dg{k:List Int}{a:Addr}(x:(tupleKind<|intKind O w).is g k a)(t:bC (u h g)<|u i j)(e:h a=none):(tupleKind<|intKind O w).is j k a:=
 dB x λo d n f b c r=>(oW o d n ((bV.mp<|t a o (bV.mpr ⟨e,f⟩)<|Dc b d n c).2) b c r)
theorem Ip(x:(tupleKind<|intKind O w).is g j a)(t:bC (u h g)<|u b i)(c:h a=none):b a=none:=by refine dB x λo k n f d e r=>?_;clear x;exact(bV.mp<|t a o (bV.mpr ⟨c,f⟩)<|Dc d k n e).1
theorem eQ.move(x:eQ O w U Y i g a c)(j:∀b a2,(i b=some a/\i a=some a)\/i b=some 0\/b<U.objs.size->g.get? b=some a2->a1.get? b=some a2)(t:bC (u i g)<|u A a1)
 (f:∀a3,a3<g.objs.size->a3=a\/(i a3=some a/\i a=some a)->A a3=i a3):eQ O w U Y A a1 a c:=by
 induction c using kI with
 |list W=>refine c_ x λa2 l Z n p r=>?_;exact(wN ((f a (ip p)<|.inl z).trans a2) l Z n (j a _ (.inl ⟨a2,a2⟩) p)<|r.mono t)
 |ro W=>refine kG x ?_;clear x;rintro Q l Z C r;refine oA Q λE a2=>?_;refine bS C λh e a3=>?_;clear C;exact(vm ⟨E,(f a (ip e)<|.inl z).trans a2⟩ l Z (a_ h (j a h (.inr<|.inr E) e) a3)<|r.mono t)
 |dict lk G=>
  refine kG x ?_;clear x;rintro a2 l m F r;refine qE F λh k q e p=>?_;clear F;refine(vm ((f a (ip e)<|.inl z).trans a2) l m (yW h k q (j a h ?_ e) p)<|r.mono t);induction lk using ff with
  |true=>exact .inr<|.inl a2
  |false=>exact .inl ⟨a2,a2⟩
 |dg G=>refine zS x ?_;clear x;rintro a2 l m J r y;obtain⟨h,k,q,e,M,L,s,v,N⟩:=J;exact(Dd ((f a (ip e)<|.inl z).trans a2) l m ⟨h,k,q,j a h (.inl ⟨a2,a2⟩) e,M,L,s,λa3 X=>Dg (v a3 X) t<|y a3 X,N⟩ (r.mono t) λa3 X=>Ip (v a3 X) t<|y a3 X)
 |inst c I=>obtain⟨a2,d,k,n,H,B,D,r,T⟩:=x;refine oA H λo K=>?_;clear H;exact⟨(f a (ip B)<|.inl z).trans a2,d,k,n,⟨(f d (ip D)<|.inr ⟨o,a2⟩).trans o,K⟩,j a _ (.inl ⟨a2,a2⟩) B,j d _ (.inl ⟨o,a2⟩) D,r.mono t,T⟩
theorem eQ.ext{g e:Heap}{a X:Addr}{c:a0}(x:eQ O w U Y r g a c)(k:Heap.ExtBut X g e)(t:bC (u r g)<|u j e)(l:U.objs.size<=a->r X≠some a)(f:r X≠some 0)(m:U.objs.size<=X)
 (n:∀x b,r x=some b->U.objs.size<=x)(i:∀s,s<g.objs.size->j s=r s):eQ O w U Y j e a c:=
 x.move (λb o h=>k b o λq=>by clear k;subst q;exact h.elim (λh=>l (n _ _ h.2) h.1) λh=>h.elim f λh=>Nat.lt_irrefl _<|ci h m) t λs p _=>i s p
theorem t.v9(x:t O w U Y c h g)(b:U.objs.size<=a):a≠0/\a≠1:=by have:=x.big;exact⟨by rintro rfl;exact bN 0xc01001010011c1c02d07010 z this b,by rintro rfl;exact bN 0x1c02001010011c1c02d07010 z this b⟩
theorem t.tI(x:t O w U Y c h g){X a:Addr}(e:c X=some a)(b:U.objs.size<=a):¬zU c X:=by haveI z:=x.v9 b;clear b;haveI d:=z.1;haveI f:=z.2;clear z;rintro(q|q|q)<;>rw[e] at q<;>cases q<;>contradiction
theorem oc.Tb(h:oc a X):a X≠some 0:=by(refine db h ?_ ?_<;>clear h<;>intro q)<;>rw[q]<;>exact nofun
theorem t.loose(x:t O w U Y b h g){X a:Addr}(e:oc b X)(c:U.objs.size<=a):b X≠some a:=by
 (refine db e ?_ ?_<;>clear e<;>intro q)<;>rw[q]
 ·exact Ku
 ·intro z;exact(x.v9 c).2 (me z).symm
theorem t.ext{d:cr}{h:Hp}{g f:Heap}{X:Addr}(x:t O w U Y d h g)(k:Heap.ExtBut X g f)(m:bC (u d g)<|u d f)(i:oc d X)(j:U.objs.size<=X)(l:g.objs.size<=f.objs.size):t O w U Y d h f where
 base:=λb o e=>k b o (Nat.ne_of_lt<|ci (ip e) j) (x.base b o e)
 big:=x.big
 size:=eJ x.size l
 owned:=λy a e=>⟨(x.owned y a e).1,ci (x.owned y a e).2 l⟩
 cell:=λa c e=>(x.cell a c e).ext k m (x.loose i) i.Tb j (λy b e=>(x.owned y b e).1) λ_ _=>rfl
theorem t.l_(x:t O w U Y i h g)(e:i a=some b):(a==sysModules)=false:=by haveI c:=(x.owned _ _ e).1;haveI d:=x.big;rw[nz];intro q;haveI f:=q;exact aG 0x1c02101110011c1c02d0701101001010 z c d f
theorem t.fresh(x:t O w U Y c h g)(d:g.objs.size<=a):c a=none:=by
 cases e:c a with
 |none=>rfl
 |some b=>exact absurd (x.owned _ _ e).2 (Nat.not_lt.mpr d)
theorem eQ.lt(x:eQ O w U Y h g a c):a<g.objs.size:=by
 induction c using kI with
 |list b=>refine c_ x λo l j n p r=>?_;exact ip p
 |ro b=>refine kG x λo l j p r=>?_;clear x;refine bS p λ_ e _=>?_;exact ip e
 |dict lk i=>refine kG x λo l m p r=>?_;clear x;refine qE p λ_ _ _ e _=>?_;clear p;exact ip e
 |dg i=>refine kG x λo l m p r=>?_;clear x;refine qE p λ_ _ _ e _=>?_;clear p;exact ip e
 |inst c k=>refine v8 x λo d f n _ q _=>?_;clear x;exact ip q
theorem t.oX(x:t O w U Y i h g)(b:g.objs.size<=a):h a=none:=by
 cases e:h a with
 |none=>rfl
 |some c=>exact absurd (x.cell a c e).lt<|Nat.not_lt.mpr b
theorem t.change{f:cr}{h:Hp}{g i:Heap}{X a:Addr}{c:a0}(x:t O w U Y f h g)(l:Heap.ExtBut X g i)(p:bC (u f g)<|u f i)(j:f X=some a)(k:f a=some a)(m:g.objs.size<=i.objs.size)
 (n:eQ O w U Y f i a c):t O w U Y f (h9 h a c) i where
 base:=λb o e=>l b o (Nat.ne_of_lt<|ci (ip e) (x.owned _ _ j).1) (x.base b o e)
 big:=x.big
 size:=eJ x.size m
 owned:=λy b e=>⟨(x.owned y b e).1,ci (x.owned y b e).2 m⟩
 cell:=λb d e=>by
  unfold h9 at e;by_cases q:b=a;·clear j k;subst q;rw[if_pos z] at e;cases e;exact n
  ·rw[if_neg q] at e;exact(x.cell b d e).ext l p (λ_=>by rw[j];intro r;exact q (me r).symm) (by rw[j];intro r;exact(x.v9 (x.owned _ _ k).1).1 (me r)) (x.owned _ _ j).1 (λy b e=>(x.owned y b e).1) λ_ _=>rfl
theorem t.add{l:cr}{h:Hp}{g j:Heap}{a:Addr}{c:a0}(x:t O w U Y l h g)(i:Heap.ExtBut a g j)(f:g.objs.size<=a)(k:a<j.objs.size)
 (m:eQ O w U Y (sE l a) j a c):t O w U Y (sE l a) (h9 h a c) j where
 base:=λb o e=>i b o (Nat.ne_of_lt<|ci (ip e)<|eJ x.size f) (x.base b o e)
 big:=x.big
 size:=eJ (eJ x.size f) (Nat.le_of_lt k)
 owned:=λy b e=>by
  unfold sE at e;by_cases q:y=a;·clear e m i;subst q;exact⟨eJ x.size f,k⟩
  ·rw[if_neg q] at e;exact⟨(x.owned y b e).1,f6 (ci (x.owned y b e).2 f) k⟩
 cell:=λb d e=>by
  unfold h9 at e;by_cases q:b=a;·clear f i k;subst q;rw[if_pos z] at e;cases e;exact m
  ·rw[if_neg q] at e;have n:=x.fresh f;exact(x.cell b d e).ext i (wU i f) (λ_=>by rw[n];exact Ku) (by rw[n];exact Ku) (eJ x.size f) (λy b e=>(x.owned y b e).1) λy p=>if_neg<|Nat.ne_of_lt<|ci p f
theorem sG{f:cr}{a:Addr}(d:Heap.ExtBut a s.heap b.heap)(c:s.heap.objs.size<=a)(h:s.heap.objs.size<=b.heap.objs.size)(i:b.gens=s.gens/\b.drawn=s.drawn/\b.os=s.os):
 y F f (sE f a) s b:=
 ⟨h,λ_ g=>if_neg<|Nat.ne_of_lt<|ci g c,λx o e _ _=>d x o (Nat.ne_of_lt<|ci (ip e) c) e,wU d c,i⟩
theorem dS{s a:Shared}(c:Heap.ExtBut X s.heap a.heap)(t:bC (u b s.heap)<|u b a.heap)(d:¬zU b X\/F X\/s.heap.objs.size<=X)(g:s.heap.objs.size<=a.heap.objs.size)
 (i:a.gens=s.gens/\a.drawn=s.drawn/\a.os=s.os):y F b b s a:=
 ⟨g,λ_ _=>rfl,λx o e h f=>c x o (by clear c;rintro rfl;rcases d with q|q|q;exact q h;exact f q;exact absurd (ip e)<|Nat.not_lt.mpr q) e,t,i⟩
noncomputable def gR(c:cr)(a b:Addr):cr:=λx=>if x=a then some b else c x
theorem oh(h:c a≠none):u (gR c a b) g=u c g:=funext λx=>by
 unfold u gR;by_cases q:x=a;·subst q;rw[if_pos z,if_neg h,if_neg Kx]
 ·rw[if_neg q]
theorem yX(h:c a≠none)(x:Addr):gR c a b x=none↔c x=none:=by
 unfold gR;by_cases q:x=a;·subst q;rw[if_pos z];exact⟨Kx,λd=>absurd d h⟩
 ·rw[if_neg q]
theorem t.Iq{g:Heap}{a:Addr}{o:List (Int×V)}{lk:Bool}(x:t O w U Y i h g)(e:h a=some (.dict lk o))(j:Bool):
 t O w U Y (gR i a<|if j then 0 else a) (h9 h a<|.dict j o) g:=by
 obtain⟨d,l,m,p,r⟩:eQ O w U Y i g a<|.dict lk o:=x.cell a _ e;haveI f:i a≠none:=by rw[d];exact Kx
 refine⟨x.base,x.big,x.size,λy b e=>?_,λb c e=>?_⟩
 ·unfold gR at e;by_cases q:y=a;·clear e f p;subst q;exact x.owned _ _ d
  ·rw[if_neg q] at e;exact x.owned y b e
 ·unfold h9 at e;by_cases q:b=a;·clear d;subst q;rw[if_pos z] at e;cases e;exact(vm (if_pos z) l m p<|by rw[oh f];exact r)
  ·rw[if_neg q] at e;haveI y:=x.cell b c e;refine y.move (λ_ _ _ e=>e) (by rw[oh f];exact bC.refl _) λy _ s=>if_neg λk=>?_;clear f p;subst k;refine s.elim (λs=>q s.symm) λs=>?_;haveI n:=d.symm.trans s.1;clear e d;induction lk using ff with
   |true=>exact(x.v9 (x.owned _ _ s.2).1).1 (me n).symm
   |false=>exact q (me n).symm
theorem y.unlock{F:Addr->Prop}{b c:cr}{s m:Shared}{a:Addr}(i:b a=some a)(l:¬zU b a)(k:a<s.heap.objs.size)(x:y F (gR b a 0) c s m):y F b (gR c a a) s m:=by
 haveI d:b a≠none:=by rw[i];exact Kx
 haveI j:=(x.own a k).trans<|if_pos z;clear k;haveI g:c a≠none:=by rw[j];exact Kx
 clear j;refine⟨x.size,λp n=>?_,λp o e h f=>?_,?_,x.rest⟩
 ·unfold gR;by_cases q:p=a;·clear d g l x;subst q;rw[if_pos z,i]
  ·exact(if_neg q)▸(x.own p n).trans (if_neg q)
 ·haveI q:p≠a:=by clear i d g;rintro rfl;exact l h
  exact x.keep p o e (h.Io<|if_neg q) f
 ·have:=x.aF;rw[oh d] at this;rw[oh g];exact this
end
structure aM(U:Heap)(e:Env)(J:cr)(b:aV)(g:Heap):Prop where
 kind:e.scope.kind=.function
 globals:e.globals=mainGlobals
 builtins:e.builtins=builtinsNs
 e9:J e.locals=none/\U.objs.size<=e.locals
 ns:∃f,g.Ns e.locals f/\∀x v,b x=some v->e.kindOf (an x)=some .local->∃c,f (an x)=some c/\aL (u J g) v c
 cells:∀x v,b x=some v->(e.kindOf (an x)=some .cell\/e.kindOf (an x)=some .free)->∃a c,e.cells.lookup (an x)=some a/\g.IsCell a (some c)/\aL (u J g) v c
 each:∀n a,(n,a)∈e.cells->(∃c,g.IsCell a c)/\J a=none/\a≠e.locals/\U.objs.size<=a
 apart:∀n f a,e.cells.lookup n=some a->e.cells.lookup f=some a->n=f
def ce(H:Env):Addr->Prop:=λa=>a=H.locals\/∃n,(n,a)∈H.cells
theorem Heap.Ns.one{g d:Heap}{a:Addr}{m:Str->Option Value}(x:g.Ns a m)(k:∀b,g.get? a=some b->d.get? a=some b):d.Ns a m:=
 qE x λb i f e r=>(yW b i f (k b e) r)
theorem Heap.IsCell.one{g d:Heap}{a:Addr}{v:Option Value}(x:g.IsCell a v)(k:∀b,g.get? a=some b->d.get? a=some b):d.IsCell a v:=
 let ⟨b,e,r⟩:=x;(a_ b (k b e) r)
theorem aM.move{U:Heap}{H:Env}{J j:cr}{b:aV}(x:aM U H J b g)(k:∀a c,ce H a->g.get? a=some c->s.get? a=some c)(t:bC (u J g)<|u j s)
 (i:∀a,a<g.objs.size->j a=J a):aM U H j b s where
 kind:=x.kind
 globals:=x.globals
 builtins:=x.builtins
 e9:=x.ns.elim λ_ h=>⟨(i _ h.1.lt).trans x.e9.1,x.e9.2⟩
 ns:=bS x.ns λm o h=>a_ m (Heap.Ns.one o λc e=>k _ c (.inl z) e) λy v e q=>bS (h y v e q) λp d f=>a_ p d (f.mono t)
 cells:=λy v e q=>jn (x.cells y v e q) λa p d f l=>(kH a p d (Heap.IsCell.one f λc e=>k _ c (.inr ⟨_,mem_of_lookup d⟩) e)<|l.mono t)
 each:=λn a h=>oU (x.each n a h) λp f l r=>p.elim λy d=>(hV ⟨y,Heap.IsCell.one d λc e=>k _ c (.inr ⟨n,h⟩) e⟩ ((i a d.lt).trans f) l r)
 apart:=x.apart
theorem aM.own{H:Env}{b:aV}(x:aM e H c b g)(h:ce H a):c a=none:=by
 refine db h ?_ ?_;·clear h;rintro rfl;exact x.e9.1
 ·rintro⟨n,h⟩;exact(x.each n a h).2.1
theorem aM.later{H:Env}{b:aV}{s a:Shared}(x:aM g H c b s.heap)(l:y pZ c i s a):aM g H i b a.heap:=
 x.move (λ_ _ h e=>l.all e<|x.own h) l.aF l.own
theorem aM.kS{H:Env}{b:aV}(x:aM s H c b g)(h:ce H a):∀o,g.get? a=some o->c a≠none\/¬fU o:=by
 intro o e;refine .inr λz=>vP z.2 λt n i=>db h ?_ ?_;·clear h;rintro rfl;refine bS x.ns λm k _=>?_;obtain⟨p,r,q,f,d,_⟩:=k;rw[e] at f;cases f;rw[i] at d;cases d
 ·rintro⟨l,h⟩;refine oA (x.each l a h) λj _=>?_;refine iB j λy p f d=>?_;clear j;rw[e] at f;cases f;rw[i] at d;cases d
section
variable{O:Program}{w:World}{U:Heap}{Y:Cl->Addr}{M:Model}{A:Around}{c:f9}{s:Shared}{C:Env}{J:cr}{b:aV}{h:Hp}
theorem MD(N:aM U C J b s.heap)(e:b x=some L)
 (j:C.kindOf (an x)=some .local\/C.kindOf (an x)=some .cell\/C.kindOf (an x)=some .free)(o:(an x==("__classdict__":Str))=false)(i:∀T,aL (u J s.heap) L T->r T s):
 wpAny M A (loadName C<|an x) r c s:=by
 rcases j with k|k|k
 ·exact bS N.ns λm n l=>bS (l x L e k) λT d f=>wpAny_loadName_local N.kind k n d<|i T f
 ·exact jn (N.cells x L e<|.inl k) λa T d f g=>wpAny_loadName_cell N.kind k d f<|i T g
 ·exact jn (N.cells x L e<|.inr k) λa T d f g=>wpAny_loadName_free N.kind k d f (i T g) o
theorem Di{m:Str->Option Value}{v:V}{y:Value}(l:∀x v,b x=some v->C.kindOf (an x)=some .local->∃y,m (an x)=some y/\aL g v y)(t:bC g i)(n:aL i v y):
 ∀a d,bX b x v a=some d->C.kindOf (an a)=some .local->∃o,(if an a=an x then some y else m<|an a)=some o/\aL i d o:=by
 intro a d e k;unfold bX at e;by_cases q:a=x;·subst q;rw[if_pos z] at e;cases e;exact(a_ y (if_pos z) n)
 ·rw[if_neg q] at e;refine bS (l a d e k) λo f j=>?_;exact(a_ o (by rw[if_neg λo=>q<|jc _ _ o];exact f)<|j.mono t)
end
theorem aM.O7{H:Env}{b:aV}{g:Heap}(x:aM r H c b g)(d:∀a,e a=none↔c a=none):aM r H e b g:=by
 haveI f:u e g=u c g:=funext λa=>by
  unfold u;by_cases q:c a=none;·rw[if_pos q,if_pos<|(d a).mpr q]
  ·rw[if_neg q,if_neg λz=>q<|(d a).mp z]
 exact⟨x.kind,x.globals,x.builtins,⟨(d _).mpr x.e9.1,x.e9.2⟩,by rw[f];exact x.ns,by rw[f];exact x.cells,λn a h=>let ⟨i,j,k⟩:=x.each n a h;(eP i ((d _).mpr j) k),x.apart⟩
theorem Tc(a:c<2)(b:e<2):(c|||e)+(c&&&e)=c+e/\(c^^^e)+2*(c&&&e)=c+e:=(by decide:∀c<2,∀e<2,(c|||e)+(c&&&e)=c+e/\(c^^^e)+2*(c&&&e)=c+e) c a e b
theorem Td(h:b/2+a/2=i/2+j/2)(k:b%2+a%2=i%2+j%2):b+a=i+j:=by haveI e:∀x,2*(x/2)+x%2=x:=λx=>Nat.div_add_mod x 2;rw[<-e b,<-e a,<-e i,<-e j,Nat.add_add_add_comm,<-Nat.mul_add,h,k,Nat.mul_add,Nat.add_add_add_comm]
theorem Te(h:x/2+2*(a/2)=i/2+j/2)(k:x%2+2*(a%2)=i%2+j%2):x+2*a=i+j:=by haveI e:∀x,2*(x/2)+x%2=x:=λx=>Nat.div_add_mod x 2;rw[<-e x,<-e a,<-e i,<-e j,Nat.mul_add 2<|2*(a/2),Nat.add_add_add_comm,<-Nat.mul_add,h,k,Nat.mul_add,Nat.add_add_add_comm]
theorem ME(h:i<=n+1):i/2<=n:=Nat.le_of_lt_succ<|Nat.div_lt_of_lt_mul<|sg h<|by rw[Nat.two_mul];exact Nat.lt_add_of_pos_right<|Nat.succ_pos n
theorem wV:∀{i j:Nat},i<=n->(i|||j)+(i&&&j)=i+j/\(i^^^j)+2*(i&&&j)=i+j:=by
 induction n with
 |zero=>intro i j h;rw[Nat.le_zero.mp h,Nat.zero_or,Nat.zero_and,Nat.zero_xor];exact⟨(Nat.zero_add j).symm,(Nat.zero_add j).symm⟩
 |succ n b=>intro i j h;haveI z:=b (i:=i/2) (j:=j/2)<|ME h;haveI m:=Tc (Nat.mod_lt i (by decide:0<2))<|Nat.mod_lt j (by decide:0<2);haveI o:(i|||j)%2=i%2|||j%2:=Nat.or_mod_two_pow (n:=1);haveI a:(i&&&j)%2=i%2&&&j%2:=Nat.and_mod_two_pow (n:=1);haveI x:(i^^^j)%2=i%2^^^j%2:=Nat.xor_mod_two_pow (n:=1);rw[<-o,<-a,<-x] at m;rw[<-Nat.or_div_two,<-Nat.and_div_two,<-Nat.xor_div_two] at z;exact⟨Td z.1 m.1,Te z.2 m.2⟩
abbrev dk:f9:=λ_ _=>False
section
variable(O:Program)(w:World)(U:Heap)(Y:Cl->Addr)
def l(J:cr)(h:Hp)(s:Shared)(r:R):f9:=λx b=>match r with
 |.val v=>aL (u J b.heap) v x/\t O w U Y J h b.heap/\y pZ J J s b
 |.new c=>∃a d,x=.ref a/\h a=Option.none/\t O w U Y d (h9 h a c) b.heap/\y pZ J d s b
 |.upd a c v=>aL (u J b.heap) v x/\t O w U Y J (h9 h a c) b.heap/\y pZ J J s b
end
section
variable{O:Program}{w:World}{U:Heap}{Y:Cl->Addr}{A:Around}{s:Shared}{J:cr}{h:Hp}
theorem oY(s:Shared)(t:Nat):y F J J s {s with toks:=t}:=⟨ct _,λ_ _=>rfl,λ_ _ e _ _=>e,bC.refl _,z,z,z⟩
theorem l.toks(X:t O w U Y J h s.heap)(a:aL (u J s.heap) c x):l O w U Y J h s (.val c) x {s with toks:=b}:=(eP a X<|oY s b)
theorem l.now(X:t O w U Y J h s.heap)(a:aL (u J s.heap) b x):l O w U Y J h s (.val b) x s:=(eP a X<|y.refl _ _ _)
theorem t.push(X:t O w U Y J h s.heap):t O w U Y J h<|s.heap.push a:=
 X.ext (l8 _ _) (l9 _ _ _) (.inl<|X.fresh<|ct _) X.size (by rw[pu];exact ox _ _)
theorem gJ(o:Obj)(t:Nat):y F J J s {s with heap:=s.heap.push o,toks:=t}:=
 dS (l8 _ _) (l9 _ _ _) (.inr<|.inr<|ct _) (by rw[pu];exact ox _ _)<|eP z rfl rfl
theorem l.wW{a:List V}{d:List Value}{e:Nat}(X:t O w U Y J h s.heap)(c:aC (u J s.heap) a d)(b:a.length<=1000000):
 l O w U Y J h s (.val<|.aF a) (.ref s.heap.objs.size) {s with heap:=s.heap.push {cls:=.type "tuple",data:=.seq d.toArray},toks:=e}:=
 (eP (.aF (bV.mpr ⟨X.fresh<|ct _,IsT.new _ _⟩) (c.mono<|l9 _ _ _) b) X.push<|gJ _ e)
theorem l.newList{a:List V}{d:List Value}{e:Nat}(X:t O w U Y J h s.heap)(c:aC (u J s.heap) a d)(b:a.length<=1000000):
 l O w U Y J h s (.new<|.list a) (.ref s.heap.objs.size) {s with heap:=s.heap.push {cls:=.type "list",data:=.seq d.toArray},toks:=e}:=
 (l7 s.heap.objs.size (sE J s.heap.objs.size) z (X.oX<|ct _)
  (X.add (l8 _ _) (ct _) (by rw[pu];exact Nat.lt_succ_self _)<|wN (if_pos z) b d 0 (IsL.new _ _)<|c.mono<|wU (l8 _ _)<|ct _)
  (sG (l8 _ _) (ct _) (by rw[pu];exact ox _ _)<|eP z rfl rfl))
theorem nM(g:Heap)(a:Addr)(f:Obj->Obj):Heap.ExtBut a g<|g.update a f:=(Heap.SameBut.update g a f).extBut
theorem Bn(p:IsL g a xs n):∀o,g.get? a=some o->J a≠none\/¬fU o:=λo e=>.inr λ⟨c,_⟩=>by rw[show g.get? a=_ from p] at e;cases e;exact absurd (Value.type.inj c) m
theorem l.tJ{a:Addr}{e:List V}{m y:List Value}{n r:Nat}{v:V}{x:Value}{f:Array Value->Array Value}(X:t O w U Y J h s.heap)(b:J a=some a)(p:IsL s.heap a m.toArray n)
 (i:f m.toArray=y.toArray)(k:aC (u J s.heap) e y)(j:e.length<=1000000)(o:aL (u J s.heap) v x):
 l O w U Y J h s (.upd a (.list e) v) x {s with heap:=s.heap.update a<|Obj.mapSeq f,toks:=r}:=by
 haveI d:=nM s.heap a<|Obj.mapSeq f;haveI c:=cO (i:=J) d<|Bn p;haveI g:s.heap.objs.size<=(s.heap.update a<|Obj.mapSeq f).objs.size:=by rw[Heap.size_after_update];exact ct _
 haveI q:=p.update f;rw[i] at q;exact(eP (o.mono c) (X.change d c b b g<|wN b j y _ q<|k.mono c)<|dS d c (.inl<|X.tI b (X.owned _ _ b).1) g<|eP z rfl rfl)
theorem t.list{a:Addr}{b:List V}(X:t O w U Y J h s.heap)(e:h a=some (.list b)):J a=some a/\b.length<=1000000/\∃c n,IsL s.heap a c.toArray n/\aC (u J s.heap) b c:=X.cell a _ e
theorem F7(a:0<=i)(b:0<=j):Builtin.bitOr i j=((i.toNat|||j.toNat:Nat):Int):=by
 rw[bitOr_and,bitAnd_pp a b];have:((i.toNat|||j.toNat:Nat):Int)+((i.toNat&&&j.toNat:Nat):Int)=i+j:=by rw[<-Int.natCast_add,(wV (j:=j.toNat)<|ct i.toNat).1,Int.natCast_add,Int.toNat_of_nonneg a,Int.toNat_of_nonneg b]
 rw[<-this];exact Int.add_sub_cancel _ _
theorem Dj(a:0<=i)(b:0<=j):Builtin.bitXor i j=((i.toNat^^^j.toNat:Nat):Int):=by
 rw[bitXor_and,bitAnd_pp a b];have:((i.toNat^^^j.toNat:Nat):Int)+2*((i.toNat&&&j.toNat:Nat):Int)=i+j:=by rw[show(2:Int)*((i.toNat&&&j.toNat:Nat):Int)=((2*(i.toNat&&&j.toNat):Nat):Int) from rfl,<-Int.natCast_add,(wV (j:=j.toNat)<|ct i.toNat).2,Int.natCast_add,Int.toNat_of_nonneg a,Int.toNat_of_nonneg b]
 rw[<-this];exact Int.add_sub_cancel _ _
end
noncomputable def Ir:Qc->Operator
 |.add=>.Add|.sub=>.Sub|.mul=>.Mult|.fdiv=>.FloorDiv|.mod=>.Mod|.band=>.BitAnd|.bor=>.BitOr|.bxor=>.BitXor|.shl=>.LShift|.shr=>.RShift
section
variable{O:Program}{w:World}{U:Heap}{Y:Cl->Addr}{A:Around}{s:Shared}{J:cr}{h:Hp}
theorem aL.int_inv(h:aL g (.int i) x):∃t,x=.int i t:=by cases h;exact⟨_,z⟩
theorem aL.cq{a:Addr}(h:aL g (.ref a) x):x=.ref a:=by cases h;rfl
theorem aL.bool_inv{b:Bool}(h:aL g (.bool b) x):x=.bool b:=by cases h;rfl
theorem aL.str_inv(h:aL g (.str c) x):∃t,x=.str (eX c) t:=by cases h;exact⟨_,z⟩
theorem aL.none_inv(h:aL g .none x):x=.none:=by cases h;rfl
theorem aL.fz(h:aL g (.aF a) x):∃r c n,x=.ref r/\Im g r c.toArray n/\aC g a c/\a.length<=1000000:=by cases h with|aF e h b=>exact⟨_,_,_,z,e,h,b⟩
theorem Iu(a:-1000000<i)(b:i<1000000):IntMulOk i j:=by exact IntMulOk.of_left<|intBits_le_64 (by lia)<|Int.lt_of_lt_of_le ‹_› m
theorem F8(x:Value):∀(n:Nat)(a:Array Value),List.foldl (λd e=>d++e) a (List.replicate n #[x])=a++(List.replicate n x).toArray:=λb=>by
 induction b with
 |zero=>intro a;simp
 |succ n c=>intro a;rw[List.replicate_succ,List.foldl_cons,c];apply Array.ext';simp [List.replicate_succ]
theorem yw{i j:Int}(b:0<j)(c:j<1000000):Builtin.divisionGoesByPylong i j=false:=by
 haveI l:j.natAbs.log2<20:=(Nat.log2_lt<|by lia).mpr (by lia);haveI a:(j==0)=false:=by simp;lia
 simp only[Builtin.divisionGoesByPylong,a,Bool.false_eq_true,if_false,Bool.and_eq_false_iff,decide_eq_false_iff_not];left;lia
theorem MF{i j:Int}(a:0<=i):i.fdiv (2^j.toNat)=((i.toNat>>>j.toNat:Nat):Int):=by rw[Int.fdiv_eq_ediv_of_nonneg _<|Int.le_of_lt<|Int.pow_pos m,Nat.shiftRight_eq_div_pow,Int.natCast_ediv,Int.natCast_pow,Int.toNat_of_nonneg a];rfl
theorem V.fB{v:V}(e:v.lj=some i):v=.int i:=by cases v<;>cases e;rfl
theorem V.uH{v:V}(e:v.vO=some a):v=.ref a:=by cases v<;>cases e;rfl
theorem V.Dk{v:V}(e:v.C8=some a):v=.aF a:=by cases v<;>cases e;rfl
theorem V.MG{v:V}(e:v.O1=some b):v=.bool b:=by cases v<;>cases e;rfl
theorem V.Qk{v:V}(e:v.Qd=some b):v=.str b:=by cases v<;>cases e;rfl
theorem Ml{b c:Type}{o:Option b}{f:b->Option c}{r:c}(e:o.bind f=some r):∃a,o=some a/\f a=some r:=Option.bind_eq_some_iff.mp e
theorem H4{b c:Type}{o:Option b}{f:b->c}{r:c}(e:o.map f=some r):∃a,o=some a/\f a=r:=Option.map_eq_some_iff.mp e
theorem hM[Decidable c](e:(if c then some a else Option.none)=some r):c/\a=r:=by
 by_cases q:c;·rw[if_pos q] at e;exact⟨q,me e⟩
 ·rw[if_neg q] at e;exact Ku e
theorem Jh[Decidable a][Decidable b](h:(decide a&&decide b)):a/\b:=⟨of_decide_eq_true (nl.mp h).1,of_decide_eq_true (nl.mp h).2⟩
theorem Th[Decidable a](h:(b&&decide a)):b/\a:=⟨(nl.mp h).1,of_decide_eq_true (nl.mp h).2⟩
theorem fW(e:f8 h a=some xs):h a=some (.list xs):=by
 refine oB e λc f d=>?_;clear e;induction c using kI with
 |list b=>exact f.trans<|congrArg (λz=>some<|a0.list z)<|me d
 |_=>exact Ku d
inductive wr(g:zT)(vs:List V):Value->Prop
 |mk (r:Addr) (xs:List Value) (n:Nat) (KG:Im g r xs.toArray n) (hx:aC g vs xs) (a:vs.length<=1000000):wr g vs (.ref r)
inductive Dl(h:Hp)(vs:List V):V->Prop
 |aF:Dl h vs (.aF vs)
 |list {a:Nat} (ea:h a=some (.list vs)):Dl h vs (.ref a)
theorem zV(e:jj g h=some b):Dl h b g:=by
 induction g using gQ with
 |aF c=>obtain rfl:=me e;exact .aF
 |ref a=>exact .list<|fW e
 |_=>exact Ku e
inductive Bo(h:Hp):V->List V->H->Prop
 |aF {vs:List V}:Bo h (.aF vs) vs []
 |list {a:Nat} {vs:List V} (ea:h a=some (.list vs)):Bo h (.ref a) vs [(a,.list vs)]
 |ro {a:Nat} {vs:List V} (ea:h a=some (.ro vs)):Bo h (.ref a) vs [(a,.ro vs)]
 |dict {a:Nat} {lk:Bool} {bo:List (Int×V)} (ea:h a=some (.dict lk bo)):Bo h (.ref a) (bo.map λb=>.int b.1) [(a,.dict true bo)]
theorem rm(e:bm i h=some (xs,c)):Bo h i xs c:=by
 induction i using gQ with
 |aF f=>cases e;exact .aF
 |ref a=>
  refine oB e λd b e=>?_;induction d using kI with
  |list f=>cases e;exact .list b
  |ro f=>cases e;exact .ro b
  |dict lk g=>cases e;exact .dict b
  |_=>exact Ku e
 |_=>exact Ku e
theorem rq(e:mT b h=some xs):∃a,b=.ref a/\h a=some (.list xs):=by exact oB e λa q e=>(a_ a (V.uH q)<|fW e)
theorem aL.EQ(h:aL g (.aF i) x):wr g i x:=by refine dB h.fz ?_;clear h;rintro r e n rfl a b c;exact⟨r,e,n,a,b,c⟩
theorem Ql{o:Qc}{r:R}{c u:_}(X:t O w U Y J h s.heap)(e:Dh o i j=some r):wpAny (model O w) A (binaryOp (Ir o) (.int i c)<|.int j u) (l O w U Y J h s r) dk s:=by
 haveI K:∀k c,l O w U Y J h s (.val<|.int k) (.int k c) s:=λk c=>l.now X<|.int k c;cases o with
 |add=>cases e;exact add_int<|l.toks X<|.int _ _
 |sub=>cases e;exact sub_int<|l.toks X<|.int _ _
 |mul=>refine oA (hM e) ?_;rintro q rfl;haveI q:=(Th (Th q).1).1;exact mul_int (l.toks X<|.int _ _)<|Iu (Jh q).1 (Jh q).2
 |fdiv=>refine oA (hM e) ?_;rintro q rfl;haveI q:=Jh q;refine floordiv_int (Int.ne_of_gt q.1) ?_<|.inl<|yw q.1 q.2;rw[Int.fdiv_eq_ediv_of_nonneg _<|Int.le_of_lt q.1];exact l.toks X<|.int _ _
 |mod=>refine oA (hM e) ?_;rintro q rfl;haveI q:=of_decide_eq_true q;refine mod_int' (Int.ne_of_gt q) ?_;rw[Int.fmod_eq_emod_of_nonneg _<|Int.le_of_lt q];exact l.toks X<|.int _ _
 |band=>refine oA (hM e) ?_;rintro q rfl;refine and_int ?_;rw[bitAnd_pp (Jh q).1 (Jh q).2];exact l.toks X<|.int _ _
 |bor=>refine oA (hM e) ?_;rintro q rfl;refine or_int ?_;rw[F7 (Jh q).1 (Jh q).2];exact l.toks X<|.int _ _
 |bxor=>refine oA (hM e) ?_;rintro q rfl;refine xor_int ?_;rw[Dj (Jh q).1 (Jh q).2];exact l.toks X<|.int _ _
 |shl=>refine oA (hM e) ?_;rintro q rfl;haveI b:=(Th q).2;refine oA (Jh (Th q).1) ?_;clear q;rintro rfl a;refine lshift_int_small a (Int.le_trans (Int.le_of_lt b) m) m ?_;rw[Int.one_mul,show((2:Int)^_)=((2^_:Nat):Int) from by rw[Int.natCast_pow];rfl];exact l.toks X<|.int _ _
 |shr=>refine oA (hM e) ?_;rintro q rfl;haveI q:=Jh (Th q).1;refine rshift_int q.2 ?_;rw[MF q.1];exact l.toks X<|.int _ _
theorem Qm(X:t O w U Y J h s.heap)(e:O3 T a1 L=some r)(m:wr (u J s.heap) a1 x)(p:wr (u J s.heap) L a2):
 wpAny (model O w) A (binaryOp (Ir T) x a2) (l O w U Y J h s r) dk s:=by
 cases T<;>try (cases e;done)
 refine oA (hM e) ?_;rintro q rfl;obtain⟨r,v,n,y,b,i⟩:=m;obtain⟨k,o,j,a,c,f⟩:=p;haveI q:=of_decide_eq_true q;rw[b.length,c.length] at q;by_cases d:v=[];·subst d;clear i;cases b;exact concat_meets (a_ _ y.uw z) (a_ _ a.uw z) noFill_tuple_add seq_tuple_add F.slot_tuple_add F.entry_tuple_add (F.args_tuple_add_2 _ _) (AutoSeq1.tuple___add___tuple_tuple_0 r _ n k _ j z)<|eP y.uw a.uw<|l.now X<|.aF a c f
 ·by_cases g:o=[];·clear q;subst g;clear f;cases c;refine concat_meets (a_ _ y.uw z) (a_ _ a.uw z) noFill_tuple_add seq_tuple_add F.slot_tuple_add F.entry_tuple_add (F.args_tuple_add_2 _ _) (AutoSeq1.tuple___add___tuple_tuple_1 r _ n k _ j (by simpa using d) z)<|eP y.uw a.uw ?_;rw[j0];exact l.now X<|.aF y b i
  ·refine P.add_tuple y.uw a.uw (by simpa using d) (by simpa using g) ?_<|List.size_toArray▸List.size_toArray▸sizeLine_eq▸aG 0xf4240c061c1001d05d0a011000000c081001d051 z q;rw[List.append_toArray];exact l.wW X (b.append c)<|eR▸b.length▸c.length▸Nat.le_of_lt q
set_option tactic.hygienic true in
theorem Qn{v:V}{y:Value}(X:t O w U Y J h s.heap)(e:O2 L a v h=some r)(G:aL (u J s.heap) v y):
 wpAny (model O w) A (binaryOp (Ir L) (.ref a) y) (l O w U Y J h s r) dk s:=by
 cases L<;>try (cases e;done)
 ·cases v<;>try (cases e;done)
  rename_i b;obtain rfl:=G.cq;refine oB e λf d e=>oB e λI j e=>?_;refine oA (hM e) ?_;clear e;rintro q rfl;refine c_ (X.list<|fW d) λ_ _ H n p c=>?_;refine c_ (X.list<|fW j) λ_ _ C x B g=>?_;haveI q:=of_decide_eq_true q;refine P.add_list p B ?_ (by rw[List.size_toArray,List.size_toArray,sizeLine_eq,<-c.length,<-g.length];exact aG 0xf4240c061c1001d05d0a011000000c081001d051 z q);rw[List.append_toArray];exact l.newList X (c.append g) (by rw[eR];exact Nat.le_of_lt q)
 ·cases v<;>try (cases e;done)
  rename_i i;refine oE G.int_inv ?_;clear G;rintro E rfl;refine oB e λf d e=>?_;rcases f with _|⟨v,_|⟨_,_⟩⟩<;>try (cases e;done)
  refine oA (hM e) ?_;clear e;clear e;rintro q rfl;haveI q:=Jh q;refine c_ (X.list<|fW d) λ_ _ H n p c=>?_;cases c with
  |cons o k=>
   cases k;refine wpAny_binaryOp_repeat_ref (T:="list") (U:="int") m (a_ _ p z) (λD=>typeIs_int D i E) noFill_list_mul F.fills_int_mul F.slot_int_rmul repeat_list F.slot_int_index.lookup
    (call_meets F.slot_int_rmul (typeIs_int s i E) F.entry_int_rmul (F.args_int_rmul_2 _ _) (int___rmul___int_list i E a _ n)
     (hV p z (a_ _ p z)<|call_meets F.slot_list_mul (a_ _ p z) F.entry_list_mul (F.args_list_mul_2 _ _)
      (AutoListH.list___mul___list_int_3 a _ n i E (by simp [Builtin.List.listFitsIndex];lia) (by simp;lia)<|by simp [Builtin.List.listTooLong,sizeLine];lia)
      ⟨p,?_⟩))
   rw[if_neg (by simp),F8,Array.empty_append];exact l.newList X (aC.replicate o _) (by rw[List.length_replicate];lia)
theorem Qo(X:t O w U Y J h s.heap)(e:wv g i b h=some r)(a:aL (u J s.heap) i x)(c:aL (u J s.heap) b j)(_hu:A.units+10<cLine):
 wpAny (model O w) A (binaryOp (Ir g) x j) (l O w U Y J h s r) dk s:=by
 cases i<;>try (cases e;done)
 ·cases b<;>try (cases e;done)
  obtain⟨d,rfl⟩:=a.int_inv;obtain⟨f,rfl⟩:=c.int_inv;exact Ql X e
 ·cases b<;>try (cases e;done)
  exact Qm X e a.EQ c.EQ
 ·obtain rfl:=a.cq;exact Qn X e c
end
open PySem.SeqAt (EqAt RcAt RcNeAt)
noncomputable def Iv:Value->Option Int
 |.bool b=>some (if b then 1 else 0)
 |.int i _=>some i
 |_=>Option.none
inductive iX:Value->Prop
 |none:iX .none
 |bool (b:Bool):iX (.bool b)
 |int (i:Int) (a:Tok):iX (.int i a)
 |str (s:Str) (a:Tok):iX (.str s a)
def k7(x y:Value):Bool:=match x,y with
 |.none,.none=>true
 |.str s _,.str t _=>s==t
 |x,y=>match Iv x,Iv y with
  |some i,some j=>i==j
  |_,_=>false
section
variable{A:Around}{s:Shared}
set_option tactic.hygienic true in
theorem tL(c:iX x)(d:iX e):EqAt A s x e<|k7 x e:=by
 induction c using iX.casesOn<;>induction d using iX.casesOn;·exact EqAt.same _
 ·exact EqAt.none_bool _
 ·exact EqAt.none_int _ _
 ·exact EqAt.none_str _ _
 ·exact EqAt.bool_none _
 ·rename_i a b;have:=EqAt.bool_bool (A:=A) (s:=s) a b;induction a using ff<;>induction b using ff<;>exact this
 ·exact EqAt.bool_int _ _ _
 ·exact EqAt.bool_str _ _ _
 ·exact EqAt.int_none _ _
 ·exact EqAt.int_bool _ _ _
 ·exact EqAt.int_int _ _ _ _
 ·exact EqAt.int_str _ _ _ _
 ·exact EqAt.str_none _ _
 ·exact EqAt.str_bool _ _ _
 ·exact EqAt.str_int _ _ _ _
 ·exact EqAt.str_str _ _ _ _
set_option tactic.hygienic true in
theorem Iw(c:iX x)(d:iX e):RcAt A s x e<|k7 x e:=by
 induction c using iX.casesOn<;>induction d using iX.casesOn;·exact RcAt.none_none
 ·exact RcAt.none_bool _
 ·exact RcAt.none_int _ _
 ·exact RcAt.none_str _ _
 ·exact RcAt.bool_none _
 ·rename_i a b;have:=RcAt.bool_bool (A:=A) (s:=s) a b;induction a using ff<;>induction b using ff<;>exact this
 ·exact RcAt.bool_int _ _ _
 ·exact RcAt.bool_str _ _ _
 ·exact RcAt.int_none _ _
 ·exact RcAt.int_bool _ _ _
 ·exact RcAt.int_int _ _ _ _
 ·exact RcAt.int_str _ _ _ _
 ·exact RcAt.str_none _ _
 ·exact RcAt.str_bool _ _ _
 ·exact RcAt.str_int _ _ _ _
 ·exact RcAt.str_str _ _ _ _
set_option tactic.hygienic true in
theorem Dm(c:iX x)(d:iX e):RcNeAt A s x e<|!k7 x e:=by
 induction c using iX.casesOn<;>induction d using iX.casesOn;·exact RcNeAt.none_none
 ·exact RcNeAt.none_bool _
 ·exact RcNeAt.none_int _ _
 ·exact RcNeAt.none_str _ _
 ·exact RcNeAt.bool_none _
 ·rename_i a b;have:=RcNeAt.bool_bool (A:=A) (s:=s) a b;induction a using ff<;>induction b using ff<;>exact this
 ·exact RcNeAt.bool_int _ _ _
 ·exact RcNeAt.bool_str _ _ _
 ·exact RcNeAt.int_none _ _
 ·exact RcNeAt.int_bool _ _ _
 ·exact RcNeAt.int_int _ _ _ _
 ·exact RcNeAt.int_str _ _ _ _
 ·exact RcNeAt.str_none _ _
 ·exact RcNeAt.str_bool _ _ _
 ·exact RcNeAt.str_int _ _ _ _
 ·exact RcNeAt.str_str _ _ _ _
end
theorem kK{v:V}(h:aL g v x)(f:v.flat):iX x:=by cases(h)<;>first|exact Kv f|constructor
set_option tactic.hygienic true in
theorem oZ{v w:V}{x y:Value}(h:aL g v x)(k:aL i w y)(f:v.flat)(c:w.flat):cZ v w=k7 x y:=by
 cases(h)<;>first|exact Kv f|(cases(k)<;>first|exact Kv c|skip)
 all_goals first|rfl|skip
 ·rename_i a t b u;show decide (a=b)=(eX a==eX b);by_cases q:a=b;·clear c;subst q;simp
  ·refine(bp<|decide_eq_false q)▸?_;symm;rw[nz];exactλe=>q<|rj _ _ e
theorem vo(f:dL<|b::a):b.flat/\dL a:=(oH _ _).mp f
theorem qI{a:List V}(h:aC g a c):dL a->∀x∈c,iX x:=
 aC.ind (M:=λa c=>dL a=true->∀x∈c,iX x) (λ_ x b=>absurd b i3) (λh _ i f x b=>(ew.mp b).elim (λe=>e▸kK h (vo f).1)<|i (vo f).2 x) h
theorem MH{w:V}(k:aL c w j)(b:w.flat)(h:aC g a e):dL a->(a.any λv=>cZ v w)=e.any λx=>k7 x j:=
 aC.ind (M:=λa e=>dL a=true->(a.any λv=>cZ v w)=e.any λx=>k7 x j) (λ_=>rfl) (λh _ i f=>by rw[List.any_cons,List.any_cons,oZ h k (vo f).1 b,i (vo f).2]) h
theorem MI(h:aC g b n)(c:aC s a r)(f:dL b)(k:dL a)(e:b.length=a.length):
 ((b.zip a).all λp=>cZ p.1 p.2)=(List.range n.length).all λj=>k7 (n.getD j .none)<|r.getD j .none:=
 aC.ind (M:=λb n=>∀a r,aC s a r->dL b->dL a->b.length=a.length->((b.zip a).all λp=>cZ p.1 p.2)=(List.range n.length).all λj=>k7 (n.getD j .none)<|r.getD j .none)
  (λ_ _ _ _ _ _=>rfl) (λh _ i a r c f k e=>by
   induction c using aC.casesOn with
   |nil=>exact nomatch e
   |cons c m=>rw[List.zip_cons_cons,List.all_cons,i _ _ m (vo f).2 (vo k).2 (Nat.succ.inj e),jM,List.range_succ_eq_map,List.all_cons,List.all_map,oZ h c (vo f).1 (vo k).1];rfl) h _ _ c f k e
noncomputable def v_:WS->CmpOp
 |.eq=>.Eq|.ne=>.NotEq|.lt=>.Lt|.le=>.LtE|.gt=>.Gt|.ge=>.GtE|.isin=>.In|.gU=>.NotIn|.S9=>.Is|.Bb=>.IsNot
section
variable{O:Program}{w:World}{U:Heap}{Y:Cl->Addr}{A:Around}{s:Shared}{J:cr}{h:Hp}
theorem lp(b:List Value)(j:Nat)(a:j<b.toArray.size):b.toArray[j]=b.getD j .none:=by simp only[List.size_toArray] at a;simp [wS,a]
theorem wY{k a:List Value}(e:aC (u J s.heap) g k)(m:aC (u J s.heap) i a)(f:dL g)(d:dL i):
 ∀j(b:j<k.toArray.size)(c:j<a.toArray.size),EqAt n s k.toArray[j] a.toArray[j] (k7 (k.getD j .none)<|a.getD j .none):=by
 intro j b c;refine(bp<|lp k j b)▸(bp<|lp a j c)▸?_;refine tL (qI e f _ ?_)<|qI m d _ ?_;·refine((lp k j b))▸?_;exact List.mem_toArray.mp<|Array.getElem_mem b
 ·refine((lp a j c))▸?_;exact List.mem_toArray.mp<|Array.getElem_mem c
theorem t.dict{a:Addr}{lk:Bool}{b:List (Int×V)}(X:t O w U Y J h s.heap)(e:h a=some (.dict lk b)):J a=some (if lk=true then 0 else a)/\b.length<=1000000/\∃m,s.heap.DictOf (intKind O w) a m/\gA (u J s.heap) b m:=X.cell a _ e
theorem t.dg(X:t O w U Y J h s.heap)(e:h a=some (.dg bo)):J a=some a/\bo.length<=1000000/\∃m,s.heap.DictOfH (tupleKind<|intKind O w) a m/\kJ (u J s.heap) bo m/\∀y∈m,J y.2.1=none:=X.cell a _ e
theorem a0.MJ{c:a0}{b:List V}(e:c.xs=some b):c=.list b:=by
 induction c using kI with
 |list a=>exact congrArg a0.list<|me e
 |_=>exact Ku e
theorem a0.MK{c:a0}{b:List (Int×V)}(e:c.bo=some b):∃lk,c=.dict lk b:=by
 induction c using kI with
 |dict lk a=>exact⟨lk,congrArg (a0.dict lk)<|me e⟩
 |_=>exact Ku e
theorem V.none_of{v:V}(e:v.isNone):v=.none:=by
 induction v using gQ with
 |none=>rfl
 |_=>exact absurd e Bool.noConfusion
theorem zW(e:t0 L=some x):L=.aF [.int x.1,.int x.2]:=by
 induction L using gQ with
 |aF m=>
  rcases m with _|⟨a,_|⟨b,_|⟨c,r⟩⟩⟩
  case cons.cons.nil=>refine kf λn f=>oB (e:a.lj.bind _=_) λi g e=>oB e λj l e=>f ?_;clear f;cases e;rw[V.fB g,V.fB l]
  all_goals cases e
 |_=>exact Ku e
theorem ML(X:t O w U Y J h s.heap)(e:Ie g c=some b)(a:aL (u J s.heap) g x)(d:aL (u J s.heap) c i):
 wpAny (model O w) A (compareOp .Eq x i) (l O w U Y J h s<|.val<|.bool b) dk s/\wpAny (model O w) A (compareOp .NotEq x i) (l O w U Y J h s<|.val<|.bool !b) dk s:=by
 refine oA (hM e) ?_;clear e;rintro f rfl;have f:=(oH _ _).mp f;refine(bp<|oZ a d f.1 f.2)▸?_;exact⟨Iw (kK a f.1) (kK d f.2) O w _ _<|l.now X<|.bool _,Dm (kK a f.1) (kK d f.2) O w _ _<|l.now X<|.bool _⟩
theorem O8{v G:V}{b:Bool}{x y:Value}(X:t O w U Y J h s.heap)(e:zO v G h=some b)(N:aL (u J s.heap) v x)(P:aL (u J s.heap) G y)(B:A.units<cLine):
 wpAny (model O w) A (compareOp .Eq x y) (l O w U Y J h s<|.val<|.bool b) dk s/\wpAny (model O w) A (compareOp .NotEq x y) (l O w U Y J h s<|.val<|.bool !b) dk s:=by
 induction v using gQ with
 |ref a=>
  refine oB (show G.vO.bind _=some b from e) λS F e=>?_;obtain rfl:=V.uH F;refine oB e λc C e=>?_;refine oB e λd L e=>?_;obtain rfl:=N.cq;obtain rfl:=P.cq;induction c using kI with
  |list j=>
   refine oB (show d.xs.bind _=some b from e) λK D I=>?_;obtain rfl:=a0.MJ D;clear e;refine c_ (X.list C) λ_ _ xs n p r=>?_;refine c_ (X.list L) λ_ _ ys n' i E=>?_;have M:=r.length;have H:=E.length;by_cases q:j.length≠K.length;·rw[if_pos q] at I;obtain rfl:=me I;have W:=bne_iff_ne.mpr λz=>q<|M.trans<|z.trans H.symm;exact⟨RcAt.lists_lengths p.isList i.isList W B O w _ _<|l.now X<|.bool _,RcNeAt.lists_lengths p.isList i.isList W B O w _ _<|l.now X<|.bool _⟩
   ·rw[if_neg q] at I;refine oA (hM I) ?_;clear e I;rintro f rfl;have f:=(oH _ _).mp f;have q:=Decidable.not_not.mp q;have o:=M.symm.trans<|q.trans H;refine(bp<|MI r E f.1 f.2 q)▸?_;exact⟨RcAt.lists p.isList i.isList o B (wY r E f.1 f.2) O w _ _<|l.now X<|.bool _,RcNeAt.lists p.isList i.isList o B (wY r E f.1 f.2) O w _ _<|l.now X<|.bool _⟩
  |dict lk j=>
   refine oB (show d.bo.bind _=some b from e) λK D I=>?_;refine oE (a0.MK D) ?_;clear D;rintro l2 rfl;clear e;refine oA (hM I) ?_;clear I e;rintro q rfl;obtain rfl:=List.isEmpty_iff.mp q;refine kG (X.dict C) λQ _ m p R=>?_;refine kG (X.dict L) λT _ m' i Z=>?_;cases Z;have g:m.length=([]:List<|Int×Value).length->KeqHits A.in1 s ([]:List<|Int×Value) m true:=λq=>by refine(bp<|List.length_eq_zero_iff.mp q)▸?_;exact .nil
   have k:j.isEmpty=(m.length==([]:List<|Int×Value).length&&true):=by(clear C e;cases R)<;>rfl
   refine(bp k)▸?_;exact⟨keq_eq (X.l_ Q) (X.l_ T) p i B g<|l.now X<|.bool _,keq_ne (X.l_ Q) (X.l_ T) p i B g<|l.now X<|.bool _⟩
  |_=>exact Ku e
 |_=>exact ML X e N P
theorem gA.lookup(r:gA g bo j)(i:Int):(∀v,bo.lookup i=some v->∃x,valueAt j i=some x/\aL g v x)/\(bo.lookup i=Option.none->valueAt j i=Option.none):=by
 induction r with
 |nil=>exact⟨(λ_=>Ku),λ_=>rfl⟩
 |@cons k v x l j c f a=>
  rw[ii];unfold valueAt;by_cases q:k=i
  ·clear a;subst q;refine⟨λd e=>?_,λe=>?_⟩;·simp only[beq_self_eq_true] at e;cases e;exact(a_ x (by simp) c)
   ·simp only[beq_self_eq_true] at e;cases e
  ·have b:(i==k)=false:=by rw[nz];exactλe=>q e.symm
   simp only[b,List.find?_cons,decide_eq_false q];exact a
theorem kJ.lookup{p:List ((Int×Int)×V)}(r:kJ g p L)(i j:Int):
 (∀v,p.lookup (i,j)=some v->∃a x,atKey L [i,j]=some (a,x)/\aL g v x)/\(p.lookup (i,j)=Option.none->atKey L [i,j]=Option.none):=by
 induction r with
 |nil=>exact⟨(λ_=>Ku),λ_=>rfl⟩
 |@cons k b v a x l L f m n=>
  rw[ii];unfold atKey;by_cases q:(k,b)=(i,j)
  ·cases q;refine⟨λo e=>?_,λe=>?_⟩;·simp only[beq_self_eq_true] at e;cases e;exact(fJ a x (by simp) f)
   ·simp only[beq_self_eq_true] at e;cases e
  ·have c:((i,j)==(k,b))=false:=by rw[nz];exactλe=>q e.symm
   have d:decide ([k,b]=[i,j])=false:=decide_eq_false λe=>q (by clear q;cases e;rfl);simp only[c,List.find?_cons,d];exact n
theorem zX(c:aL (u J s.heap) (.aF [.int i,.int j]) x):∃r,x=.ref r/\(tupleKind<|intKind O w).is s.heap [i,j] r/\J r=none:=by
 refine dB c.fz ?_;clear c;rintro r e n rfl g d _;cases d with
 |cons a k=>
  cases k with
  |cons b k=>cases k;refine oE a.int_inv ?_;clear a;rintro t rfl;refine oE b.int_inv ?_;clear b;rintro f rfl;exact(g6 r z (oW _ _ n g.uw z rfl<|.cons (by simp [intKind,Value.isInt])<|.cons (by simp [intKind,Value.isInt]) .nil)<|(bV.mp g).1)
theorem O9(X:t O w U Y J h s.heap)(e:zP a2 a1 h=some b)(v:aL (u J s.heap) a2 x)(I:aL (u J s.heap) a1 a3)(W:A.units+10<cLine):
 wpAny (model O w) A (compareOp .In x a3) (l O w U Y J h s<|.val<|.bool b) dk s/\wpAny (model O w) A (compareOp .NotIn x a3) (l O w U Y J h s<|.val<|.bool !b) dk s:=by
 have d:∀{C:List V}{Z:List Value},aC (u J s.heap) C Z->Ig a2 C=some b->(∀a3,a3∈Z.toArray->EqAt A.in1 s a3 x (k7 a3 x))/\b=Z.toArray.any λa3=>k7 a3 x:=λ{C Z} g e=>by refine oA (hM e) ?_;clear e;rintro f rfl;have f:=(oH _ _).mp f;exact⟨λa3 I=>tL (qI g f.2 a3<|List.mem_toArray.mp I)<|kK v f.1,(MH v f.1 g f.2).trans (List.any_toArray).symm⟩
 induction a1 using gQ with
 |aF C=>refine dB I.fz ?_;clear I;rintro r Z n rfl P g _;refine oA (d g e) ?_;clear d e;rintro o rfl;have M:s.heap.IsTuple r Z.toArray:=(Bl _ P.uw z n z);exact⟨PySem.SeqAt.in_tupleAt (λa3=>k7 a3 x) M o<|l.now X<|.bool _,PySem.SeqAt.notIn_tupleAt (λa3=>k7 a3 x) M o<|l.now X<|.bool _⟩
 |ref a=>
  refine oB (show(h a).bind (Y3 a2)=some b from e) λc F e=>?_;obtain rfl:=I.cq;induction c using kI with
  |list C=>refine c_ (X.list F) λ_ _ Z n p g=>?_;refine oA (d g e) ?_;clear d e;rintro o rfl;exact⟨PySem.SeqAt.in_listAt (λa3=>k7 a3 x) p.isList o<|l.now X<|.bool _,PySem.SeqAt.notIn_listAt (λa3=>k7 a3 x) p.isList o<|l.now X<|.bool _⟩
  |dict lk E=>
   clear d;refine oM (show a2.lj.map _=some b from e) ?_;clear e;rintro i N rfl;clear e;obtain rfl:=V.fB N;refine oE v.int_inv ?_;clear v;rintro y rfl;refine kG (X.dict F) λD _ m p L=>?_;have k:(E.lookup i).isSome=(valueAt m i).isSome:=by
    refine oA (L.lookup i) λG H=>?_;cases q:E.lookup i with
    |none=>refine(bp<|H q)▸?_;rfl
    |some a2=>refine bS (G a2 q) λx K _=>?_;refine(bp K)▸?_;rfl
   refine(bp k)▸?_;have B:(intKind O w).is i<|.int i y:=by simp [intKind,Value.isInt]
   exact⟨wpAny_in_of B (X.l_ D) p.mapOf<|l.toks X<|.bool _,wpAny_notIn_of B (X.l_ D) p.mapOf<|l.toks X<|.bool _⟩
  |dg E=>
   clear d;refine oM (show(t0 a2).map _=some b from e) ?_;clear e;rintro⟨i,j⟩ T rfl;clear e;obtain rfl:=zW T;refine iK (zX (O:=O) (w:=w) v) ?_;clear v;rintro r rfl B _;refine zS (X.dg F) λD _ m p L _=>?_;have room:(tupleKind<|intKind O w).room A.in1:=by exact aG 0x1011cac001d06d0b011011c1c001d06d0b1 z W
   have k:(E.lookup (i,j)).isSome=(atKey m [i,j]).isSome:=by
    refine oA (L.lookup i j) λG H=>?_;cases q:E.lookup (i,j) with
    |none=>refine(bp<|H q)▸?_;rfl
    |some a2=>refine iB (G a2 q) λa x K _=>?_;refine(bp K)▸?_;rfl
   refine(bp k)▸?_;exact⟨wpAny_in_heap room B (X.l_ D) p (l.toks X<|.bool _),wpAny_notIn_heap room B (X.l_ D) p (l.toks X<|.bool _)⟩
  |_=>exact Ku e
 |_=>exact Ku e
theorem Bp{g:zT}(h:aL g a x):(x==Value.none)=a.isNone:=by cases h<;>rfl
theorem Qp(X:t O w U Y J h s.heap)(e:EM r L n h=some b)(a:aL (u J s.heap) L x)(m:aL (u J s.heap) n T)(g:A.units+10<cLine):
 wpAny (model O w) A (compareOp (v_ r) x T) (l O w U Y J h s<|.val<|.bool b) dk s:=by
 cases r with
 |eq=>exact(O8 X e a m<|aG 0x1011cac001d06d0b011011c001d061 z g).1
 |ne=>refine oM e ?_;clear e;rintro c k rfl;exact(O8 X k a m<|aG 0x1011cac001d06d0b011011c001d061 z g).2
 |isin=>exact(O9 X e a m g).1
 |gU=>refine oM e ?_;clear e;rintro c k rfl;exact(O9 X k a m g).2
 |S9=>
  refine oA (hM e) ?_;rintro q rfl;obtain rfl:=V.none_of q;obtain rfl:=m.none_inv;refine wpAny_is_plain ?_ ?_;·cases a<;>rfl
  ·exact(Bp a)▸l.now X (.bool _)
 |Bb=>
  refine oA (hM e) ?_;rintro q rfl;obtain rfl:=V.none_of q;obtain rfl:=m.none_inv;refine wpAny_isNot_plain ?_ ?_;·cases a<;>rfl
  ·exact(Bp a)▸l.now X (.bool _)
 |lt=>refine oB (show L.lj.bind _=some b from e) λi d e=>?_;refine oM e ?_;clear e;rintro j f rfl;obtain rfl:=V.fB d;obtain rfl:=V.fB f;refine oE a.int_inv ?_;clear a;rintro o rfl;refine oE m.int_inv ?_;clear m;rintro p rfl;exact lt_int<|l.now X<|.bool _
 |le=>refine oB (show L.lj.bind _=some b from e) λi d e=>?_;refine oM e ?_;clear e;rintro j f rfl;obtain rfl:=V.fB d;obtain rfl:=V.fB f;refine oE a.int_inv ?_;clear a;rintro o rfl;refine oE m.int_inv ?_;clear m;rintro p rfl;exact le_int<|l.now X<|.bool _
 |gt=>refine oB (show L.lj.bind _=some b from e) λi d e=>?_;refine oM e ?_;clear e;rintro j f rfl;obtain rfl:=V.fB d;obtain rfl:=V.fB f;refine oE a.int_inv ?_;clear a;rintro o rfl;refine oE m.int_inv ?_;clear m;rintro p rfl;exact gt_int<|l.now X<|.bool _
 |ge=>refine oB (show L.lj.bind _=some b from e) λi d e=>?_;refine oM e ?_;clear e;rintro j f rfl;obtain rfl:=V.fB d;obtain rfl:=V.fB f;refine oE a.int_inv ?_;clear a;rintro o rfl;refine oE m.int_inv ?_;clear m;rintro p rfl;exact ge_int<|l.now X<|.bool _
end
structure ES(K:Frag)(Y:Cl->Addr)(a:Fn->Addr)(c:Cl):Prop where
 get:plainGet K (Y c) "x"=true
 Tj:hasDictIn K (Y c)=true
 over:plainOver K (Y c)=true
 set:findIn K (.ref<|Y c) "__setattr__"=some (some<|.builtin "object.__setattr__")
 cz:∀b f,qr c b=some f->findIn K (.ref<|Y c) (dx b)=some (some<|.ref<|a f)/\isFn K (.ref<|a f)=true
 field:∀f,i6 c f->findIn K (.ref<|Y c) (dx f)=some Option.none
theorem aL.handed{v:V}(h:aL g v x):handedIn x:=by cases h<;>rfl
theorem k6.get{y:List (IK×V)}(r:k6 g y a)(f:IK):(∀v,y.lookup f=some v->∃x,getL (dx f) a=some (some x)/\aL g v x)/\(y.lookup f=Option.none->getL (dx f) a=some Option.none):=by
 haveI i:∀{y:List (IK×V)}{a:List DictEntry},k6 g y a->a.any (·.refKey)=false:=by
  intro y a r;induction r with
  |nil=>rfl
  |cons h _ d=>rw[List.any_cons,d];rfl
 haveI s:=i r;unfold getL;rw[s];clear s;induction r with
 |nil=>exact⟨(λ_=>Ku),λ_=>rfl⟩
 |@cons c v t o x l m n s d=>
  rw[ii,List.find?_cons];by_cases q:c=f
  ·clear d;subst q;haveI b:(Value.str (dx c) t).isStr<|dx c:=by simp [Value.isStr]
   simp only[beq_self_eq_true,b];exact⟨λp e=>by cases e;exact(a_ x z n),Kx⟩
  ·haveI j:(f==c)=false:=by rw[nz];exactλe=>q e.symm
   haveI k:(Value.str (dx c) t).isStr (dx f)=false:=by simp only[Value.isStr,nz];exactλe=>q<|Bm _ _ e
   simp only[j,k];exact d
theorem hW[DecidableEq a](k:a)(v:b)(p:a×b)(r:List<|a×b):aE k v (p::r)=if p.1=k then(p.1,v)::r else(p.1,p.2)::aE k v r:=z
theorem k6.put(r:k6 g fs n)(f:IK)(c:aL g v x)(k:Int)(t:Tok):
 k6 g (aE f v fs)<|putL (dx f) k (.str (dx f) t) x n:=by
 induction r with
 |nil=>exact .cons c .nil
 |@cons a y i p z l m o h d=>
  rw[hW];unfold putL;by_cases q:a=f
  ·clear d;subst q;have b:(Value.str (dx a) i).isStr<|dx a:=by simp [Value.isStr]
   simp only[if_true,b];exact .cons c h
  ·have j:(Value.str (dx a) i).isStr (dx f)=false:=by simp only[Value.isStr,nz];exactλe=>q<|Bm _ _ e
   simp only[if_neg q,j];exact .cons o d
theorem k6.length(r:k6 g fs a):a.length=fs.length:=by
 induction r with
 |nil=>rfl
 |cons _ _ b=>rw[jM,jM,b]
theorem wZ[DecidableEq c](k:c)(v:j)(l:List<|c×j):(l.map (·.1)).Nodup->((aE k v l).map (·.1)).Nodup/\∀x∈(aE k v l).map (·.1),x=k\/x∈l.map (·.1):=by
 induction l with
 |nil=>exactλ_=>⟨List.nodup_cons.mpr ⟨i3,List.nodup_nil⟩,λx f=>.inl<|eL.mp f⟩
 |cons p r i=>
  intro h;rw[hW];by_cases q:p.1=k;·rw[if_pos q];exact⟨h,λx f=>.inr f⟩
  ·rw[if_neg q];haveI h:=List.nodup_cons.mp h;exact oA (i h.2) λa b=>⟨List.nodup_cons.mpr ⟨λg=>(b _ g).elim q h.1,a⟩,λx f=>(ew.mp f).elim (λe=>.inr<|e▸pt) λf=>(b x f).imp id λz=>List.mem_cons_of_mem _ z⟩
theorem Iz:Bc.length<=71:=by decide
theorem vr(h:i6 c a):a∈Bc:=List.contains_iff_mem.mp (nl.mp h).2
theorem IA{b:Type}[DecidableEq b]:∀{l m:List b},l.Nodup->(∀x∈l,x∈m)->l.length<=m.length:=λ{f}=>by
 induction f with
 |nil=>intro _ _ _;exact Nat.zero_le _
 |cons a r g=>intro m h k;rw[List.nodup_cons] at h;haveI c:=k a pt;have:=g (m:=m.erase a) h.2 λx d=>(List.mem_erase_of_ne λe=>h.1<|by rw[<-e];exact d).mpr<|k x<|List.mem_cons_of_mem _ d;rw[List.length_erase_of_mem c] at this;have:=List.length_pos_of_mem c;rw[jM];lia
theorem zY(h:i6 c a):qr c a=none:=Option.isNone_iff_eq_none.mp (nl.mp h).1
theorem IB{l:List IK}(h:l.Nodup)(k:∀b∈l,i6 c b):l.length<=71:=by have:=IA h (m:=Bc) λx a=>vr<|k x a;exact eJ this Iz
section
variable{O:Program}{w:World}{U:Heap}{Y:Cl->Addr}{L:Fn->Addr}{K:Frag}{A:Around}{s:Shared}{J:cr}{h:Hp}
theorem t.inst(X:t O w U Y J h s.heap)(e:h a=some (.inst c fs)):J a=some a/\∃d b n,(J d=some a/\d≠a)/\s.heap.get? a=some (instObj (Y c) d)/\s.heap.get? d=some (dictOf b n)/\k6 (u J s.heap) fs b/\(fs.map (·.1)).Nodup/\∀f∈fs.map (·.1),i6 c f:=X.cell a _ e
theorem qJ{a b:Type}[BEq a][LawfulBEq a]{l:List (a×b)}{k:a}{v:b}(e:l.lookup k=some v):k∈l.map (·.1):=by
 induction l with
 |nil=>cases e
 |cons p r c=>
  obtain⟨d,f⟩:=p;rw[ii] at e;cases q:k==d with
  |true=>rw[beq_iff_eq.mp q];exact pt
  |false=>rw[q] at e;exact List.mem_cons_of_mem _<|c e
theorem AC{o:Option a0}{f:IK}{r:V}(e:(match o with|some (.inst _ a)=>a.lookup f|_=>none)=some r):∃c a,o=some (.inst c a)/\a.lookup f=some r:=by
 induction o using qG with
 |none=>exact Ku e
 |some c=>
  induction c using kI with
  |inst c a=>exact(fJ c a z e)
  |_=>exact Ku e
theorem MM{f:IK}{v r:V}{x:Value}{b:Bool}(j:K.In s.heap)(C:∀c,ES K Y L c)(X:t O w U Y J h s.heap)(e:sv v f h=some r)(D:aL (u J s.heap) v x):
 wpAny (model O w) A (PySem.getAttr x (dx f) b) (l O w U Y J h s<|.val r) dk s:=by
 induction v using gQ with
 |ref a=>refine iB (AC e) λc G m e=>?_;obtain rfl:=D.cq;refine sD (X.inst m) λ_ d g n _ o p k E q=>bS ((k.get f).1 r e) λy F i=>?_;haveI I:PySem.W.InstAt s.heap a (instObj (Y c) d) (Y c)<|some<|dictOf g n:=⟨o,z,z,p⟩;haveI B:=q f<|qJ e;exact get_value j I (plainGet_of (C c).get).1 (findObj_own (od:=dictOf g n) (C c).Tj ((C c).field f B) z F) i.handed (l.toks X i)
 |_=>exact Ku e
set_option tactic.hygienic true in
theorem IC{R:Result->Shared->Prop}(X:K.In s.heap)
 (I:PySem.W.InstAt s.heap x a2 a1<|some<|dictOf a n)(i:a2.dict=some e)(y:plainOver K a1)(G:takerIn K a1 name=some Option.none)(r:hasDictIn K a1)
 (f:(getL name a).isSome)(W:a.length<=1000)
 (F:R (.ok<|.ret .none) {s with heap:=s.heap.update e<|Obj.putName name (PyData.keyHash w.params name) (.str name s.toks) a3,toks:=s.toks+1}):
 codeAny (model O w) A (.call (.builtin "object.__setattr__") ⟨[.ref x,.str name tk,a3],[]⟩) R s:=by
 refine osa_open X I y G λb=>kf λQ p=>bS (any_some r) λT q u=>?_;obtain⟨H,g,t,d⟩:=I;obtain⟨Z,M,l,N⟩:=a2;refine p ?_;dsimp only at g i d;clear t;subst g i;dsimp only at d;refine o<|cw<|o<|o<|wpAny_loadPart H<|o<|(looks_clsIn X q).here ?_;rw[u];refine cw (a:=some e)<|o<|cw<|o ?_;unfold nsSet;refine o<|o<|wpAny_askSetting<|cw<|o<|wpAny_mkText<|o<|wpAny_loadPart d ?_;dsimp only;haveI c:(!a.toArray.any (·.key.isStr name)&&a.toArray.any (·.refKey))=false:=by
  unfold getL at f;rw[<-Array.any_toList,<-Array.any_toList];dsimp only;split at f;·rename_i v j;rw[List.any_eq_true.mpr<|a_ v (List.mem_of_find?_eq_some j)<|List.find?_some j];rfl
  ·split at f;·cases f
   ·rename_i z;rw[Bool.not_eq_true] at z;rw[z,Bool.and_false]
 rw[aRefKeyMayBeTheName_at,c];refine wpAny_updatePart d ?_;haveI k:(s.heap.update e<|Obj.putName name (PyData.keyHash w.params name) (.str name s.toks) a3).get? e=some (dictOf (putL name (PyData.keyHash w.params name) (.str name s.toks) a3 a)<|putN name a n):=by rw[<-putName_dict];exact Heap.get?_update_self _ d (by rw[putName_dict];rfl)
 refine o<|wpAny_lookBehind k (pastItsLine_dict<|by rw[List.size_toArray,sizeLine_eq];rw[<-putL_find];split<;>simp<;>exact eJ ‹_› m) ?_;exact cw F
set_option tactic.hygienic true in
theorem sH{f:IK}{a:Nat}{c:a0}(G:K.In s.heap)(C:∀c,ES K Y L c)(X:t O w U Y J h s.heap)(e:h6 a1 f r h=some (a,c))(hx:aL (u J s.heap) a1 x)(hy:aL (u J s.heap) r a2):
 wpAny (model O w) A (PySem.setAttr x (dx f) a2) (λ_ s'=>t O w U Y J (h9 h a c) s'.heap/\y pZ J J s s') dk s:=by
 unfold h6 at e;split at e
 ·split at e
  ·rename_i a' b P ea;split at e
   ·rename_i H;cases e;haveI v:=H;obtain rfl:=hx.cq;refine sD (X.inst ea) ?_;rintro D d k n R Q T j F W;refine oA R λl V=>?_;clear R;haveI I:PySem.W.InstAt s.heap a (instObj (Y b) d) (Y b)<|some<|dictOf k n:=⟨Q,z,z,T⟩;haveI hl:k.length<=71:=by rw[j.length];have:=IB F W;simpa using this
    haveI M:(getL (dx f) k).isSome:=by
     cases q:P.lookup f with
     |none=>rw[(j.get f).2 q];rfl
     |some a1=>refine bS ((j.get f).1 a1 q) λ_ E _=>?_;rw[E];rfl
    haveI Z:takerIn K (Y b) (dx f)=some Option.none:=by unfold takerIn;rw[(C b).field f v];rfl
    refine set_plain G I (C b).set<|IC (s:={s with toks:=s.toks+1}) G I z (C b).over Z (C b).Tj M (eJ ‹_› m) ?_;show t O w U Y J _ (s.heap.update d _)/\_;haveI g:=nM s.heap d<|Obj.putName (dx f) (PyData.keyHash w.params<|dx f) (.str (dx f) (s.toks+1)) a2;haveI i:=cO (i:=J) g λo e=>.inl<|l▸Kx;haveI p:s.heap.objs.size<=(s.heap.update d<|Obj.putName (dx f) (PyData.keyHash w.params<|dx f) (.str (dx f) (s.toks+1)) a2).objs.size:=by rw[Heap.size_after_update];exact ct _
    refine oA (wZ f r P F) λS k2=>⟨X.change g i l D p ⟨D,d,_,putN (dx f) k n,⟨l,V⟩,g a _ (Ne.symm V) Q,?_,(j.mono i).put f (hy.mono i) (PyData.keyHash w.params<|dx f)<|s.toks+1,S,λN B=>?_⟩,dS g i (.inl<|X.tI l (X.owned _ _ D).1) p<|eP z rfl rfl⟩;·rw[<-putName_dict];exact Heap.get?_update_self _ T (by rw[putName_dict];rfl)
    ·clear M H g Z p S i;refine db (k2 N B) ?_ ?_;·rintro rfl;exact v
     ·intro q;exact W N q
   ·cases e
  ·cases e
 ·cases e
end
section
variable{O:Program}{w:World}{U:Heap}{Y:Cl->Addr}{A:Around}{s:Shared}{J:cr}{h:Hp}
theorem IsT.kh{b:Array Value}(x:IsT g a b n):g.IsTuple a b:=(Bl _ x z n z)
theorem Y8[Decidable c](e:(if c then a else Option.none)=some r):c/\a=some r:=by
 by_cases q:c;·rw[if_pos q] at e;exact⟨q,e⟩
 ·rw[if_neg q] at e;exact Ku e
theorem Qq(X:t O w U Y J h s.heap)(e:zn a1 i h=some r)(v:aL (u J s.heap) a1 x)(T:aL (u J s.heap) i a2)(F:A.units+10<cLine):
 wpAny (model O w) A (getItem x a2) (l O w U Y J h s<|.val r) dk s:=by
 cases a1<;>try (cases e;done)
 ·refine oB e λi b e=>?_;obtain rfl:=V.fB b;refine(Y8 e).elim λq e=>?_;obtain⟨y,Z,n,E,f,M⟩:=v.EQ;refine oE T.int_inv ?_;clear T;rintro B rfl;refine bS (f.get _ e) λD a d=>?_;haveI C:=f.length;haveI I:=(v6.mp a).1;exact P.getItem_tuple (k:=i.toNat) E.uw (by lia) (by lia) (by unfold seqIndex?;refine(bp List.size_toArray)▸?_;simp;lia) (by simpa using a)<|l.now X d
 ·obtain rfl:=v.cq;refine oB e λc g e=>?_;induction c using kI with
  |list Q=>refine oB e λi b e=>?_;obtain rfl:=V.fB b;refine(Y8 e).elim λq e=>oE T.int_inv λB D=>?_;clear T;subst D;refine c_ (X.list g) λ_ L Z n p f=>bS (f.get _ e) λD a d=>?_;haveI C:=f.length;haveI I:=(v6.mp a).1;exact wpAny_getItem_list p.isList q (by lia) (by simpa using a)<|l.now X d
  |dict lk W=>refine oB e λi b e=>?_;obtain rfl:=V.fB b;refine oE T.int_inv λB D=>?_;clear T;subst D;exact kG (X.dict g) λG _ m p j=>bS ((j.lookup _).1 r e) λD a d=>wpAny_getItem_of (knd:=intKind O w) (by simp [intKind,Value.isInt]) p.mapOf a<|l.toks X d
  |dg W=>refine oB e λk b e=>?_;obtain rfl:=zW b;refine zS (X.dg g) λG _ m p j _=>iK (zX (O:=O) (w:=w) T) λN H o _=>?_;clear T;subst H;exact iB ((j.lookup _ _).1 r e) λK D a d=>wpAny_getItem_heap (show A.units+1<cLine by exact aG 0x1011cac001d06d0b011011c1c001d06d0b1 z F) o p a<|l.toks X d
  |_=>exact Ku e
def UP(O:Program)(w:World)(U:Heap)(Y:Cl->Addr)(J:cr)(h:Hp)(s:Shared)(a:Nat)(c:a0)(b:Shared):Prop:=t O w U Y J (h9 h a c) b.heap/\y pZ J J s b
theorem l.bO(r:l O w U Y J h s (.upd a c e) x b):UP O w U Y J h s a c b:=⟨r.2.1,r.2.2⟩
theorem gA.length(r:gA g bo b):b.length=bo.length:=by
 induction r with
 |nil=>rfl
 |cons _ _ a=>rw[jM,jM,a]
theorem kJ.length(r:kJ g bo b):b.length=bo.length:=by
 induction r with
 |nil=>rfl
 |cons _ _ a=>rw[jM,jM,a]
theorem Dn(i:Int)(u:Tok):(intKind O w).is i<|.int i u:=by simp [intKind,Value.isInt]
theorem tM{g:Heap}(x:g.DictOf (intKind O w) a b):(b.map (·.1)).Nodup:=x.elim λ_ z=>z.elim λ_ z=>z.elim λ_ z=>z.2.2.2.2.2
theorem ET(X:t O w U Y J h s.heap)(c:J a=some a)(f:Heap.SameBut a s.heap r)(p:s.heap.DictOf (intKind O w) a L)
 (q:r.DictOf (intKind O w) a x)(k:∀g,bC (u J s.heap) g->gA g b x)(n:b.length<=1000000):UP O w U Y J h s a (.dict false b) {s with heap:=r,toks:=T}:=by
 haveI i:=f.extBut;haveI j:bC (u J s.heap)<|u J r:=cO i λo e=>.inl<|c▸Kx;exact⟨X.change i j c c (Nat.le_of_eq f.1.symm)<|vm c n x q<|k _ j,dS i j (.inl<|X.tI c (X.owned _ _ c).1) (Nat.le_of_eq f.1.symm)<|eP z rfl rfl⟩
set_option tactic.hygienic true in
theorem gA.put(r:gA g T L)(a:(L.map (·.1)).Nodup)(i:Int)(n:aL g v x):gA g (aE i v T)<|stored L i x:=by
 have c:∀{T:List (Int×V)}{L:List (Int×Value)},gA g T L->i∉L.map (·.1)->gA g T (L.map λb=>if b.1=i then(b.1,x) else b):=by
  intro T L r;induction r with
  |nil=>intro _;exact .nil
  |@cons k p o l L f t j=>intro a;rw[pc,ew,not_or] at a;rw[pc,if_neg<|Ne.symm a.1];exact .cons f<|j a.2
 induction r with
 |nil=>exact .cons n .nil
 |@cons k p o l L f t j=>
  rw[pc,List.nodup_cons] at a;rw[hW];unfold stored;by_cases q:k=i;·subst q;rw[if_pos z,if_pos (by simp),pc,if_pos z];exact .cons n<|c t a.1
  ·rw[if_neg q];haveI d:=j a.2;unfold stored at d;have e:((k,o)::L).any (λb=>decide (b.1=i))=L.any λb=>decide (b.1=i):=by rw[List.any_cons,decide_eq_false q,Bool.false_or]
   rw[e];split at d;·rename_i m;rw[if_pos m,pc,if_neg q];exact .cons f d
   ·rename_i m;rw[if_neg m,List.cons_append];exact .cons f d
theorem oj[DecidableEq a](k:a)(v:b):∀l:List (a×b),(aE k v l).length<=l.length+1:=λc=>by
 induction c with
 |nil=>exact ct _
 |cons e r d=>
  obtain⟨f,g⟩:=e;rw[hW];split;·simp
  ·have:=d;simp only[jM];exact aG 0x1c101d06001011c1c101d06d0b1c001d061 z this
set_option tactic.hygienic true in
theorem kJ.put(r:kJ g L T)(b:(T.map (·.1)).Nodup)(i j:Int)(a:Addr)(u:aL g v x):
 kJ g (aE (i,j) v L)<|storedH T [i,j] a x:=by
 have f:∀{L:List ((Int×Int)×V)}{T:List (List Int×Addr×Value)},kJ g L T->[i,j]∉T.map (·.1)->kJ g L (T.map<|putAt [i,j] x):=by
  intro L T r;induction r with
  |nil=>intro _;exact .nil
  |@cons k d C c n l T p B t=>intro b;rw[pc,ew,not_or] at b;refine(bp pc)▸?_;unfold putAt;refine(bp<|if_neg<|Ne.symm b.1)▸?_;exact .cons p<|t b.2
 induction r with
 |nil=>exact .cons u .nil
 |@cons k d C c n l T p B t=>
  rw[pc,List.nodup_cons] at b;rw[hW];unfold storedH;by_cases q:(k,d)=(i,j)
  ·cases q;rw[if_pos z,if_pos (by simp [atKey]),pc];haveI m:putAt [i,j] x ([i,j],c,n)=([i,j],c,x):=by simp [putAt]
   refine(bp m)▸?_;exact .cons u<|f B b.1
  ·refine(bp<|if_neg q)▸?_;have y:¬([k,d]=[i,j]):=λe=>q (by clear q;cases e;rfl);have o:=t b.2;unfold storedH at o;haveI e:atKey (([k,d],c,n)::T) [i,j]=atKey T [i,j]:=by unfold atKey;rw[List.find?_cons,decide_eq_false y]
   refine(bp e)▸?_;split at o
   ·rename_i m;refine(bp<|if_pos m)▸(bp pc)▸?_;haveI F:putAt [i,j] x ([k,d],c,n)=([k,d],c,n):=by simp [putAt];exactλD E=>absurd (by rw[D,E]) y
    refine(bp F)▸?_;exact .cons p o
   ·rename_i m;refine(bp<|if_neg m)▸(bp List.cons_append)▸?_;exact .cons p o
theorem Bq{k:List Int}(h:∀i∈g,J i.2.1=none)(c:J a=none):∀i∈storedH g k a x,J i.2.1=none:=by
 intro i e;unfold storedH at e;split at e
 ·refine bS (List.mem_map.mp e) λz b d=>?_;clear e;subst d;unfold putAt;split;·exact h z b
  ·exact h z b
 ·refine db (mx.mp e) (λq=>?_) λq=>?_;·exact h i q
  ·exact(eL.mp q)▸c
theorem Dp{v i r:V}{a:Nat}{c:a0}(X:t O w U Y J h s.heap)(e:nn v i r h=some (a,c))(y:aL (u J s.heap) v x)(E:aL (u J s.heap) i a1)(H:aL (u J s.heap) r a2)(S:A.units+10<cLine):
 wpAny (model O w) A (PySem.setItem x a1 a2) (λ_ s'=>UP O w U Y J h s a c s') dk s:=by
 cases v<;>try (cases e;done)
 obtain rfl:=y.cq;refine oB e λN B e=>oM e λQ e T=>?_;cases T;induction N using kI with
 |list vs=>refine oB e λi d e=>?_;obtain rfl:=V.fB d;refine oA (hM e) λq a2=>?_;clear e;clear e;subst a2;refine oE E.int_inv λD a2=>?_;clear E;subst a2;haveI q:=Jh q;refine c_ (X.list B) λb C I n p M=>?_;haveI hl:=M.length;refine ki_setAt p q.1 (by lia) (by simp;lia) ?_;exact(l.tJ (r:=s.toks) (v:=.none) (x:=.none) (f:=λI=>I.setIfInBounds _ a2) X b p (by simp) (M.set _ H) (by refine(bp List.length_set)▸?_;exact C) .none).bO
 |dict lk P=>
  induction lk using ff with
  |true=>exact Ku e
  |false=>refine oB e λi d e=>?_;obtain rfl:=V.fB d;clear d;refine oA (hM e) λq a2=>?_;clear e;clear e;subst a2;refine oE E.int_inv λD a2=>?_;clear E;subst a2;haveI q:=of_decide_eq_true q;refine kG (X.dict B) λb C m p f=>?_;haveI G:=f.length;refine wpAny_setItem_pairs (Dn _ _) p (λW L j=>?_)<|sizeLine_eq▸aG 0x10100111f4240c061c101d06011000000c080011 z q G;exact ET X b j p L (λg k=>(f.mono k).put (tM p) _<|H.mono k)<|eJ (oj _ _ _)<|bN 0xf4240c061c001d0601f4240c061c001d061 z q
 |dg P=>refine oB e λk d e=>?_;obtain rfl:=zW d;clear d;refine oA (hM e) λq a2=>?_;subst a2;haveI q:=of_decide_eq_true q;refine zS (X.dg B) λb C m p f K=>?_;clear B;clear C;haveI G:=f.length;refine iK (zX (O:=O) (w:=w) E) λr' y0 Z yy=>?_;clear E;subst y0;refine wpAny_setItem_heap (show A.units+1<cLine by exact aG 0x1011cac001d06d0b011011c1c001d06d0b1 z S) Z p (λW L j=>?_)<|sizeLine_eq▸aG 0x10100111f4240c061c101d06011000000c080011 z q G;haveI y:=j.extBut;haveI F:=cO y λo e=>.inl<|b▸Kx;haveI R:=p.elim λ_ a2=>a2.elim λ_ a2=>a2.elim λ_ a2=>a2.2.2.2.2.2;exact⟨X.change y F b b (Nat.le_of_eq j.1.symm)<|Dd b (eJ (oj _ _ _)<|bN 0xf4240c061c001d0601f4240c061c001d061 z q) _ L ((f.mono F).put R _ _ r'<|H.mono F)<|Bq K yy,dS y F (.inl<|X.tI b (X.owned _ _ b).1) (Nat.le_of_eq j.1.symm)<|eP z rfl rfl⟩
 |_=>exact Ku e
end
theorem yY{t:Sem Fin}{s b:Shared}{e:End}(h:Runs c a g t fs s e b):s.heap.objs.size<=b.heap.objs.size:=by induction h<;>(try simp only[Shared.setGen,pu,Heap.size_after_update] at*)<;>(first|exact bN 65553 z|exact aG 72339138019393553 z a_ih|exact aG 0x1011c001d06011010011 z a_ih|exact bF 0x10120101201001011010011 z a_ih a_ih_1)
theorem Dq{s i:Shared}(h:Wakes n a w g r s j i):s.heap.objs.size<=i.heap.objs.size:=by
 have d:∀{c:Ctx}{q:Pos}{k:Sem Fin}{l:List Frame},(∃f b,Runs n c q k l (s.setGen g .running) f b/\f.quiet/\j=f.result/\i=b.setGen g f.genState)->s.heap.objs.size<=i.heap.objs.size:=λh=>zR h λf b m _ _ e=>by rw[e];exact(yY m:(s.setGen g .running).heap.objs.size<=b.heap.objs.size)
 delta Wakes at h;revert h;cases s.gens[g]?with
 |none=>exact False.elim
 |some o=>
  induction o using GenState.casesOn with
  |fresh c=>
   induction r using Resume.casesOn with
   |send v=>induction v using Value.casesOn with|none=>exact d|_=>exactλh=>h.2▸ct _
   |throw x=>exactλh=>h.2▸ct _
  |suspended=>exact d
  |_=>exactλh=>h.2▸ct _
theorem MO(M:Model)(b:Ctx)(n:Nat)(t:Sem w):∀(Q:w->Pos->Shared->Prop)(E:Value->Pos->Shared->Prop)(p:Pos)(s:Shared),n<=s.heap.objs.size->Sem.wp M b t Q E p s->
 Sem.wp M b t (λa u l=>n<=l.heap.objs.size/\Q a u l) (λe u l=>n<=l.heap.objs.size/\E e u l) p s:=by
 induction t with
 |pure a=>intro Q E p s i h;exact⟨i,h⟩
 |raise e=>intro Q E p s i h;exact⟨i,h⟩
 |unsupported _=>intro Q E p s _ h;exact h
 |finish _=>intro Q E p s _ h;exact h
 |rule _ k j=>intro Q E p s i h;exact j () Q E p s i h
 |«at» u k j=>intro Q E p s i h;exact j () Q E u s i h
 |load a _ k j=>intro Q E p s i h;refine bS h λo y h=>?_;exact(a_ o y<|j o Q E p s i h)
 |update a _ f k j=>intro Q E p s i h;exact⟨h.1,j () Q E p _ (by rw[Heap.size_after_update];exact i) h.2⟩
 |loadIfAlive a k j=>intro Q E p s i h;exact j _ Q E p s i h
 |point _ k j=>intro Q E p s i h;exact j () Q E p s i h
 |register _ _=>intro Q E p s _ h;exact h
 |alloc o k j=>intro Q E p s i h;exact j _ Q E p _ (by rw[pu];exact aG 0x101001011c101d060011 z i) h
 |fresh k j=>intro Q E p s i h;exact j _ Q E p _ i h
 |ask k j=>intro Q E p s i h;exact j _ Q E p s i h
 |choose B m k j=>intro Q E p s i h;exact⟨h.1,j _ Q E p _ i h.2⟩
 |os q _ k j=>intro Q E p s i h;exact j _ Q E p _ i h
 |call c C _ _ k j=>intro Q E p s i h;refine iB h λr l A h=>?_;exact(fJ r l A<|j r Q E p l (eJ i<|yY A) h)
 |handled F k j=>intro Q E p s i h;exact j _ Q E p s i h
 |genState g k j=>intro Q E p s i h;refine bS h λD d h=>?_;exact(a_ D d<|j _ Q E p s i h)
 |newGen c k j=>intro Q E p s i h;exact j _ Q E p _ i h
 |resume g r _ k j=>intro Q E p s i h;refine iB h λv l x h=>?_;exact(fJ v l x<|j v Q E p l (eJ i<|Dq x) h)
 |yield _ _ _ _=>intro Q E p s _ h;exact h
 |stack k j=>intro Q E p s i h;exact j _ Q E p s i h
 |fork _ _=>intro Q E p s _ h;exact h
 |thread k j=>intro Q E p s i h;exact j _ Q E p s i h
 |await _ _ _ _ _=>intro Q E p s _ h;exact h
theorem bW{c:Type}{M:Model}{A:Around}{s:Shared}{t:Sem c}{Q:c->Shared->Prop}{E:f9}(h:wpAny M A t (λa g=>s.heap.objs.size<=g.heap.objs.size->Q a g) E s):wpAny M A t Q E s:=
 d (λb p f=>MO M b s.heap.objs.size t _ _ p s (ct _) (h b p f):wpAny M A t (λa g=>s.heap.objs.size<=g.heap.objs.size/\(s.heap.objs.size<=g.heap.objs.size->Q a g)) (λe g=>s.heap.objs.size<=g.heap.objs.size/\E e g) s)
  (λ_ _ k=>k.2 k.1) λ_ _ k=>k.2
section
variable{O:Program}{w:World}{U:Heap}{Y:Cl->Addr}{A:Around}{s:Shared}{J:cr}{h:Hp}
theorem qK{g c:Heap}(d:∀b i,g.get? b=some i->c.get? b=some i):bC (u J g)<|u J c:=λa i e _=>by rw[bV] at e⊢;exact⟨e.1,d a i e.2⟩
theorem t.grow(X:t O w U Y J h g)(d:∀b i,g.get? b=some i->c.get? b=some i)(f:g.objs.size<=c.objs.size):t O w U Y J h c:=
 X.ext (X:=g.objs.size) (λa i _ e=>d a i e) (qK d) (.inl<|X.fresh<|ct _) X.size f
theorem jd{s c:Shared}(d:∀b g,s.heap.get? b=some g->c.heap.get? b=some g)(f:s.heap.objs.size<=c.heap.objs.size)(i:c.gens=s.gens/\c.drawn=s.drawn/\c.os=s.os):y F J J s c:=
 ⟨f,λ_ _=>rfl,λa g e _ _=>d a g e,qK d,i⟩
theorem l.grow(X:t O w U Y J h s.heap)(a:∀b e,s.heap.get? b=some e->s'.heap.get? b=some e)(c:s.heap.objs.size<=s'.heap.objs.size)(f:s'.gens=s.gens/\s'.drawn=s.drawn/\s'.os=s.os)
 (d:aL (u J s.heap) g x):l O w U Y J h s (.val g) x s':=(eP (d.mono<|qK a) (X.grow a c)<|jd a c f)
theorem l.eA{r:R}{x:Value}{s₁ b:Shared}(g:y pZ J J s s₁)(p:l O w U Y J h s₁ r x b):l O w U Y J h s r x b:=by
 cases r with
 |val v=>exact(eP p.1 p.2.1<|g.trans p.2.2)
 |new c=>refine zR p λa d e f X k=>?_;exact(l7 a d e f X<|g.trans k)
 |upd a c v=>exact(eP p.1 p.2.1<|g.trans p.2.2)
theorem Qs{n:Nat}(X:t O w U Y J h s.heap)(e:mI L h=some n)(d:aL (u J s.heap) L x):
 wpAny (model O w) A (call (.builtin "len") [x]) (l O w U Y J h s<|.val<|.int n) dk s:=by
 refine oM e ?_;clear e;rintro f k rfl;cases zV k with
 |aF=>
  refine dB d.fz ?_;rintro r j m rfl o b i;haveI c:=b.length;haveI a:j.toArray.size=f.length:=by simp [c]
  refine P.len_tuple o.uw (by rw[a];lia) ?_;rw[a];exact l.toks X<|.int _ _
 |list g=>
  obtain rfl:=d.cq;refine c_ (X.list g) λ_ i j m p b=>?_;haveI c:=b.length;haveI a:j.toArray.size=f.length:=by simp [c]
  refine Calls.call_len_list p.isList (by rw[a];lia (liaSteps:=9999)) ?_;rw[a];exact l.toks X<|.int _ _
theorem w'{v:V}{a:List V}{x:Value}(X:t O w U Y J h s.heap)(e:jj v h=some a)(f:aL (u J s.heap) v x):
 a.length<=1000000/\∃r i n,x=.ref r/\aC (u J s.heap) a i/\((v=.aF a/\IsT s.heap r i.toArray n/\J r=none)\/(v=.ref r/\h r=some (.list a)/\IsL s.heap r i.toArray n/\J r=some r)):=by
 cases zV e with
 |aF=>refine dB f.fz ?_;rintro r i m rfl j b c;exact⟨c,r,i,m,z,b,.inl<|eP z j.uw<|(bV.mp j).1⟩
 |list d=>obtain rfl:=f.cq;exact c_ (X.list d) λg c i m p b=>⟨c,_,i,m,z,b,.inr<|hV z d p g⟩
theorem F_(X:t O w U Y J h s.heap)(e:h a=some (.list n))(c:n.length<1000000)(j:aL (u J s.heap) r x):
 wpAny (model O w) A (call (.builtin "list.append") [.ref a,x]) (l O w U Y J h s<|.upd a (.list<|n++[r]) .none) dk s:=by
 refine c_ (X.list e) λg i k m p b=>?_;haveI f:=b.length;refine call_meets PySem.F.slot_list_append (a_ _ p z) PySem.F.entry_list_append (PySem.F.args_list_append_2 _ _) (AutoListH.list_append_list_val_0 a _ m x<|by rw[sizeLine_eq];simp;exact aG 0x110121f4240c061c101d06011000000c080011 z c f) ⟨p,?_⟩;exact l.tJ (r:=s.toks) (y:=k++[x]) X g p (by simp) (b.append<|.cons j .nil) (by simp;exact bN 0xf4240c061c001d0601f423fc060011 z c) .none
theorem Ga(X:t O w U Y J h s.heap)(e:h a=some (.list i))(y:jj L h=some g)(d:i.length+g.length<1000000)(H:aL (u J s.heap) L T):
 wpAny (model O w) A (call (.builtin "list.extend") [.ref a,T]) (l O w U Y J h s<|.upd a (.list<|i++g) .none) dk s:=by
 refine c_ (X.list e) λB F G m p k=>?_;have c:=k.length;refine v8 (w' X y H) ?_;clear H;rintro C r j n rfl o v;have f:=o.length;have b:l O w U Y J h s (.upd a (.list<|i++g) .none) .none {s with heap:=s.heap.update a (Obj.mapSeq λx=>x++j.toArray)}:=
  l.tJ (r:=s.toks) (y:=G++j) X B p (by simp) (k.append o) (by simp;exact Nat.le_of_lt ‹_›) .none
 have q:¬((!G.toArray.isEmpty&&Builtin.List.listTooLong (G.toArray.size+j.toArray.size))):=by simp [Builtin.List.listTooLong,sizeLine];intro _;exact jQ 0x1013012100120121f4240c061c3201d05d0a011000000c081001d051 z d c f
 refine db v ?_ ?_
 ·rintro⟨_,D,_⟩;exact call_meets PySem.F.slot_list_extend (a_ _ p z) PySem.F.entry_list_extend (PySem.F.args_list_extend_2 _ _)
   (AutoSeq1.list_extend_list_tuple_0 a _ m r _ n q (by rw[sizeLine_eq];simp;exact bF 0x110121f4240c061c2101d05d0a011000000c080011 z d c)<|by rw[sizeLine_eq];simp;exact jQ 0x1013012100120121f4240c061c3201d05d0a011000001c081001d051 z d c f)<|eP p D b
 ·clear v;rintro⟨_,_,E,_⟩;exact call_meets PySem.F.slot_list_extend (a_ _ p z) PySem.F.entry_list_extend (PySem.F.args_list_extend_2 _ _)
   (AutoSeq1.list_extend_list_list_0 a _ m r _ n q (by rw[sizeLine_eq];simp;exact bF 0x110121f4240c061c2101d05d0a011000000c080011 z d c)<|by rw[sizeLine_eq];simp;exact jQ 0x1013012100120121f4240c061c3201d05d0a011000001c081001d051 z d c f)<|eP p E b
theorem aC.last(r:aC g c xs)(e:c.getLast?=some i):∃y,xs[xs.length-1]?=some y/\aL g i y:=by rw[List.getLast?_eq_getElem?] at e;refine bS (r.get _ e) λy a b=>?_;exact(a_ y (by rw[<-r.length];exact a) b)
theorem Qt(X:t O w U Y J h s.heap)(e:h a=some (.list r))(i:r.getLast?=some x):
 wpAny (model O w) A (call (.builtin "list.pop") [.ref a]) (l O w U Y J h s<|.upd a (.list r.dropLast) x) dk s:=by
 refine c_ (X.list e) λj g d o p b=>?_;haveI c:=b.length;refine bS (b.last i) λy n f=>?_;haveI k:=(v6.mp n).1;refine call_meets PySem.F.slot_list_pop (a_ _ p z) PySem.F.entry_list_pop (PySem.F.args_list_pop_1 _) (MeetsSeq.list_pop_last a _ o y (by simpa using n)<|by rw[sizeLine_eq];simp;exact aG 0x110121f4240c06101011000000c080011 z g c) ⟨p,?_⟩;refine l.tJ (r:=s.toks) (y:=d.dropLast) X j p ?_ ?_ (by simp;exact eJ ‹_› m) f;·haveI q:d.length-1<d.length:=‹_›;apply Array.ext';simp [Array.eraseIdxIfInBounds,q,List.eraseIdx_length_sub_one]
 ·rw[List.dropLast_eq_take,List.dropLast_eq_take,c];exact b.take _
theorem IE(X:t O w U Y J h s.heap)(e:h a=some (.list<|r::i))(j:aL (u J s.heap) (.int 0) L):
 wpAny (model O w) A (call (.builtin "list.pop") [.ref a,L]) (l O w U Y J h s<|.upd a (.list i) r) dk s:=by
 refine c_ (X.list e) λg c k n p b=>?_;refine oE j.int_inv ?_;clear j;rintro o rfl;haveI f:=b.length;cases b with
 |@cons _ x _ k d b=>
  refine call_meets PySem.F.slot_list_pop (a_ _ p z) PySem.F.entry_list_pop (PySem.F.args_list_pop_2 _ _)
   (MeetsSeq.list_pop_at a _ n 0 o 0 x m (by unfold seqIndex?;simp) z<|by rw[sizeLine_eq];simp at*;exact aG 0x110121f423fc0610101ffffffc070011 z c f) ⟨p,?_⟩
  refine l.tJ (r:=s.toks) (y:=k) X g p ?_ b (by simp at c;exact eJ ‹_› m) d;apply Array.ext';simp [Array.eraseIdxIfInBounds]
theorem gA.without(r:gA g e j)(a:(j.map (·.1)).Nodup)(i:Int):gA g (co i e)<|PySem.without j i:=by
 haveI b:∀{e:List (Int×V)}{j:List (Int×Value)},gA g e j->i∉j.map (·.1)->PySem.without j i=j:=λr a=>without_of_not_mem _ _ a;induction r with
 |nil=>exact .nil
 |@cons k v x l j d f c=>
  rw[pc,List.nodup_cons] at a;unfold co PySem.without;by_cases q:k=i;·clear c;subst q;rw[if_pos z,List.filter_cons_of_neg<|by simp];have:=b f a.1;unfold PySem.without at this;rw[this];exact f
  ·rw[if_neg q,List.filter_cons_of_pos<|by simp [q]];exact .cons d<|c a.2
theorem vQ[DecidableEq a](k:a):∀l:List (a×b),(co k l).length<=l.length:=λd=>by
 induction d with
 |nil=>exact ct _
 |cons c r e=>
  show(if c.1=k then r else c::co k r).length<=r.length+1;by_cases q:c.1=k;·rw[if_pos q];exact Nat.le_succ _
  ·rw[if_neg q];exact s4 e
theorem MP(X:t O w U Y J h s.heap)(e:h a=some (.dict false bo))(o:bo.lookup i=some L)(C:aL (u J s.heap) (.int i) T):
 wpAny (model O w) A (call (.builtin "dict.pop") [.ref a,T]) (l O w U Y J h s<|.upd a (.dict false<|co i bo) L) dk s:=by
 refine kG (X.dict e) λr c m p b=>?_;refine oE C.int_inv ?_;clear C;rintro y rfl;refine bS ((b.lookup i).1 L o) λx q v=>?_;haveI j:=b.length;exact call_meetsIn PySem.F.slot_dict_pop p.typeIs PySem.F.entry_dict_pop (PySem.F.args_dict_pop_2 _ _) (meets_dict_pop_there (intKind O w) a (Dn i y) [] (.inl z) z)<|l7 m x p (sizeLine_eq▸aG 0x10100111f4240c06101011000000c080011 z c j) q λD f n=>oA (ET (T:=s.toks+1) X r n p f (λg k=>(b.mono k).without (tM p) i)<|eJ (vQ _ _) c) λB d=>(eP (v.mono d.aF) B d)
theorem uJ(l:Addr)(B:Obj)(D:Array Value)(n:Nat)(p:B.cls=.type "list")(t:B.data=.seq D n)(e:D.size<=sizeLine):
 Meets (Builtin.«tuple.__new__» ⟨[.type "tuple",.ref l],[]⟩) (λ_ R s=>s.heap.get? l=some B/\∀a:Heap,(∀b f,s.heap.get? b=some f->a.get? b=some f)->s.heap.objs.size<=a.objs.size->
  R (.ok (.ret (.ref a.objs.size))) {s with heap:=a.push {cls:=.type "tuple",data:=.seq D}}):=
 .of_wp λO w A R s h=>by
  obtain⟨c,g,d,i,F⟩:=s;refine oA h λk h=>?_;haveI y:=sub_tuple_self;haveI C:=init_tuple_lookup;haveI u:=madeHere_tuple;haveI r:Shared.TypeIs ⟨c,g,d,i,F⟩ (.ref l) "list":=(a_ B k p);haveI q:∀{Q:List Value->Shared->Prop}{E:f9},(∀a,(∀b f,c.get? b=some f->a.get? b=some f)->c.objs.size<=a.objs.size->Q D.toList ⟨a,g,d,i,F⟩)->wpAny (model O w) A.in1 (collect (.ref l)) Q E ⟨c,g,d,i,F⟩:=
   λx=>bW (wpAny_collect_seq (s:=⟨c,g,d,i,F⟩) (hsz:=e) l (.inl z) k p t λa j m=>x a j m)
  wp_walk using AutoSeq1.wpAny_loadPart' k,wpAny_typeOf r,q;intro a j m;show wpAny _ _ (Builtin.Tuple.tupleExact D.toList.toArray>>=λv=>ret v) _ _ _;unfold Builtin.Tuple.tupleExact;refine o (wpAny_newObj_type ?_ (by show D.toList.toArray.size<=sizeLine;simpa using e));refine cw (a_ _ z ?_);rw[Array.toArray_toList];exact h a j m
theorem Dr(X:t O w U Y J h s.heap)(e:h a=some (.list j)):
 wpAny (model O w) A (call (.type "tuple") [.ref a]) (l O w U Y J h s<|.val<|.aF j) dk s:=by
 refine c_ (X.list e) λq i o r p c=>?_;haveI k:=c.length;refine callType_new PySem.F.called_tuple m (PySem.F.typeCall_tuple_1 _) (PySem.F.newCall_tuple_1 _) (λn=>PySem.F.args_object_init_2 n _) PySem.F.entry_tuple_new
  (uJ a _ o.toArray r z rfl<|by rw[sizeLine_eq];simp;lia) ⟨p,λd b f=>⟨(a_ _ (sK _ z) z),?_⟩⟩
 haveI g:=X.grow b f;exact l.eA (s₁:={s with heap:=d}) (jd b f<|eP z rfl rfl)<|l.wW (s:={s with heap:=d}) (e:=s.toks) g (c.mono<|qK b) i
theorem IF(X:t O w U Y J h s.heap)(a:aL (u J s.heap) (.bool b) x):
 wpAny (model O w) A (call (.type "int") [x]) (l O w U Y J h s<|.val<|.int<|if b then 1 else 0) dk s:=by
 obtain rfl:=a.bool_inv;exact call_int_bool<|l.toks X<|.int _ _
set_option tactic.hygienic true in
theorem MQ{r:Sy}(X:t O w U Y J h s.heap)(e:ec g=some r)(a:aL (u J s.heap) g x):
 wpAny (model O w) A (call (.builtin "repr") [x]) (l O w U Y J h s<|.val<|.str r) dk s:=by
 have d:∀{i:Int}{c:Tok}{r:Sy},i=0/\r=.n0\/i=1/\r=.n1\/i=2/\r=.n2->wpAny (model O w) A (call (.builtin "repr") [.int i c]) (l O w U Y J h s<|.val<|.str r) dk s:=by
  rintro i c r (⟨rfl,rfl⟩|⟨rfl,rfl⟩|⟨rfl,rfl⟩);·exact P.repr_of_int m<|l.toks X<|.str .n0 _
  ·exact P.repr_of_int m<|l.toks X<|.str .n1 _
  ·exact P.repr_of_int m<|l.toks X<|.str .n2 _
 induction g using gQ with
 |bool b=>
  obtain rfl:=a.bool_inv;clear a;induction b using ff with
  |true=>exact me e▸P.repr_of_bool (l.toks X<|.str .True _)
  |false=>exact me e▸P.repr_of_bool (l.toks X<|.str .False _)
 |int i=>
  refine oE a.int_inv ?_;clear a;rintro c rfl;replace e:(if i=0 then some .n0 else if i=1 then some .n1 else if i=2 then some .n2 else none:Option Sy)=some r:=e;by_cases q:i=0;·rw[if_pos q] at e;exact d<|.inl ⟨q,(me e).symm⟩
  rw[if_neg q] at e;by_cases q:i=1;·rw[if_pos q] at e;exact d<|.inr<|.inl ⟨q,(me e).symm⟩
  rw[if_neg q] at e;refine oA (hM e) ?_;clear e;rintro q rfl;exact d<|.inr<|.inr ⟨q,z⟩
 |_=>exact Ku e
theorem MR(b:A.handled=none)(X:t O w U Y J h s.heap)(a:aL (u J s.heap) (.int i) x)(g:aL (u J s.heap) (.int j) n):
 wpAny (model O w) A (call (.builtin "max") [x,n]) (l O w U Y J h s<|.val<|.int<|if i<j then j else i) dk s:=by
 refine oE a.int_inv ?_;clear a;rintro k rfl;refine oE g.int_inv ?_;clear g;rintro m rfl;refine bW<|max_two_ints b λe f c d=>l.grow X c d (eP z rfl rfl) ?_;by_cases q:i<j;·rw[if_pos q,if_pos q];exact .int _ _
 ·rw[if_neg q,if_neg q];exact .int _ _
theorem yZ(X:t O w U Y J h s.heap)(e:g.wG=some b)(a:aL (u J s.heap) g x):
 wpAny (model O w) A (call (.builtin "isinstance") [x,.type "bool"]) (l O w U Y J h s<|.val<|.bool b) dk s/\wpAny (model O w) A (call (.builtin "isinstance") [x,.type "int"]) (l O w U Y J h s<|.val<|.bool true) dk s:=by
 cases a with
 |bool c=>cases e;exact⟨IsiPair.bool_bool<|l.now X<|.bool _,IsiPair.bool_int<|l.now X<|.bool _⟩
 |int i d=>cases e;exact⟨IsiPair.int_bool<|l.toks X<|.bool _,IsiPair.int_int<|l.now X<|.bool _⟩
 |_=>exact Ku e
set_option tactic.hygienic true in
theorem IG:∀{a:List V}{i:List Value}{c:List Bool},aC g a i->a.mapM uA=some c->i=c.map Value.bool:=by
 intro a;induction a with
 |nil=>intro i c r e;cases r;cases e;rfl
 |cons v a d=>
  intro i c r e;cases r with
  |cons h r=>
   rw[List.mapM_cons] at e;induction v using gQ<;>simp only[uA,Option.bind_eq_bind,Option.bind_none,Option.bind_some,reduceCtorEq] at e;rename_i b;cases q:a.mapM uA with
   |none=>rw[q] at e;cases e
   |some f=>rw[q] at e;cases e;rw[d r q,h.bool_inv];rfl
theorem IH(x:A.handled=none)(X:t O w U Y J h s.heap)(e:h a=some (.list T))(g:T.mapM uA=some a1):
 wpAny (model O w) A (call (.builtin "any") [.ref a]) (l O w U Y J h s<|.val<|.bool<|a1.any id) dk s:=by
 refine c_ (X.list e) λH _ M m p r=>?_;haveI j:=IG r g;haveI F:=ip p;refine bW<|call_any_walk<|wpAny_pyIter_list p.isList ⟨s.heap.objs.size,_,_,_,_,_,λi=>a1.getD i false,z,Walks.list (A:=A.in1) x s.heap.objs.size a (Nat.ne_of_lt F) M.toArray,
  ⟨(g6 _ (sK _ z) z rfl),p.isList.push _⟩,λi v K Q E c D=>?_,λu L y C=>?_⟩
 ·haveI f:M[i]?=some v:=by simpa using c
  rw[j,oe] at f;cases q:a1[i]?with
  |none=>rw[q] at f;cases f
  |some b=>
   rw[q] at f;clear c;cases f;refine wpAny_truthy_bool ?_;have:a1.getD i false=b:=by rw[wS,q];rfl
   rw[<-this];exact D
 ·haveI n:∀b o,s.heap.get? b=some o->u.get? b=some o:=λb o e=>y b o (by simp only[eL];exact Nat.ne_of_lt<|ip e)<|mj _ e;haveI B:(List.range M.toArray.size).any (λi=>a1.getD i false)=a1.any id:=by
   rw[j];simp only[List.size_toArray,fZ];rw[Bool.eq_iff_iff,List.any_eq_true,List.any_eq_true];constructor;·rintro k;refine bS k λi c q=>?_;clear k;rw[List.mem_range] at c;refine(a_ true ?_ z);rw[wS,sB c] at q;exact(show a1[i]=true from q)▸List.getElem_mem c
   ·rintro d;refine bS d λb g q=>?_;clear d;obtain⟨i,c,rfl⟩:=List.getElem_of_mem g;exact(a_ i (List.mem_range.mpr c)<|by rw[wS,sB c];exact q)
  rw[B];exact l.grow X n C (eP z rfl rfl)<|.bool _
end
section
variable{O:Program}{w:World}{U:Heap}{Y:Cl->Addr}{A:Around}{s:Shared}{J:cr}{h:Hp}
def o6(U:Heap)(J:cr)(a:List Addr):Prop:=∀b∈a,oc J b/\U.objs.size<=b
def qL(a:Expr):Prop:=(∃n p,a=.Name n p)\/∃b k p,a=.Tuple b k p
structure yz(O:Program)(w:World)(U:Heap)(Y:Cl->Addr)(A:Around)(it:Value)(fp:List Addr)(c:H)(xs:List V)(It:Nat->cr->Heap->Prop):Prop where
 keep:∀i(F:Addr->Prop)(J bZ:cr)(s s':Shared),It i J s.heap->y F J bZ s s'->o6 U J fp->(∀b,F b->J b=none/\b∉fp)->It i bZ s'.heap
 item:∀i(J:cr)(h:Hp)(s:Shared)(Q:Option Value->Shared->Prop)(x:V),xs[i]?=some x->t O w U Y J h s.heap->ch c h->It i J s.heap->o6 U J fp->
  (∀a s',t O w U Y J h s'.heap->y (·∈fp) J J s s'->aL (u J s'.heap) x a->It (i+1) J s'.heap->Q (some a) s')->wpAny (model O w) A (pyNext it) Q dk s
 go:∀(tg:Expr) i a(J:cr)(h:Hp)(s:Shared)(Q:Unit->Shared->Prop),qL tg->t O w U Y J h s.heap->It i J s.heap->o6 U J fp->
  (∀s',t O w U Y J h s'.heap->y (·∈fp) J J s s'->It i J s'.heap->Q () s')->wpAny (model O w) A (letOwnedTupleGo tg it a) Q dk s
 done:∀(J:cr)(h:Hp)(s:Shared)(Q:Option Value->Shared->Prop),t O w U Y J h s.heap->ch c h->It xs.length J s.heap->o6 U J fp->
  (∀s',t O w U Y J h s'.heap->y (·∈fp) J J s s'->Q none s')->wpAny (model O w) A (pyNext it) Q dk s
 aq:∀i(J:cr)(s:Shared)(Q:f9),It i J s.heap->Q it s->wpAny (model O w) A (pyIter it) Q dk s
set_option tactic.hygienic true in
theorem m6{E:f9}{I:Addr}(a:qL g)(e:s.heap.get? I=some x)(c:x.cls=.type T)
 (b:["enumerate","zip","dict_itemiterator","dict_reverseitemiterator","odict_iterator","itertools.zip_longest","itertools.pairwise"].contains T=false)(h:r () s):wpAny j A (letOwnedTupleGo g (.ref I) L) r E s:=by
 refine db a ?_ ?_;·clear a;rintro⟨n,p,rfl⟩;exact cw h
 ·clear a;rintro⟨f,k,p,rfl⟩;cases L<;>try exact cw h
  show wpAny j A (load I>>=_) r E s;refine o<|wpAny_load e ?_;rw[c];generalize x.data=d;induction d using Data.casesOn with
  |fields i=>show wpAny j A (if (List.contains _ T&&_) then _ else pure ()) r E s;rw[b];exact cw h
  |_=>exact cw h
theorem oc.bz(h:oc J b):zU J b:=h.elim .inl λq=>.inr<|.inr q
theorem fK{a:List Addr}{I:Addr}{j:Shared}(X:t O w U Y J h s.heap)(d:o6 U J a)(b:I∈a)(f:∀g,s.heap.get? I=some g->J I≠none\/¬fU g)(c:Heap.ExtBut I s.heap j.heap)(e:s.heap.objs.size<=j.heap.objs.size)
 (k:j.gens=s.gens/\j.drawn=s.drawn/\j.os=s.os):t O w U Y J h j.heap/\y (·∈a) J J s j:=
 haveI i:=cO c f
 ⟨X.ext c i (d I b).1 (d I b).2 e,dS c i (.inr<|.inl b) e k⟩
def Ew(J:cr)(g:Heap)(l:Addr)(a:List V):Prop:=∃b:List Value,g.IsList l b.toArray/\aC (u J g) a b
theorem t.Gb(X:t O w U Y J h s.heap)(e:h a=some (.list b)\/h a=some (.ro b)):Ew J s.heap a b:=by
 refine db e ?_ ?_<;>clear e<;>intro e;·refine c_ (X.list e) λ_ _ c n p r=>?_;exact(a_ c p.isList r)
 ·obtain⟨_,_,c,p,r⟩:eQ O w U Y J s.heap a<|.ro b:=X.cell a _ e;exact(a_ c p r)
theorem y4(W:A.handled=none)(I l:Addr)(B:List V)(c:H)(M:∀h,ch c h->h l=some (.list B)\/h l=some (.ro B)):
 yz O w U Y A (.ref I) [I] c B (λi _ g=>g.IsListIter I l i) where
 keep:=λi F J bZ s s' a u d N=>by refine bS a λo C r=>?_;clear a;haveI k:=d I pt;exact(a_ o (u.keep I o C k.1.bz λq=>(N I q).2 pt) r)
 item:=λi J h s Q x S X G a d b=>by
  refine bS (X.Gb<|M h G) λxs p r=>bS (r.get _ S) λE hy R=>wpAny_pyNext_list_item a p (x:=E) (by simpa using hy) λn t K=>?_;haveI v:∀o,s.heap.get? I=some o->J I≠none\/¬fU o:=λo e=>.inr λP=>oA P λq _=>by refine iK a λo' f j _=>?_;rw[e] at f;cases f;rw[j] at q;exact absurd (Value.type.inj q) m
  exact oA (fK (j:={s with heap:=n}) X d pt v K.extBut (Nat.le_of_eq K.1.symm)<|eP z rfl rfl) λD L=>b E _ D L (R.mono L.aF) t
 go:=λtg i E J h s Q Z X k d b=>by exact iK (id k) λo C j _=>m6 Z C j m<|b s X (y.refl _ _ _) k
 done:=λJ h s Q X G a d b=>by
  refine bS (X.Gb<|M h G) λxs p r=>?_;haveI u:=r.length;refine bW<|wpAny_pyNext_list_end W a p (by simp;exact aG 299144757444625 z u) λn T hz=>?_;haveI v:∀o,s.heap.get? I=some o->J I≠none\/¬fU o:=λo e=>.inr λP=>oA P λq _=>by refine iK a λo' f j _=>?_;clear a;rw[e] at f;cases f;rw[j] at q;exact absurd (Value.type.inj q) m
  exact oA (fK (j:={s with heap:=n}) X d pt v T hz<|eP z rfl rfl) λD L=>b _ D L
 aq:=λi J s Q a b=>wpAny_pyIter_listiter a b
theorem Ds(S:A.handled=none)(I t:Addr)(T:List V):
 yz O w U Y A (.ref I) [I] [] T (λi J g=>g.IsTupleIter I t i/\aL (u J g) (.aF T) (.ref t)) where
 keep:=λi F J bZ s s' a k c W=>by refine oA a ?_;rintro N K;refine bS N λo H r=>?_;clear N;haveI l:=c I pt;exact⟨(a_ o (k.keep I o H l.1.bz λq=>(W I q).2 pt) r),K.mono k.aF⟩
 item:=λi J h s Q x hx X hs a c b=>by
  refine oA a λa j=>dB j.fz λr xs n D R p _=>?_;cases D;refine bS (p.get _ hx) λE hy K=>wpAny_pyNext_tuple_item a (IsT.kh R.uw) (x:=E) (by simpa using hy) λv C M=>?_;haveI G:∀o,s.heap.get? I=some o->J I≠none\/¬fU o:=λo e=>.inr λP=>oA P λq _=>by refine iK a λo' d f _=>?_;clear a;rw[e] at d;cases d;rw[f] at q;exact absurd (Value.type.inj q) m
  exact oA (fK (j:={s with heap:=v}) X c pt G M.extBut (Nat.le_of_eq M.1.symm)<|eP z rfl rfl) λB L=>b E _ B L (K.mono L.aF) ⟨C,j.mono L.aF⟩
 go:=λtg i E J h s Q ht X l c b=>by exact iK (id l.1) λo H f _=>m6 ht H f m<|b s X (y.refl _ _ _) l
 done:=λJ h s Q X hs a c b=>by
  refine oA a λa j=>dB j.fz λr xs n D R p _=>?_;cases D;haveI k:=p.length;refine bW<|wpAny_pyNext_tuple_end S a (IsT.kh R.uw) (by simp;exact aG 299144757444625 z k) λv Z hz=>?_;haveI G:∀o,s.heap.get? I=some o->J I≠none\/¬fU o:=λo e=>.inr λP=>oA P λq _=>by refine iK a λo' d f _=>?_;rw[e] at d;cases d;rw[f] at q;exact absurd (Value.type.inj q) m
  exact oA (fK (j:={s with heap:=v}) X c pt G Z hz<|eP z rfl rfl) λB L=>b _ B L
 aq:=λi J s Q a b=>wpAny_pyIter_tupleiter a.1 b
theorem Dt(v:A.handled=none)(I:Addr)(n:Int)(N:0<=n):
 yz O w U Y A (.ref I) [I] [] (bY n) (λi _ g=>IsRangeIter g I i (n-i) 1) where
 keep:=λi F J T s W a C c t=>by have j:=c I pt;exact C.keep I _ a j.1.bz λq=>(t I q).2 pt
 item:=λi J h s Q x f X G a c b=>by
  have M:i<n.toNat:=by have:=(v6.mp f).1;simpa[bY] using this
  have r:x=.int i:=by unfold bY at f;rw[oe,List.getElem?_range M] at f;clear b;cases f;rfl
  clear f;subst r;refine wpAny_pyNext_range_item a (by lia) λl d p=>?_;have B:∀o,s.heap.get? I=some o->J I≠none\/¬fU o:=λo e=>.inr λE=>oA E λq _=>by rw[show s.heap.get? I=_ from a] at e;cases e;exact absurd (Value.type.inj q) m
  refine oA (fK (j:={s with heap:=l,toks:=s.toks+1}) X c pt B p.extBut (Nat.le_of_eq p.1.symm)<|eP z rfl rfl) λk L=>b _ _ k L (.int _ _) ?_;have P:(i:Int)+1=((i+1:Nat):Int):=by lia
  have R:n-(i:Int)-1=n-((i+1:Nat):Int):=by lia
  rw[P,R] at d;exact d
 go:=λZ i D J h s Q H X j c b=>m6 H (show s.heap.get? I=_ from j) z m<|b s X (y.refl _ _ _) j
 done:=λJ h s Q X G a c b=>by
  refine bW<|wpAny_pyNext_range_end v a (by simp [bY];lia) λl u K=>?_;have B:∀o,s.heap.get? I=some o->J I≠none\/¬fU o:=λo e=>.inr λE=>oA E λq _=>by rw[show s.heap.get? I=_ from a] at e;cases e;exact absurd (Value.type.inj q) m
  exact oA (fK (j:={s with heap:=l}) X c pt B u K<|eP z rfl rfl) λk L=>b _ k L
 aq:=λi J s Q a b=>wpAny_pyIter_rangeiter a b
theorem gA.get(r:gA g bo L):∀{i:Nat}{k:Int}{v:V},bo[i]?=some (k,v)->∃x,L[i]?=some (k,x)/\aL g v x:=by
 induction r with
 |nil=>intro i k v e;simp at e
 |@cons j o f l n c m d=>
  intro i k v e;cases i with
  |zero=>simp at e;refine oA e ?_;clear e;rintro rfl rfl;exact(a_ f (by simp) c)
  |succ i=>simp at e;refine bS (d e) λx a b=>?_;exact(a_ x (by simpa using a) b)
set_option tactic.hygienic true in
theorem om(h:(intKind O w).is a b):∃t,b=.int a t:=by cases b<;>simp [intKind,Value.isInt] at h;rename_i i t;exact⟨t,by rw[h]⟩
theorem Gd(hh:A.handled=none)(I d:Addr)(S:List<|Int×V)(ep:Nat)(B:List<|Int×Value):
 yz O w U Y A (.ref I) [I] [(d,.dict true S)] (S.map λp=>.int p.1) (λi J g=>g.IsKeyIter I d i B.length ep/\g.DictAt (intKind O w) d B ep/\J d=some 0/\gA (u J g) S B) where
 keep:=λi F J bZ s s' f C l hF=>by
  refine oU f ?_;rintro nR sF R D;refine bS nR λo G r=>?_;clear nR;refine iB sF λK es c r'=>?_;clear sF;haveI b:=l I pt;haveI hnF:¬F d:=λq=>by have:=(hF d q).1;rw[R] at this;exact Kx this
  exact(hV (a_ o (C.keep I o G b.1.bz λq=>(hF I q).2 pt) r) (fJ K es (C.keep d K c (.inr<|.inl R) hnF) r') ((C.own d<|ip c).trans R)<|D.mono C.aF)
 item:=λi J h s Q x H X hs f l j=>by
  refine oU f λa b R D=>?_;clear f;rw[oe] at H;cases q:S[i]?with
  |none=>rw[q] at H;cases H
  |some kv=>
   obtain⟨k,v⟩:=kv;rw[q] at H;cases H;refine bS (D.get q) λE hy _=>wpAny_pyNext_dict_item a b hy λkey T Tr Ts M=>?_;haveI W:d≠I:=by clear l Ts j M;rintro rfl;refine iK a λo G hc _=>?_;clear a;refine jn b λK es c n _=>?_;clear b;rw[G] at c;cases c;rw[n.1] at hc;exact absurd (Value.type.inj hc) m
   haveI Z:∀o,s.heap.get? I=some o->J I≠none\/¬fU o:=λo e=>.inr λP=>oA P λq _=>by refine iK a λK c n _=>?_;clear a;rw[e] at c;cases c;rw[n] at q;exact absurd (Value.type.inj q) m
   refine oA (fK (j:={s with heap:=T}) X l pt Z M.extBut (Nat.le_of_eq M.1.symm)<|eP z rfl rfl) λN L=>?_;refine oE (om Tr) ?_;clear Tr;rintro t rfl;exact j _ _ N L (.int _ _) (hV Ts (b.extBut M.extBut W) R<|D.mono L.aF)
 go:=λtg i E J h s Q ht X b l j=>by exact iK (id b.1) λo G n _=>m6 ht G n m<|j s X (y.refl _ _ _) b
 done:=λJ h s Q X hs f l j=>by
  refine oU f λa b R D=>?_;clear f;haveI C:=D.length;rw[fZ] at a;refine bW<|wpAny_pyNext_dict_end hh a b (by simp;exact aG 72339142314360849 z C) λT he hz=>?_;haveI Z:∀o,s.heap.get? I=some o->J I≠none\/¬fU o:=λo e=>.inr λP=>oA P λq _=>by refine iK a λK c n _=>?_;clear a;rw[e] at c;cases c;rw[n] at q;exact absurd (Value.type.inj q) m
  exact oA (fK (j:={s with heap:=T}) X l pt Z he hz<|eP z rfl rfl) λN L=>j _ N L
 aq:=λi J s Q f j=>wpAny_pyIter_keyiter f.1 j
end
noncomputable def w_(a:Bool):String:=if a then "tuple_iterator" else "list_iterator"
def jH(a:Bool)(g:Heap)(i l:Addr)(k:Nat):Prop:=if a then g.IsTupleIter i l k else g.IsListIter i l k
def mN(a:Bool)(g:Heap)(l:Addr)(b:Array Value):Prop:=if a then g.IsTuple l b else g.IsList l b
theorem jH.obj(x:jH a g i c b):∃o,g.get? i=some o/\o.cls=.type (w_ a)/\o.data=.fields #[.ref c,.int b 0]:=by induction a using ff<;>exact x
theorem jH.of(x:∃e,g.get? i=some e/\e.cls=.type (w_ a)/\e.data=.fields #[.ref c,.int b 0]):jH a g i c b:=by induction a using ff<;>exact x
theorem jH.at_(x:jH a g i j c)(h:∀n,g.get? i=some n->b.get? i=some n):jH a b i j c:=by refine bS x.obj λn e r=>?_;exact jH.of<|a_ n (h n e) r
theorem mN.obj(x:mN a g b xs):∃o,g.get? b=some o/\o.cls=.type (if a then "tuple" else "list")/\∃n,o.data=.seq xs n:=by induction a using ff<;>exact x
theorem mN.of(x:∃c,g.get? b=some c/\c.cls=.type (if a then "tuple" else "list")/\∃n,c.data=.seq xs n):mN a g b xs:=by induction a using ff<;>exact x
theorem mN.at_{a:Bool}{l:Addr}{c:Array Value}(x:mN a g l c)(h:∀i,g.get? l=some i->b.get? l=some i):mN a b l c:=by refine bS x.obj λi e r=>?_;exact mN.of<|a_ i (h i e) r
section
variable{O:Program}{w:World}{A:Around}{E:f9}{s:Shared}
theorem tN{u:Array Value}(a:s.heap.IsTupleIter L T i)(l:s.heap.IsTuple T u)(m:u[i]?=some x)
 (j:∀e,e.IsTupleIter L T (i+1)->Heap.SameBut L s.heap e->r x {s with heap:=e}):wpAny (model O w) A (Builtin.SmallTypes.nextOf<|.ref L) r E s:=by
 refine kf λn h=>iK (id a) λd c k b=>l.elim λq t=>t.elim λf t=>t.elim λ_ t=>t.elim λp g=>?_;refine h ?_;unfold Builtin.SmallTypes.nextOf;refine o<|wpAny_callSpecial?_slot (name:=Str.ofString "__next__") a.typeIs PySem.F.slot_tuple_iterator_next
  (wpAny_call_entry PySem.F.slot_tuple_iterator_next a.typeIs PySem.F.entry_tuple_iterator_next ?_<|PySem.F.args_tuple_iterator_next_1 _)
 show wpAny _ _ (field (.ref L) 0>>=_) _ _ s;refine o<|wpAny_field c b (x:=.ref T) z ?_;rw[if_neg<|show¬((Value.ref T==Value.none)) from Bool.false_ne_true];refine o<|wpAny_field c b (x:=.int i 0) z ?_;refine o<|wpAny_seqItems f g ?_;simp only[Int.toNat_natCast,m];refine o<|wpAny_setField c b (by simp)<|cw<|a_ x z<|cw<|j _ ?_<|Heap.SameBut.update ..;exact(g6 _ (Heap.get?_update_self _ c<|Obj.isFreed_of_fields<|Obj.data_mapFields b _) ((Obj.cls_mapFields ..).trans k)<|by rw[Obj.data_mapFields b];simp [rawInt])
theorem uK{v:Array Value}(f:A.handled=none)(a:s.heap.IsTupleIter g T i)(m:s.heap.IsTuple T v)(n:v[i]?=none)
 (l:∀b e,Heap.ExtBut g s.heap b->(∃L,b.get? e=some L/\L.cls=.type "StopIteration")->E (.ref e) {s with heap:=b}):wpAny (model O w) A (Builtin.SmallTypes.nextOf (.ref g)) x E s:=by
 refine kf λp k=>iK (id a) λL d q c=>?_;refine m.elim λu t=>t.elim λh t=>t.elim λ_ t=>t.elim λr j=>?_;refine k ?_;unfold Builtin.SmallTypes.nextOf;refine o (wpAny_callSpecial?_slot (name:=Str.ofString "__next__") a.typeIs PySem.F.slot_tuple_iterator_next
  (wpAny_call_entry PySem.F.slot_tuple_iterator_next a.typeIs PySem.F.entry_tuple_iterator_next ?_ (PySem.F.args_tuple_iterator_next_1 _)))
 show wpAny _ _ (field (.ref g) 0>>=_) _ _ s;refine o (wpAny_field d c (x:=.ref T) z ?_);rw[if_neg (show¬((Value.ref T==Value.none)) from Bool.false_ne_true)];refine o (wpAny_field d c (x:=.int i 0) z ?_);refine o (wpAny_seqItems h j ?_);simp only[Int.toNat_natCast,n];refine o (wpAny_rule (o (wpAny_setField d c (by simp) ?_)));refine o ?_;simp only[newExc,newTuple];refine o (wpAny_newObj_type ?_ (by size_fits));refine o (m:=firstArgMember _ _) (wpAny_of_eq (a:=Value.none) (by first|rfl|(simp only[firstArgMember];rfl)) ?_);refine wpAny_newObj_type ?_ (by size_fits);refine o (m:=handled) (wpAny_handled ?_);first|rw[show A.in1.handled=none from f]|rw[f]
 refine o (cw (wpAny_throw ?_));exact l _ _ (((Heap.SameBut.update ..).extBut.push _).push _) (a_ _ (sK _ z) z)
theorem jo{d:Array Value}(a:jH b s.heap j n i)(f:mN b s.heap n d)(g:d[i]?=some x)
 (e:∀c,jH b c j n (i+1)->Heap.SameBut j s.heap c->h x {s with heap:=c}):wpAny (model O w) A (Builtin.SmallTypes.nextOf<|.ref j) h E s:=by
 induction b using ff;·exact wpAny_nextOf_list_item a f g e
 ·exact tN a f g e
theorem o7{k:Array Value}(f:A.handled=none)(a:jH c s.heap j r i)(g:mN c s.heap r k)(h:k[i]?=none)
 (d:∀b e,Heap.ExtBut j s.heap b->(∃x,b.get? e=some x/\x.cls=.type "StopIteration")->E (.ref e) {s with heap:=b}):wpAny (model O w) A (Builtin.SmallTypes.nextOf<|.ref j) n E s:=by
 induction c using ff;·exact wpAny_nextOf_list_end f a g h d
 ·exact uK f a g h d
theorem xa(c:mN a s.heap g xs)
 (b:e (.ref s.heap.objs.size) {s with heap:=s.heap.push {cls:=.type<|w_ a,data:=.fields #[.ref g,.int 0 0]}}):wpAny (model O w) A (pyIter<|.ref g) e E s:=by
 induction a using ff;·exact wpAny_pyIter_list c b
 ·exact wpAny_pyIter_tuple c b
abbrev Wh(h:Heap)(b:Bool)(a:Addr):Heap:=h.push {cls:=.type<|w_ b,data:=.fields #[.ref a,.int 0 0]}
abbrev Wi(h:Heap)(c d:Bool)(a b:Addr):Heap:=(Wh h c a).push {cls:=.type<|w_ d,data:=.fields #[.ref b,.int 0 0]}
abbrev Wj(h:Heap)(b d:Bool)(a c:Addr):Heap:=(Wi h b d a c).push {cls:=.type "tuple",data:=.seq #[.ref h.objs.size,.ref (Wh h b a).objs.size]}
abbrev Wk(h:Heap)(c d:Bool)(a b:Addr):Heap:=(Wj h c d a b).push {cls:=.type "tuple",data:=.seq #[.none,.none]}
abbrev MT(h:Heap)(c d:Bool)(a b:Addr):Heap:=(Wk h c d a b).push {cls:=.type "zip",data:=.fields #[.none,.bool false,.bool false,.ref (Wi h c d a b).objs.size,.ref (Wj h c d a b).objs.size]}
theorem Gg(c f:Bool)(a b:Addr)(q l:Array Value):
 Meets (Builtin.«zip.__new__» ⟨[.type "zip",.ref a,.ref b],[]⟩) (λ_ R s=>mN c s.heap a q/\mN f s.heap b l/\
  R (.ok<|.ret<|.ref (Wk s.heap c f a b).objs.size) {s with heap:=MT s.heap c f a b}):=
 .of_wp λO w A R s h=>by obtain⟨j,g,d,k,r⟩:=s;refine F5 h λm n h=>?_;haveI p:=sub_zip;haveI i:mN f (Shared.heap ⟨j.push {cls:=.type<|w_ c,data:=.fields #[.ref a,.int 0 0]},g,d,k,r⟩) b l:=n.at_ λo e=>mj _ e;wp_walk using xa (s:=⟨j,g,d,k,r⟩) m,xa i;exact(a_ _ z h)
end
section
variable{O:Program}{w:World}{U:Heap}{Y:Cl->Addr}
theorem eQ.z7{g e:Heap}{c:a0}(x:eQ O w U Y n g a c)(i:∀b r,(n b=some a\/n b=some 0\/b<U.objs.size)->g.get? b=some r->e.get? b=some r)(t:bC (u n g)<|u h e)
 (f:∀s,s<g.objs.size->h s=n s):eQ O w U Y h e a c:=
 x.move (λb r z=>i b r<|z.imp And.left id) t λs j _=>f s j
theorem t.Qw{j:cr}{h:Hp}{g k:Heap}{n:List Addr}(x:t O w U Y j h g)(i:o6 U j n)(m:∀b s,b∉n->g.get? b=some s->k.get? b=some s)(o:bC (u j g)<|u j k)(A:g.objs.size<=k.objs.size):t O w U Y j h k where
 base:=λb s e=>m b s (λq=>Nat.lt_irrefl _<|ci (ip e) (i b q).2) (x.base b s e)
 big:=x.big
 size:=eJ x.size A
 owned:=λy a e=>⟨(x.owned y a e).1,ci (x.owned y a e).2 A⟩
 cell:=λa c e=>by
  haveI y:=x.cell a c e;by_cases f:U.objs.size<=a
  ·refine y.z7 (λb s d=>m b s λq=>?_) o λ_ _=>rfl;rcases d with d|d|d
   ·exact x.loose (i b q).1 f d
   ·exact(i b q).1.Tb d
   ·exact Nat.lt_irrefl _<|ci d (i b q).2
  ·induction c using kI with
   |list F=>exact absurd (x.owned _ _ y.1).1 f
   |ro F=>refine kG y ?_;rintro v l H C r;refine oA v λB s=>?_;clear v;refine bS C λz e p=>?_;exact(vm ⟨B,s⟩ l H (a_ z (m a z (λq=>f (i a q).2) e) p)<|r.mono o)
   |dict lk G=>exact absurd (x.owned _ _ y.1).1 f
   |dg G=>exact absurd (x.owned _ _ y.1).1 f
   |inst c J=>exact absurd (x.owned _ _ y.1).1 f
theorem sL{s a:Shared}{d:List Addr}(g:∀b i,b∉d->s.heap.get? b=some i->a.heap.get? b=some i)(t:bC (u c s.heap)<|u c a.heap)(h:s.heap.objs.size<=a.heap.objs.size)
 (j:a.gens=s.gens/\a.drawn=s.drawn/\a.os=s.os):y (·∈d) c c s a:=⟨h,λ_ _=>rfl,λx i e _ f=>g x i f e,t,j⟩
end
abbrev Bu(h:Heap)(z d a:Addr)(b c:Value):Prop:=
 h.get? z=some {cls:=.type "zip",dict:=none,data:=.fields #[b,c,.bool false,.ref d,.ref a],slots:= #[]}
theorem mh{A:Around}{E:f9}{s:Shared}(h:c (s.heap.get? a) s):wpAny b A (loadIfAlive a) c E s:=λ_ _ _=>h
section
variable{O:Program}{w:World}{A:Around}{E:f9}{s:Shared}
theorem II{B I d j k u C:Addr}{K L:Nat}{xs ys:Array Value}{x y a b p:Value}{Q:f9}(D:ZipApart B I d j k u C)
 (r:Bu s.heap B I d .none p)(Tt:IsPair s.heap I (.ref j)<|.ref k)(WY:IsPair s.heap d a b)
 (h1:jH t1 s.heap j u K)(h2:jH t2 s.heap k C L)(Du:mN t1 s.heap u xs)(MU:mN t2 s.heap C ys)(hx:xs[K]?=some x)(hy:ys[L]?=some y)
 (hQ:∀g,Bu g B I d (rawInt s.heap.objs.size) (.bool false)->IsPair g d x y->jH t1 g j u (K+1)->jH t2 g k C (L+1)->IsPair g s.heap.objs.size x y->g.objs.size=s.heap.objs.size+1->
  (∀c a1,c≠B->c≠d->c≠j->c≠k->s.heap.get? c=some a1->g.get? c=some a1)->Q (.ref s.heap.objs.size) {s with heap:=g}):
 wpAny (model O w) A (Builtin.«zip.__next__» ⟨[.ref B],[]⟩) (λW s'=>∃v,W=.done (.ret v)/\Q v s') E s:=by
 show wpAny _ _ (field (.ref B) 2>>=_) _ _ _;refine o<|wpAny_field r z (x:=.bool false) z ?_;refine o<|wpAny_field r z (x:=.ref I) z<|o<|wpAny_seqItems Tt z ?_;refine o ?_;unfold Builtin.SmallTypes.ownedTupleIsFree;refine o<|wpAny_field r z (x:=.none) z<|cw ?_;simp only[if_true];refine o<|wpAny_rule<|o<|wpAny_field r z (x:=.ref d) z<|o<|wpAny_setField_rec r (by simp) λbh X i=>?_;replace X:Bu bh B I d .ellipsis p:=X;refine o ?_;simp only[List.zipIdx_cons,List.zipIdx_nil,List.forIn_cons,List.forIn_nil];refine o<|o<|wpAny_onRaise ?_;refine o<|jo (h1.at_ λa1 e=>i.extBut _ a1 D.i1z e) (Du.at_ λa1 e=>i.extBut _ a1 D.l1z e) hx λcf y6 l=>cw ?_;haveI xb:IsPair cf d a b:=l.extBut _ _ D.TOi1<|i.extBut _ _ D.TOz WY;refine o<|wpAny_seqItems xb z<|o<|wpAny_updateSeq_pair xb λiL Z m=>?_;replace Z:IsPair iL d x b:=Z;refine o<|wpAny_letGo<|cw<|o<|o<|wpAny_onRaise ?_;refine o<|jo (h2.at_ λa1 e=>m.extBut _ a1 D.TOi2.symm<|l.extBut _ a1 D.i12.symm<|i.extBut _ a1 D.i2z e)
  (MU.at_ λa1 e=>m.extBut _ a1 D.l2TO<|l.extBut _ a1 D.l2i1<|i.extBut _ a1 D.l2z e) hy λnN Tu F=>cw ?_
 haveI R:IsPair nN d x b:=F.extBut _ _ D.TOi2 Z;refine o<|wpAny_seqItems R z<|o<|wpAny_updateSeq_pair R λf G t=>?_;replace G:IsPair f d x y:=G;refine o<|wpAny_letGo<|cw<|cw<|o<|wpAny_seqItems G z<|o<|wpAny_newTuple ?_;haveI q:f.objs.size=s.heap.objs.size:=by rw[t.1,F.1,m.1,l.1,i.1]
 haveI S:Bu f B I d .ellipsis p:=t.extBut _ _ D.TOz.symm<|F.extBut _ _ D.i2z.symm<|m.extBut _ _ D.TOz.symm<|l.extBut _ _ D.i1z.symm X;haveI Tv:∀c a1,c≠B->c≠d->c≠j->c≠k->s.heap.get? c=some a1->f.get? c=some a1:=λc a1 h J T U e=>t.extBut _ _ J<|F.extBut _ _ U<|m.extBut _ _ J<|l.extBut _ _ T<|i.extBut _ _ h e;haveI Tw:jH t1 f j u<|K+1:=y6.at_ λa1 e=>t.extBut _ a1 D.TOi1.symm<|F.extBut _ a1 D.i12<|m.extBut _ a1 D.TOi1.symm e;haveI Tx:jH t2 f k C<|L+1:=Tu.at_ λa1 e=>t.extBut _ a1 D.TOi2.symm e;haveI Tz:B<f.objs.size:=ip S;haveI Y_:d<f.objs.size:=ip G;refine o ?_;unfold Builtin.SmallTypes.ownedTupleHandOut;haveI TA:Bu (f.push {cls:=.type "tuple",data:=.seq #[x,y]}) B I d .ellipsis p:=mj _ S;refine o<|wpAny_setField_rec TA (by simp) λGh M Y=>?_;replace M:Bu Gh B I d (rawInt f.objs.size) p:=M;refine wpAny_setField_rec M (by simp) λn H N=>?_;replace H:Bu n B I d (rawInt f.objs.size)<|.bool false:=H;haveI P:∀c a1,c≠B->f.get? c=some a1->n.get? c=some a1:=λc a1 h e=>N.extBut _ _ h<|Y.extBut _ _ h<|mj _ e;haveI V:IsPair n f.objs.size x y:=N.extBut _ _ (Nat.ne_of_gt Tz)<|Y.extBut _ _ (Nat.ne_of_gt Tz)<|sK _ z;haveI Za:n.objs.size=f.objs.size+1:=by rw[N.1,Y.1,pu]
 rw[q] at H V Za;refine cw<|a_ _ z ?_;rw[q];exact hQ n H (P _ _ D.TOz G) (Tw.at_ λa1 e=>P _ a1 D.i1z e) (Tx.at_ λa1 e=>P _ a1 D.i2z e) V Za λc a1 h J T U e=>P c a1 h<|Tv c a1 h J T U e
theorem IP{l B m i j p q T:Addr}{G H:Nat}{M K:Array Value}{x y t:Value}{oT:Obj}{Q:f9}(D:ZipApart l B m i j p q)
 (h:Bu s.heap l B m (rawInt T) t)(hT:s.heap.get? T=some oT)(X:IsPair s.heap B (.ref i)<|.ref j)
 (R:jH L s.heap i p G)(S:jH a1 s.heap j q H)(N:mN L s.heap p M)(U:mN a1 s.heap q K)(hx:M[G]?=some x)(hy:K[H]?=some y)
 (V:∀a2 a3,Bu a2 l B m (rawInt T) a3->jH L a2 i p (G+1)->jH a1 a2 j q (H+1)->IsPair a2 s.heap.objs.size x y->a2.objs.size=s.heap.objs.size+1->
  (∀c a4,c≠l->c≠i->c≠j->s.heap.get? c=some a4->a2.get? c=some a4)->Q (.ref s.heap.objs.size) {s with heap:=a2}):
 wpAny (model O w) A (Builtin.«zip.__next__» ⟨[.ref l],[]⟩) (λu r=>∃v,u=.done (.ret v)/\Q v r) E s:=by
 show wpAny _ _ (field (.ref l) 2>>=_) _ _ _;refine o<|wpAny_field h z (x:=.bool false) z ?_;show wpAny _ _ (field (.ref l) 3>>=_) _ _ _;refine o<|wpAny_field h z (x:=.ref B) z<|o<|wpAny_seqItems X z ?_;show wpAny _ _ (Builtin.SmallTypes.ownedTupleIsFree (.ref l)>>=_) _ _ _;refine o ?_;unfold Builtin.SmallTypes.ownedTupleIsFree;refine o<|wpAny_field h z (x:=rawInt T) z ?_;show wpAny _ _ (loadIfAlive T>>=_) _ _ _;refine o<|mh ?_;rw[hT];refine o<|wpAny_field h z (x:=t) z<|d (Q:=λb r=>b=false/\∃g a3,r={s with heap:=g}/\Bu g l B m (rawInt T) a3/\Heap.SameBut l s.heap g) ?_ (λb r J=>?_) λ_ _ e=>e
 ·dsimp only;split;·exact o<|wpAny_setField_rec h (by simp) λg F a=>cw<|uG z g _ z F a
  ·exact cw<|uG z s.heap t z h<|.refl ..
 refine C_ J ?_;clear J;rintro rfl g a3 rfl F a;simp only[Bool.false_eq_true,if_false,List.forIn_toArray,List.forIn_cons,List.forIn_nil,bind_assoc];refine o<|wpAny_holding ?_;show wpAny _ _ (Builtin.SmallTypes.nextOf (.ref i)>>=_) _ _ _;refine o<|jo (R.at_ λa4 e=>a.extBut _ a4 D.i1z e) (N.at_ λa4 e=>a.extBut _ a4 D.l1z e) hx λcf y6 k=>cw<|o<|cw<|o<|o<|wpAny_holding ?_;show wpAny _ _ (Builtin.SmallTypes.nextOf (.ref j)>>=_) _ _ _;refine o<|jo (S.at_ λa4 e=>k.extBut _ a4 D.i12.symm<|a.extBut _ a4 D.i2z e) (U.at_ λa4 e=>k.extBut _ a4 D.l2i1<|a.extBut _ a4 D.l2z e) hy λC W n=>cw<|o<|cw<|cw ?_;show wpAny _ _ (newTuple [x,y]>>=λv=>ret v) _ _ _;refine o<|wpAny_newTuple<|cw<|a_ _ z ?_;haveI f:C.objs.size=s.heap.objs.size:=by rw[n.1,k.1,a.1]
 haveI I:∀c a4,C.get? c=some a4->(C.push {cls:=.type "tuple",data:=.seq [x,y].toArray}).get? c=some a4:=λc a4 e=>mj _ e;rw[f];refine V _ a3 (I _ _<|n.extBut _ _ D.i2z.symm<|k.extBut _ _ D.i1z.symm F) ((y6.at_ λa4 e=>n.extBut _ a4 D.i12 e).at_ λa4 e=>I _ a4 e) (W.at_ λa4 e=>I _ a4 e) ?_ (by rw[pu,f]) λc a4 Y Z P e=>I _ _<|n.extBut _ _ P<|k.extBut _ _ Z<|a.extBut _ _ Y e;rw[<-f];exact sK _ z
theorem MV{M N:Nat}{a b X v:Value}{Q:Fin->Shared->Prop}(G:A.handled=none)(D:ZipApart a3 TI i a1 L l1 l2)
 (g:Bu s.heap a3 TI i X v)(J:X=.none\/∃(T:Addr)(a2:Obj),X=rawInt T/\s.heap.get? T=some a2)(Tt:IsPair s.heap TI (.ref a1)<|.ref L)(WY:IsPair s.heap i a b)
 (y:jH t1 s.heap a1 l1 M)(V:jH t2 s.heap L l2 N)(t:mN t1 s.heap l1 xs)(R:mN t2 s.heap l2 ys)(C:xs[M]?=none\/ys[N]?=none)
 (H:∀Y e,(∀c a2,c≠a3->c≠i->c≠a1->c≠L->s.heap.get? c=some a2->Y.get? c=some a2)->(∃a2,Y.get? e=some a2/\a2.cls=.type "StopIteration")->E (.ref e) {s with heap:=Y}):
 wpAny (model O w) A (Builtin.«zip.__next__» ⟨[.ref a3],[]⟩) Q E s:=by
 show wpAny _ _ (field (.ref a3) 2>>=_) _ _ _;refine o<|wpAny_field g z (x:=.bool false) z ?_;refine o<|wpAny_field g z (x:=.ref TI) z<|o<|wpAny_seqItems Tt z ?_;show wpAny _ _ (Builtin.SmallTypes.ownedTupleIsFree (.ref a3)>>=_) _ _ _;refine o ?_;unfold Builtin.SmallTypes.ownedTupleIsFree;refine db J ?_ ?_
 ·clear J;rintro rfl;refine o<|wpAny_field g z (x:=.none) z<|cw ?_;simp only[if_true];refine o<|wpAny_rule<|o<|wpAny_field g z (x:=.ref i) z<|o<|wpAny_setField_rec g (by simp) λm l B=>?_;clear g;replace l:Bu m a3 TI i .ellipsis v:=l;refine o ?_;simp only[List.zipIdx_cons,List.zipIdx_nil,List.forIn_cons,List.forIn_nil];refine o<|o<|wpAny_onRaise ?_;show wpAny _ _ (Builtin.SmallTypes.nextOf (.ref a1)>>=_) _ _ _;cases r:xs[M]?with
  |none=>
   refine o<|o7 G (y.at_ λa2 e=>B.extBut _ a2 D.i1z e) (t.at_ λa2 e=>B.extBut _ a2 D.l1z e) r λu e f n=>?_;clear y G t;refine n.elim λZ a3=>?_;clear n;haveI p:=a3.1;haveI F:=a3.2;clear a3;haveI S:Bu u a3 TI i .ellipsis v:=f _ _ D.i1z.symm l;haveI U:e≠a3:=λx=>by clear D l;subst x;rw[S] at p;cases p;simp at F
   refine wpAny_setField_rec S (by simp) λK _ k=>H K e (λc a2 j _ q _ x=>k.extBut _ _ j<|f _ _ q<|B.extBut _ _ j x)<|a_ Z (k.extBut _ _ U p) F
  |some x=>
   haveI I:ys[N]?=none:=by refine db C ?_ ?_<;>clear C<;>intro h;rw[r] at h;cases h;exact h
   clear C;refine o<|jo (y.at_ λa2 e=>B.extBut _ a2 D.i1z e) (t.at_ λa2 e=>B.extBut _ a2 D.l1z e) r λu y6 f=>cw ?_;clear y y6 t;haveI xb:IsPair u i a b:=f.extBut _ _ D.TOi1<|B.extBut _ _ D.TOz WY;refine o<|wpAny_seqItems xb z<|o<|wpAny_updateSeq_pair xb λK z8 k=>o<|wpAny_letGo<|cw<|o<|o<|wpAny_onRaise ?_;show wpAny _ _ (Builtin.SmallTypes.nextOf (.ref L)>>=_) _ _ _;refine o<|o7 G (V.at_ λa2 e=>k.extBut _ a2 D.TOi2.symm<|f.extBut _ a2 D.i12.symm<|B.extBut _ a2 D.i2z e)
    (R.at_ λa2 e=>k.extBut _ a2 D.l2TO<|f.extBut _ a2 D.l2i1<|B.extBut _ a2 D.l2z e) I λnN e mn n=>?_
   refine n.elim λZ a3=>?_;haveI p:=a3.1;haveI F:=a3.2;clear a3;haveI P:Bu nN a3 TI i .ellipsis v:=mn _ _ D.i2z.symm<|k.extBut _ _ D.TOz.symm<|f.extBut _ _ D.i1z.symm l;clear D l;haveI U:e≠a3:=λx=>by subst x;rw[P] at p;cases p;simp at F
   refine wpAny_setField_rec P (by simp) λjR _ jq=>H jR e (λc a2 j c2 q W x=>jq.extBut _ _ j<|mn _ _ W<|k.extBut _ _ c2<|f.extBut _ _ q<|B.extBut _ _ j x)<|a_ Z (jq.extBut _ _ U p) F
 ·clear J;rintro⟨T,oT,rfl,hT⟩;refine o<|wpAny_field g z (x:=rawInt T) z ?_;show wpAny _ _ (loadIfAlive T>>=_) _ _ _;refine o<|mh ?_;rw[hT];clear hT;refine o<|wpAny_field g z (x:=v) z<|d (Q:=λb s'=>b=false/\∃m y7,s'={s with heap:=m}/\Bu m a3 TI i (rawInt T) y7/\Heap.SameBut a3 s.heap m) ?_ (λb s' hb=>?_) λ_ _ e=>e
  ·dsimp only;split;·exact o<|wpAny_setField_rec g (by simp) λm l B=>cw<|uG z m _ z l B
   ·exact cw<|uG z s.heap v z g<|.refl ..
  refine C_ hb ?_;clear hb;rintro rfl m y7 rfl l B;simp only[Bool.false_eq_true,if_false,List.forIn_toArray,List.forIn_cons,List.forIn_nil,bind_assoc];refine o<|wpAny_holding ?_;cases r:xs[M]?with
  |none=>exact o<|o7 G (y.at_ λa2 e=>B.extBut _ a2 D.i1z e) (t.at_ λa2 e=>B.extBut _ a2 D.l1z e) r λu e f n=>H u e (λc a2 j _ q _ x=>f _ _ q<|B.extBut _ _ j x) n
  |some x=>
   haveI I:ys[N]?=none:=by refine db C ?_ ?_<;>clear C<;>intro h;rw[r] at h;cases h;exact h
   refine o<|jo (y.at_ λa2 e=>B.extBut _ a2 D.i1z e) (t.at_ λa2 e=>B.extBut _ a2 D.l1z e) r λu y6 f=>cw<|o<|cw<|o<|o<|wpAny_holding ?_;exact o<|o7 G (V.at_ λa2 e=>f.extBut _ a2 D.i12.symm<|B.extBut _ a2 D.i2z e) (R.at_ λa2 e=>f.extBut _ a2 D.l2i1<|B.extBut _ a2 D.l2z e) I λK e k n=>H K e (λc a2 j _ q W x=>k _ _ W<|f.extBut _ _ q<|B.extBut _ _ j x) n
end
section
variable{O:Program}{w:World}{U:Heap}{Y:Cl->Addr}{A:Around}{s:Shared}{J:cr}{h:Hp}
def Ev(J:cr)(h:Hp)(g:Heap)(b:Bool)(l:Addr)(a:List V):Prop:=if b then aL (u J g) (.aF a) (.ref l) else h l=some (.list a)
noncomputable def Dw(a:Bool)(l:Addr)(b:List V):H:=if a then[] else[(l,.list b)]
theorem Ev.items{l:Addr}(X:t O w U Y J h s.heap)(x:Ev J h s.heap c l b):∃d:List Value,mN c s.heap l d.toArray/\aC (u J s.heap) b d:=by
 induction c using ff with
 |true=>refine dB (aL.fz<|show aL (u J s.heap) (.aF b) (.ref l) from x) λr d n e f a _=>?_;cases e;exact(a_ d (IsT.kh f.uw) a)
 |false=>exact c_ (X.list<|show h l=some (.list b) from x) λ_ _ d n p a=>(a_ d p.isList a)
theorem u5{i:Nat}{v:V}(e:(bn xs g)[i]?=some v):∃a b,xs[i]?=some a/\g[i]?=some b/\v=.aF [a,b]:=by unfold bn at e;rw[oe,Option.map_eq_some_iff] at e;refine bS e ?_;clear e;rintro p c rfl;rw[List.getElem?_zip_eq_some] at c;exact(kH p.1 p.2 c.1 c.2 z)
theorem z9:xs[(bn xs a).length]?=none\/a[(bn xs a).length]?=none:=by
 have:(bn xs a).length=min xs.length a.length:=by simp [bn]
 rw[this];refine db (Nat.le_total xs.length a.length) (λq=>?_) λq=>?_;·exact .inl<|List.getElem?_eq_none<|by lia
 ·exact .inr<|List.getElem?_eq_none<|by lia
structure TF(c TI TO i1 i2 l1 l2:Addr)(t1 t2:Bool)(us vs:List V)(i:Nat)(J:cr)(g:Heap):Prop where
 zr:∃f0 f1,Bu g c TI TO f0 f1/\(f0=.none\/∃(T:Addr)(e:Obj),f0=rawInt T/\g.get? T=some e/\J T=none/\fU e)
 ti:IsPair g TI (.ref i1) (.ref i2)
 to:J TO=some 1/\∃a b,IsPair g TO a b
 xd:jH t1 g i1 l1 i
 Gi:jH t2 g i2 l2 i
 s1:t1->aL (u J g) (.aF us) (.ref l1)
 s2:t2->aL (u J g) (.aF vs) (.ref l2)
theorem fu{g:Heap}{a:Addr}{o:Obj}{T:String}(e:g.get? a=some o)(d:o.cls=.type T)(f:(T=="tuple")=false):∀b,g.get? a=some b->J a≠none\/¬fU b:=λb c=>.inr λ⟨q,_⟩=>by rw[e] at c;cases c;rw[d] at q;clear d;cases q;simp at f
theorem rt(t:Bool):(w_ t=="tuple")=false:=by induction t using ff<;>decide
set_option tactic.hygienic true in
theorem IQ(hh:A.handled=none){S TI Z i1 i2 l1 l2:Addr}(t1 t2:Bool)(us vs:List V)(D:ZipApart S TI Z i1 i2 l1 l2):
 yz O w U Y A (.ref S) [S,TI,Z,i1,i2] (Dw t1 l1 us++Dw t2 l2 vs) (bn us vs) (TF S TI Z i1 i2 l1 l2 t1 t2 us vs) where
 keep:=λi F J bZ s s' K hl B hF=>by
  have k:∀b E,b∈[S,TI,Z,i1,i2]->s.heap.get? b=some E->s'.heap.get? b=some E:=λb E hb e=>hl.keep b E e (B b hb).1.bz λq=>(hF b q).2 hb;refine kf λGz j=>?_;obtain⟨jP,G,nR,M,H,s1,s2⟩:=K;refine iB jP λf0 f1 g yp=>?_;obtain⟨ho,a,b,W⟩:=nR;refine j<|⟨(fJ f0 f1 (k _ _ (by walk_at "mem") g) ?_),k _ _ (by walk_at "mem") G,(Dc ((hl.own _<|ip W).trans ho) a b<|k _ _ (by walk_at "mem") W),M.at_ λE e=>k _ E (by walk_at "mem") e,H.at_ λE e=>k _ E (by walk_at "mem") e,λq=>(s1 q).mono hl.aF,λq=>(s2 q).mono hl.aF⟩;rcases yp with e|⟨T,E,e,l,hn,r⟩
  ·exact .inl e
  ·exact oA (bV.mp<|hl.aF T E (bV.mpr ⟨hn,l⟩) r) λn' N=>.inr (l7 T E e N n' r)
 item:=λi J h s Q x hx X hs K B f=>by
  refine kf λGz j=>?_;refine jn (u5 hx) ?_;clear hx;rintro P v hu hv rfl;obtain⟨sF,G,A3,M,H,s1,s2⟩:=K;refine iB sF λf0 f1 g yp=>?_;clear sF;obtain⟨ho,a,b,W⟩:=A3;refine j ?_;have Qy:Ev J h s.heap t1 l1 us:=by
   clear f M;induction t1 using ff with
   |true=>exact s1 z
   |false=>exact hs (l1,.list us) (by simp [Dw])
  have Qz:Ev J h s.heap t2 l2 vs:=by
   clear f H;induction t2 using ff with
   |true=>exact s2 z
   |false=>exact hs (l2,.list vs) (by simp [Dw])
  refine kf λGz j=>bS (Qy.items X) λxs p1 r1=>bS (Qz.items X) λys p2 r2=>bS (r1.get _ hu) λx vR vx=>bS (r2.get _ hv) λR Zb vy=>j ?_;have l:s.TypeIs (.ref S) "zip":=(a_ _ g z)
  --aaa comes out,either way
  have fin:∀(d:Heap) IR y7 a' b',Bu d S TI Z IR y7->(IR=rawInt s.heap.objs.size\/IR=f0/\f0≠.none)->IsPair d Z a' b'->jH t1 d i1 l1 (i+1)->jH t2 d i2 l2 (i+1)->IsPair d s.heap.objs.size x R->d.objs.size=s.heap.objs.size+1->
   (∀c E,c≠S->c≠Z->c≠i1->c≠i2->s.heap.get? c=some E->d.get? c=some E)->Q (some<|.ref s.heap.objs.size) {s with heap:=d}:=by
   intro d IR y7 a' b' zZ e0 Zc j1 j2 pT MW I;have MS:J s.heap.objs.size=none:=X.fresh<|ct _;have tk:bC (u J s.heap)<|u J d:=λc E e r=>by
    rw[bV] at e⊢;refine⟨e.1,I c E ?_ ?_ ?_ ?_ e.2⟩;·clear D j l B I f zZ;rintro rfl;exact(fu (J:=J) g z m E e.2).elim (λq=>q e.1) λq=>q r
    ·clear D B I f g zZ W Zc;rintro rfl;rw[ho] at e;exact Kx e.1
    ·clear D B I f j1 G;rintro rfl;refine iK M.obj λo' N c' _=>?_;exact(fu (J:=J) N c' (rt _) E e.2).elim (λq=>q e.1) λq=>q r
    ·clear D B I f j2 G;rintro rfl;refine iK H.obj λo' N c' _=>?_;exact(fu (J:=J) N c' (rt _) E e.2).elim (λq=>q e.1) λq=>q r
   have CX:∀c E,c∉[S,TI,Z,i1,i2]->s.heap.get? c=some E->d.get? c=some E:=λc E C e=>by simp only[ew,i3,or_false,not_or] at C;exact I c E C.1 C.2.2.1 C.2.2.2.1 C.2.2.2.2 e
   have X':t O w U Y J h d:=X.Qw B CX tk<|aG 0x1c001d06101211010011 z MW;refine f _ _ X' (sL CX tk (by show s.heap.objs.size<=d.objs.size;exact aG 0x1c001d06101211010011 z MW)<|eP z rfl rfl) ?_ ⟨(fJ IR y7 zZ ?_),I _ _ D.TIz D.TITO D.TIi1 D.TIi2 G,(Dc ho a' b' Zc),j1,j2,λq=>(s1 q).mono tk,λq=>(s2 q).mono tk⟩;·exact .aF (xs:=[x,R]) (bV.mpr ⟨MS,pT⟩) (.cons (vx.mono tk)<|.cons (vy.mono tk) .nil) (by simp)
   ·clear g zZ;rcases e0 with rfl|⟨rfl,rL⟩
    ·exact .inr ⟨_,_,z,pT,MS,z,_,_,z⟩
    ·rcases yp with e|⟨T,E,e,l,hn,r⟩
     ·exact absurd e rL
     ·exact oA (bV.mp<|tk T E (bV.mpr ⟨hn,l⟩) r) λn' N=>.inr<|l7 T E e N n' r
  unfold pyNext;refine o<|wpAny_attempt<|wpAny_callSpecial?_slot (name:=Str.ofString "__next__") l PySem.F.slot_zip_next
   (wpAny_call_entry PySem.F.slot_zip_next l PySem.F.entry_zip_next ?_<|PySem.F.args_zip_next_1 _)
  rcases yp with rfl|⟨T,oT,rfl,hTo,hTn,hTt⟩
  ·exact II D g G W M H p1 p2 (x:=x) (y:=R) (by simpa using vR) (by simpa using Zb) λd a1 a2 a3 a4 a5 a6 a7=>cw<|fin d _ _ x R a1 (.inl z) a2 a3 a4 a5 a6 a7
  ·refine IP D g hTo G M H p1 p2 (x:=x) (y:=R) (by simpa using vR) (by simpa using Zb) λd y7 a1 a3 a4 a5 a6 a7=>cw (fin d _ _ a b a1 (.inr ⟨z,nofun⟩) (a7 _ _ D.TOz D.TOi1 D.TOi2 W) a3 a4 a5 a6 λc E c1 _ c3 c4 e=>a7 c E c1 c3 c4 e)
 go:=λtg i R J h s Q r X K B f=>by
  rcases r with⟨n,p,rfl⟩|⟨es,k,p,rfl⟩
  ·exact cw<|f s X (y.refl _ _ _) K
  ·cases R<;>try exact cw<|f s X (y.refl _ _ _) K
   rename_i a;refine kf λGz j=>?_;obtain⟨yo,G,Mm,M,H,s1,s2⟩:=id K;refine iB yo λf0 f1 g yp=>?_;clear yo;obtain⟨ho,a',b',W⟩:=Mm;refine j ?_;unfold letOwnedTupleGo;refine o<|wpAny_load g ?_;show wpAny _ _ (if (["enumerate","zip","dict_itemiterator","dict_reverseitemiterator","odict_iterator","itertools.zip_longest","itertools.pairwise"].contains "zip"&&
    (#[f0,f1,.bool false,.ref TI,.ref Z]:Array Value)[0]?==some (rawInt a)) then _ else _) Q _ s
   split;·refine o<|wpAny_rule ?_;show wpAny _ _ (setField (.ref S) 0 .none) Q _ s;refine wpAny_setField_rec g (by simp) λd zZ Iy=>?_;have hn:=fu (J:=J) g z m;exact oA (fK (j:={s with heap:=d}) X B (I:=S) (by walk_at "mem") hn Iy.extBut (Nat.le_of_eq Iy.1.symm)<|eP z rfl rfl) λX' L=>f _ X' L ⟨(fJ .none f1 zZ<|.inl z),Iy.extBut _ _ D.TIz G,(Dc ho a' b'<|Iy.extBut _ _ D.TOz W),M.at_ λE e=>Iy.extBut _ E D.i1z e,H.at_ λE e=>Iy.extBut _ E D.i2z e,λq=>(s1 q).mono L.aF,λq=>(s2 q).mono L.aF⟩
   ·exact cw<|f s X (y.refl _ _ _) K
 done:=λJ h s Q X hs K B f=>by
  refine kf λGz j=>?_;obtain⟨Pd,G,QA,M,H,s1,s2⟩:=K;refine iB Pd λf0 f1 g yp=>?_;clear Pd;obtain⟨ho,a,b,W⟩:=QA;refine j ?_;have Qy:Ev J h s.heap t1 l1 us:=by
   clear M;induction t1 using ff with
   |true=>exact s1 z
   |false=>exact hs (l1,.list us) (by simp [Dw])
  have Qz:Ev J h s.heap t2 l2 vs:=by
   clear H;induction t2 using ff with
   |true=>exact s2 z
   |false=>exact hs (l2,.list vs) (by simp [Dw])
  refine kf λGz j=>bS (Qy.items X) λxs p1 r1=>bS (Qz.items X) λys p2 r2=>j ?_;have l:s.TypeIs (.ref S) "zip":=(a_ _ g z);have Dv:xs.toArray[(bn us vs).length]?=none\/ys.toArray[(bn us vs).length]?=none:=by
   rcases z9 (xs:=us) (a:=vs) with q|q
   ·exact .inl (by simpa using r1.get_none q)
   ·exact .inr (by simpa using r2.get_none q)
  refine bW ?_;unfold pyNext;refine o<|wpAny_attempt<|wpAny_callSpecial?_slot (name:=Str.ofString "__next__") l PySem.F.slot_zip_next
   (wpAny_call_entry PySem.F.slot_zip_next l PySem.F.entry_zip_next (MV hh D g (yp.imp id λ⟨T,E,e,h1,_⟩=>(fJ T E e h1)) G W M H p1 p2 Dv λd e I he=>?_)<|PySem.F.args_zip_next_1 _)
  refine kf λGz j=>?_;refine bS he λE sJ C=>?_;clear he;refine j<|o<|wpAny_isInstance (T:="StopIteration") (b:=true) (a_ E sJ C) isSubtype_stop<|cw λMW=>?_;have tk:bC (u J s.heap)<|u J d:=λc E e r=>by
   rw[bV] at e⊢;refine⟨e.1,I c E ?_ ?_ ?_ ?_ e.2⟩;·clear D l B I f;rintro rfl;exact(fu (J:=J) g z m E e.2).elim (λq=>q e.1) λq=>q r
   ·clear D W B I f g;rintro rfl;rw[ho] at e;exact Kx e.1
   ·clear D G B I f;rintro rfl;refine iK M.obj λo' N c' _=>?_;exact(fu (J:=J) N c' (rt _) E e.2).elim (λq=>q e.1) λq=>q r
   ·clear D G B I f;rintro rfl;refine iK H.obj λo' N c' _=>?_;exact(fu (J:=J) N c' (rt _) E e.2).elim (λq=>q e.1) λq=>q r
  have CX:∀c E,c∉[S,TI,Z,i1,i2]->s.heap.get? c=some E->d.get? c=some E:=λc E C e=>by simp only[ew,i3,or_false,not_or] at C;exact I c E C.1 C.2.2.1 C.2.2.2.1 C.2.2.2.2 e
  exact f _ (X.Qw B CX tk MW) (sL CX tk MW<|eP z rfl rfl)
 aq:=λi J s Q K f=>by refine kf λGz j=>?_;obtain⟨TG,_⟩:=K;refine iB TG λf0 f1 g _=>?_;clear TG;refine j ?_;have l:s.TypeIs (.ref S) "zip":=(a_ _ g z);refine wpAny_pyIter_slot l PySem.F.slot_zip_iter<|wpAny_call_entry PySem.F.slot_zip_iter l PySem.F.entry_zip_iter ?_<|PySem.F.args_zip_iter_1 _;show wpAny _ _ (ret<|.ref S) _ _ s;exact cw ⟨_,z,"zip",_,l,PySem.F.slot_zip_next.lookup,f⟩
end
abbrev xe(h:Heap)(e d:Addr)(i:Int)(b c a:Value):Prop:=
 h.get? e=some {cls:=.type "enumerate",dict:=none,data:=.fields #[b,c,.ref d,rawInt i,.none,a],slots:= #[]}
section
variable{O:Program}{w:World}{A:Around}{E:f9}{s:Shared}
theorem Gj{i:Nat}{B:Array Value}{Q:f9}
 (he:xe s.heap e a i a3 h j)(yp:a3=.none\/∃(T:Addr)(a2:Obj),a3=rawInt T/\s.heap.get? T=some a2/\T≠a)(hit:s.heap.IsListIter a a1 i)(hl:s.heap.IsList a1 B)(hx:B[i]?=some x)(L:e≠a)
 (hQ:∀Y IR y7 QB,xe Y e a ((i:Int)+1) IR y7 QB->(IR=rawInt s.heap.objs.size\/IR=a3/\a3≠.none)->Y.IsListIter a a1 (i+1)->
  Y.get? s.heap.objs.size=some {cls:=.type "tuple",data:=.seq #[.int i s.toks,x]}->Y.objs.size=s.heap.objs.size+1->
  (∀b a2,b≠e->b≠a->s.heap.get? b=some a2->Y.get? b=some a2)->Q (.ref s.heap.objs.size) {s with heap:=Y,toks:=s.toks+1}):
 wpAny (model O w) A (Builtin.«enumerate.__next__» ⟨[.ref e],[]⟩) (λfin s'=>∃v,fin=.done (.ret v)/\Q v s') E s:=by
 obtain⟨k,g,l,f,D⟩:=s;show wpAny _ _ (field (.ref e) 2>>=_) _ _ _;refine o<|wpAny_field he z (x:=.ref a) z<|o<|wpAny_nextOf_list_item hit hl hx λc IS C=>?_;replace C:Heap.SameBut a k c:=C;haveI R:xe c e a i a3 h j:=(C.2 e L).trans he;show wpAny _ _ (field (.ref e) 3>>=_) _ _ ⟨c,g,l,f,D⟩;refine o<|wpAny_field R z (x:=rawInt i) z ?_;show wpAny _ _ (field (.ref e) 4>>=_) _ _ ⟨c,g,l,f,D⟩;refine o<|wpAny_field R z (x:=.none) z ?_;show wpAny _ _ (mkInt i>>=_) _ _ ⟨c,g,l,f,D⟩;refine o<|wpAny_mkInt ?_;show wpAny _ _ (setField (.ref e) 3 (rawInt<|(i:Int)+1)>>=_) _ _ ⟨c,g,l,f+1,D⟩;refine o<|wpAny_setField_rec R (by simp) λP S M=>?_;replace M:Heap.SameBut e c P:=M;replace S:xe P e a ((i:Int)+1) a3 h j:=S;show wpAny _ _ (setField (.ref e) 4 .none>>=_) _ _ ⟨P,g,l,f+1,D⟩;refine o<|wpAny_setField_rec S (by simp) λH U N=>?_;replace N:Heap.SameBut e P H:=N;replace U:xe H e a ((i:Int)+1) a3 h j:=U;show wpAny _ _ (newTuple [.int i f,x]>>=_) _ _ ⟨H,g,l,f+1,D⟩;refine o<|wpAny_newTuple ?_;haveI y:xe (H.push {cls:=.type "tuple",data:=.seq #[.int i f,x]}) e a ((i:Int)+1) a3 h j:=mj _ U;generalize G:H.push {cls:=.type "tuple",data:=.seq #[.int i f,x]}=u at y;haveI t:H.objs.size=k.objs.size:=by rw[N.1,M.1,C.1]
 haveI W:e<k.objs.size:=ip he;haveI Pe:u.get? k.objs.size=some {cls:=.type "tuple",data:=.seq #[.int i f,x]}:=by rw[<-G,<-t];exact sK _ z
 haveI Bv:u.objs.size=k.objs.size+1:=by rw[<-G,pu,t]
 haveI IT:∀b a2,b≠e->b≠a->k.get? b=some a2->u.get? b=some a2:=λb a2 n J F=>by rw[<-G];exact mj _<|N.extBut b a2 n<|M.extBut b a2 n<|C.extBut b a2 J F
 haveI IU:u.IsListIter a a1<|i+1:=by rw[<-G];refine bS ((IS.extBut M.extBut<|Ne.symm L).extBut N.extBut<|Ne.symm L) λa2 ho r=>?_;exact(a_ a2 (mj _ ho) r)
 haveI IV:a3=.none\/∃(T:Addr)(a2:Obj),a3=rawInt T/\u.get? T=some a2:=by
  refine db yp ?_ ?_;·intro q;exact .inl q
  ·clear yp;rintro⟨T,a2,q,hT,hTi⟩;by_cases p:T=e;·exact .inr<|fJ T _ q<|p▸y
   ·exact .inr<|fJ T a2 q<|IT T a2 p hTi hT
 show wpAny _ _ (Builtin.SmallTypes.ownedTupleIsFree (.ref e)>>=_) _ _ ⟨u,g,l,f+1,D⟩;rw[t];clear G U N S M R C IS t H P c;refine o ?_;unfold Builtin.SmallTypes.ownedTupleIsFree;clear he yp;refine db IV ?_ ?_
 ·clear IV;rintro rfl;refine o<|wpAny_field y z (x:=.none) z<|cw ?_;simp only[if_true];refine o<|wpAny_rule<|o<|wpAny_field y z (x:=j) z<|o<|wpAny_setField_rec y (by simp) λK I m=>?_;replace m:Heap.SameBut e u K:=m;replace I:xe K e a ((i:Int)+1) .none h x:=I;show wpAny _ _ (Builtin.SmallTypes.ownedTupleHandOut (.ref e) (.ref k.objs.size)>>=_) _ _ ⟨K,g,l,f+1,D⟩;refine o ?_;unfold Builtin.SmallTypes.ownedTupleHandOut;refine o<|wpAny_setField_rec I (by simp) λQC IW Z=>?_;replace Z:Heap.SameBut e K QC:=Z;replace IW:xe QC e a ((i:Int)+1) (rawInt k.objs.size) h x:=IW;refine wpAny_setField_rec IW (by simp) λV IX X=>?_;replace X:Heap.SameBut e QC V:=X;replace IX:xe V e a ((i:Int)+1) (rawInt k.objs.size) (.bool false) x:=IX;refine o<|wpAny_letGo<|cw<|a_ _ z<|hQ V _ _ _ IX (.inl z) ?_ ?_ ?_ ?_;·exact((IU.extBut m.extBut<|Ne.symm L).extBut Z.extBut<|Ne.symm L).extBut X.extBut<|Ne.symm L
  ·exact X.extBut _ _ (Nat.ne_of_gt W)<|Z.extBut _ _ (Nat.ne_of_gt W)<|m.extBut _ _ (Nat.ne_of_gt W) Pe
  ·show V.objs.size=k.objs.size+1;rw[X.1,Z.1,m.1,Bv]
  ·exactλb a2 n J F=>X.extBut b a2 n<|Z.extBut b a2 n<|m.extBut b a2 n<|IT b a2 n J F
 ·clear IV;rintro⟨T,oT,rfl,hT⟩;refine o<|wpAny_field y z (x:=rawInt T) z ?_;show wpAny _ _ (loadIfAlive T>>=_) _ _ _;refine o<|mh ?_;dsimp only;rw[hT];refine o<|wpAny_field y z (x:=h) z<|d (Q:=λb s'=>b=false/\∃c y7,s'=⟨c,g,l,f+1,D⟩/\xe c e a ((i:Int)+1) (rawInt T) y7 j/\Heap.SameBut e u c) ?_ (λb s' F=>?_) λ_ _ e=>e
  ·split;·exact o<|wpAny_setField_rec y (by simp) λc jI C=>cw<|uG z c _ z jI C
   ·exact cw<|uG z u h z y<|.refl ..
  refine C_ F ?_;clear F;rintro rfl K y7 rfl I m;simp only[Bool.false_eq_true,if_false];refine cw<|a_ _ z<|hQ K _ _ _ I (.inr ⟨z,nofun⟩) (IU.extBut m.extBut<|Ne.symm L) (m.extBut _ _ (Nat.ne_of_gt W) Pe) ?_ λb a2 n J F=>m.extBut b a2 n<|IT b a2 n J F;show K.objs.size=k.objs.size+1;rw[m.1,Bv]
end
section
variable{O:Program}{w:World}{U:Heap}{Y:Cl->Addr}{A:Around}{s:Shared}{J:cr}{h:Hp}
structure QD(e it b:Addr)(i:Nat)(J:cr)(g:Heap):Prop where
 zr:∃f0 f1 old,xe g e it i f0 f1 old/\(f0=.none\/∃(T:Addr)(a:Obj),f0=rawInt T/\g.get? T=some a/\J T=none/\fU a)
 xd:g.IsListIter it b i
theorem z_:∀{c:List V}{n i:Nat}{v:V},(fk n c)[i]?=some v->∃a,c[i]?=some a/\v=.aF [.int ((n+i:Nat):Int),a]:=λ{c}=>by
 induction c with
 |nil=>exactλe=>Ku e
 |cons a r g=>
  intro n i v e;induction i using wQ with
  |zero=>exact(a_ a z (me e).symm)
  |succ i=>
  refine bS (g (n:=n+1) (i:=i) e) λb d f=>?_;exact(a_ b d<|by rw[f];congr 4;exact ng (aG 0x1c101d001d0a11c001d06d0a1 z)<|aG 0x11c001d06d0a1c101d001d0a1 z)
theorem vS:∀(a:List V)(n:Nat),(fk n a).length=a.length:=λb=>by
 induction b with
 |nil=>intro _;exact z
 |cons d r c=>intro n;rw[fk,jM,jM,c]
set_option tactic.hygienic true in
theorem Gk(hh:A.handled=none){e R l:Addr}(N:e≠R)(vs:List V):
 yz O w U Y A (.ref e) [e,R] [(l,.list vs)] (fk 0 vs) (QD e R l) where
 keep:=λi F J bZ s s' t hl C hF=>by
  have k:∀b D,b∈[e,R]->s.heap.get? b=some D->s'.heap.get? b=some D:=λb D hb e=>hl.keep b D e (C b hb).1.bz λq=>(hF b q).2 hb;refine kf λZ B=>?_;obtain⟨jP,D,ho,r⟩:=t;refine qE jP λM H f d W=>?_;clear jP;refine B<|⟨(yW M H f (k _ _ (by walk_at "mem") d) ?_),D,k _ D (by walk_at "mem") ho,r⟩;rcases W with e|⟨T,D,e,g,hn,E⟩
  ·exact .inl e
  ·exact oA (bV.mp<|hl.aF T D (bV.mpr ⟨hn,g⟩) E) λn' e'=>.inr (l7 T D e e' n' E)
 item:=λi J h s Q x hx X hs t C j=>by
  refine kf λZ B=>?_;refine bS (z_ hx) ?_;clear hx;rintro v hv rfl;obtain⟨nR,G⟩:=t;refine qE nR λM H f d W=>?_;clear nR;refine c_ (X.list<|hs (l,.list vs)<|by walk_at "mem") λ_ _ xs n p eH=>bS (eH.get _ hv) λx vR vx=>?_;have g:s.TypeIs (.ref e) "enumerate":=(a_ _ d z);refine iK (id G) λoi S TJ _=>B ?_;unfold pyNext;refine o<|wpAny_attempt<|wpAny_callSpecial?_slot (name:=Str.ofString "__next__") g PySem.F.slot_enumerate_next
   (wpAny_call_entry PySem.F.slot_enumerate_next g PySem.F.entry_enumerate_next (Gj d (W.imp id λ⟨T,D,q,h1,_,E⟩=>(kH T D q h1 λP=>by clear C j d;subst P;rw[h1] at S;cases S;rw[E.1] at TJ;exact absurd (Value.type.inj TJ) m)) G p.isList (x:=x) (by simpa using vR) N λK IR y7 QB a1 e0 a2 pT a4 hk=>?_)<|PySem.F.args_enumerate_next_1 _)
  refine cw ?_;have MS:=X.fresh<|ct _;have tk:bC (u J s.heap)<|u J K:=λc D q E=>by
   rw[bV] at q⊢;refine⟨q.1,hk c D ?_ ?_ q.2⟩;·clear a1 B g C hk N j;rintro rfl;exact(fu (J:=J) d z m D q.2).elim (λP=>P q.1) λP=>P E
   ·clear a1 a2 C hk N j d G;rintro rfl;exact(fu (J:=J) S TJ m D q.2).elim (λP=>P q.1) λP=>P E
  have CX:∀c D,c∉[e,R]->s.heap.get? c=some D->K.get? c=some D:=λc D hc q=>by simp only[ew,i3,or_false,not_or] at hc;exact hk c D hc.1 hc.2 q
  have X':=X.Qw C CX tk<|aG 0x1c001d06101211010011 z a4;refine j _ _ X' (sL CX tk (by show s.heap.objs.size<=K.objs.size;exact aG 0x1c001d06101211010011 z a4)<|eP z rfl rfl) ?_ ⟨(yW IR y7 QB (by exact_mod_cast a1) ?_),a2⟩;·refine .aF (xs:=[.int i s.toks,x]) (bV.mpr ⟨MS,pT⟩) (.cons ?_<|.cons (vx.mono tk) .nil) (by simp);rw[Nat.zero_add];exact .int _ _
  ·clear a1 d;rcases e0 with rfl|⟨rfl,N⟩
   ·exact .inr ⟨_,_,z,pT,MS,z,_,_,z⟩
   ·rcases W with q|⟨T,D,q,g,hn,E⟩
    ·exact absurd q N
    ·exact oA (bV.mp<|tk T D (bV.mpr ⟨hn,g⟩) E) λn' e'=>.inr (l7 T D q e' n' E)
 go:=λtg i I J h s Q E X t C j=>by
  rcases E with⟨n,p,rfl⟩|⟨es,k,p,rfl⟩
  ·exact cw<|j s X (y.refl _ _ _) t
  ·cases I<;>try exact cw<|j s X (y.refl _ _ _) t
   rename_i a;refine kf λZ B=>?_;obtain⟨sF,G⟩:=id t;refine qE sF λM H f d W=>?_;clear sF;refine B ?_;unfold letOwnedTupleGo;refine o<|wpAny_load d ?_;show wpAny _ _ (if (["enumerate","zip","dict_itemiterator","dict_reverseitemiterator","odict_iterator","itertools.zip_longest","itertools.pairwise"].contains "enumerate"&&
    (#[M,H,.ref R,rawInt i,.none,f]:Array Value)[0]?==some (rawInt a)) then _ else _) Q _ s
   split;·refine o<|wpAny_rule ?_;show wpAny _ _ (setField (.ref e) 0 .none) Q _ s;refine wpAny_setField_rec d (by simp) λK zZ Iy=>?_;have hn:=fu (J:=J) d z m;exact oA (fK (j:={s with heap:=K}) X C (I:=e) (by walk_at "mem") hn Iy.extBut (Nat.le_of_eq Iy.1.symm)<|eP z rfl rfl) λX' L=>j _ X' L ⟨(yW .none H f zZ<|.inl z),G.extBut Iy.extBut<|Ne.symm N⟩
   ·exact cw<|j s X (y.refl _ _ _) t
 done:=λJ h s Q X hs t C j=>by
  refine kf λZ B=>?_;obtain⟨A3,G⟩:=t;refine qE A3 λM H f d W=>?_;clear A3;refine c_ (X.list<|hs (l,.list vs)<|by walk_at "mem") λ_ _ xs n p eH=>?_;have g:s.TypeIs (.ref e) "enumerate":=(a_ _ d z);refine iK (id G) λoi S TJ _=>B ?_;have hl:=eH.length;have el:=vS vs 0;refine bW ?_;unfold pyNext;refine o<|wpAny_attempt<|wpAny_callSpecial?_slot (name:=Str.ofString "__next__") g PySem.F.slot_enumerate_next
   (wpAny_call_entry PySem.F.slot_enumerate_next g PySem.F.entry_enumerate_next ?_<|PySem.F.args_enumerate_next_1 _)
  show wpAny _ _ (field (.ref e) 2>>=_) _ _ _;refine o<|wpAny_field d z (x:=.ref R) z ?_;refine o<|wpAny_nextOf_list_end hh G p.isList (by simp;exact bF 0x20110121001201211010011 z hl el) λK x he' vR=>?_;refine kf λZ B=>?_;refine bS vR λD ho hc=>?_;clear vR;exact B<|o (wpAny_isInstance (T:="StopIteration") (b:=true) (a_ D ho hc) isSubtype_stop<|cw λMW=>oA (fK (j:={s with heap:=K}) X C (I:=R) (by walk_at "mem") (fu (J:=J) S TJ m) he' MW<|eP z rfl rfl) λX' L=>j _ X' L)
 aq:=λi J s Q t j=>by refine kf λZ B=>?_;obtain⟨yo,_⟩:=t;refine qE yo λM H f d _=>?_;clear yo;refine B ?_;have g:s.TypeIs (.ref e) "enumerate":=(a_ _ d z);refine wpAny_pyIter_slot g PySem.F.slot_enumerate_iter<|wpAny_call_entry PySem.F.slot_enumerate_iter g PySem.F.entry_enumerate_iter ?_<|PySem.F.args_enumerate_iter_1 _;show wpAny _ _ (ret<|.ref e) _ _ s;exact cw ⟨_,z,"enumerate",_,g,PySem.F.slot_enumerate_next.lookup,j⟩
end
section
variable{O:Program}{w:World}{U:Heap}{Y:Cl->Addr}{A:Around}{s:Shared}{J:cr}{h:Hp}
theorem rz{g:Heap}{S:Addr}(b:∀i,g.get? S=some i->¬fU i):bC (u J g)<|u (sE J S) g:=λa i e t=>by
 rw[bV] at e⊢;haveI c:a≠S:=by rintro rfl;exact b i e.2 t
 exact⟨(if_neg c).trans e.1,e.2⟩
theorem t.adopt{S:Addr}(x:t O w U Y J h g)(j:J S=none)(f:U.objs.size<=S)(l:S<g.objs.size)(a:∀n,g.get? S=some n->¬fU n)(i:eQ O w U Y (sE J S) g S c):
 t O w U Y (sE J S) (h9 h S c) g where
 base:=x.base
 big:=x.big
 size:=x.size
 owned:=λy b e=>by
  unfold sE at e;by_cases q:y=S;·clear e a i j;subst q;exact⟨f,l⟩
  ·rw[if_neg q] at e;exact x.owned y b e
 cell:=λb d e=>by
  unfold h9 at e;by_cases q:b=S;·clear f l a j;subst q;rw[if_pos z] at e;cases e;exact i
  ·rw[if_neg q] at e;exact(x.cell b d e).move (λ_ _ _ e=>e) (rz a) λy _ m=>if_neg λk=>by clear a f i l;subst k;exact m.elim (λm=>q m.symm) λm=>absurd (j.symm.trans m.1) Ku
theorem y.adopt{J a:cr}{S:Addr}(l:y F J a s s')(c:s.heap.objs.size<=S)(d:∀e,s'.heap.get? S=some e->¬fU e):y F J (sE a S) s s':=
 ⟨l.size,λx b=>(if_neg<|Nat.ne_of_lt<|ci b c).trans<|l.own x b,l.keep,l.aF.trans<|rz d,l.rest⟩
theorem IsL.kS(p:IsL g a xs n):∀o,g.get? a=some o->¬fU o:=λo e⟨q,_⟩=>by rw[show g.get? a=_ from p] at e;cases e;exact absurd (Value.type.inj q) m
theorem l.adopt{a:cr}{s':Shared}{S:Addr}{d:List V}{o:List Value}{n:Nat}(X:t O w U Y a h s'.heap)(v:y pZ J a s s')(g:a S=none)(f:U.objs.size<=S)(i:s.heap.objs.size<=S)(p:IsL s'.heap S o.toArray n)
 (r:aC (u a s'.heap) d o)(k:d.length<=1000000):l O w U Y J h s (.new<|.list d) (.ref S) s':=by
 haveI j:h S=none:=by
  cases e:h S with
  |none=>rfl
  |some c=>
   haveI B:=X.cell S c e;haveI m:∀b,a S≠some b:=λb=>by rw[g];exact Ku
   clear e;induction c using kI with
   |list d=>exact absurd B.1<|m _
   |ro d=>exact absurd B.1.1<|Nat.not_lt.mpr f
   |dict lk q=>exact absurd B.1<|m _
   |dg q=>exact absurd B.1<|m _
   |inst c x=>exact absurd B.1<|m _
 exact(l7 S (sE a S) z j (X.adopt g f (ip p) (IsL.kS p)<|wN (if_pos z) k o n p<|r.mono<|rz<|IsL.kS p)<|v.adopt i<|IsL.kS p)
inductive mR(O:Program)(w:World)(U:Heap)(Y:Cl->Addr)(A:Around)(J:cr)(h:Hp)(s:Shared)(c:H)(xs:List V)(it:Value)(s':Shared):Prop
 |mk (bZ:cr) (fp:List Addr) (It:Nat->cr->Heap->Prop) (IK:yz O w U Y A it fp c xs It) (KE:It 0 bZ s'.heap) (hf:o6 U bZ fp) (hn:∀b∈fp,s.heap.objs.size<=b/\b<s'.heap.objs.size) (X:t O w U Y bZ h s'.heap) (a:y pZ J bZ s s'):mR O w U Y A J h s c xs it s'
theorem xf(X:t O w U Y J h s.heap){I:Addr}(a:s.heap.objs.size<=I):o6 U J [I]:=λb c=>by exact(eL.mp c)▸⟨.inl<|X.fresh a,eJ X.size a⟩
theorem IY(j:A.handled=none)(X:t O w U Y J h s.heap)(e:bm L h=some (xs,c))(d:ch c h)(f:aL (u J s.heap) L x):
 wpAny (model O w) A (pyIter x) (mR O w U Y A J h s c xs) dk s:=by
 have g:∀(o:Obj),∀b∈[s.heap.objs.size],s.heap.objs.size<=b/\b<(s.heap.push o).objs.size:=λo b k=>by rw[eL.mp k,pu];exact⟨ct _,Nat.lt_succ_self _⟩
 cases rm e with
 |aF=>refine(id f.fz).elim λr D=>D.elim λv D=>D.elim λn D=>?_;haveI F:=D.1;haveI E:=D.2.1;haveI G:=D.2.2.1;haveI k:=D.2.2.2;clear k;clear D;clear D;clear D;subst F;refine wpAny_pyIter_tuple (IsT.kh E.uw) ⟨J,_,_,Ds j s.heap.objs.size r _,⟨(g6 _ (sK _ z) z rfl),f.mono<|l9 _ _ _⟩,xf X<|ct _,g _,X.push,gJ _ s.toks⟩
 |list i=>obtain rfl:=f.cq;refine(X.Gb<|.inl i).elim λv D=>?_;haveI p:=D.1;haveI r:=D.2;clear D;refine wpAny_pyIter_list p ⟨J,_,_,y4 j s.heap.objs.size _ _ _ λh d=>.inl<|d (_,.list _)<|by walk_at "mem",(g6 _ (sK _ z) z rfl),xf X<|ct _,g _,X.push,gJ _ s.toks⟩
 |ro i=>obtain rfl:=f.cq;refine(X.Gb<|.inr i).elim λv D=>?_;haveI p:=D.1;haveI r:=D.2;clear D;refine wpAny_pyIter_list p ⟨J,_,_,y4 j s.heap.objs.size _ _ _ λh d=>.inr<|d (_,.ro _)<|by walk_at "mem",(g6 _ (sK _ z) z rfl),xf X<|ct _,g _,X.push,gJ _ s.toks⟩
 |@dict a lk H i=>obtain rfl:=f.cq;have B:h a=some (.dict true H):=d (a,.dict true H) (by walk_at "mem");refine(X.dict B).elim λl D=>D.elim λ_ D=>D.elim λm D=>?_;haveI p:=D.1;haveI r:=D.2;clear D;refine(p.dictAt).elim λC q=>?_;have y:J a=some 0:=l;refine wpAny_pyIter_dict (X.l_ l) q ⟨J,_,_,Gd j s.heap.objs.size a H C m,(hV (g6 _ (sK _ z) z rfl) (q.push _) y<|r.mono<|l9 _ _ _),xf X<|ct _,g _,X.push,gJ _ s.toks⟩
def Do(O:Program)(w:World)(U:Heap)(Y:Cl->Addr)(A:Around)(J:cr)(h:Hp)(s:Shared)(c:H)(d:List V)(e:Value)(a:Shared):Prop:=
 ∃b,t O w U Y b h a.heap/\y pZ J b s a/\wpAny (model O w) A (pyIter e) (mR O w U Y A b h a c d) dk a
theorem Aa(k:A.handled=none)(X:t O w U Y J h s.heap)(g:0<=n)(l:n<1000000)(e:aL (u J s.heap) (.int n) x):
 wpAny (model O w) A (call (.type "range") [x]) (Do O w U Y A J h s []<|bY n) dk s:=by
 refine(e.int_inv).elim λp q=>?_;clear e;subst q;refine call_range_1<|g6 J X.push (gJ _ _) ?_;generalize d:({s with heap:=s.heap.push {cls:=.type "range",data:=.fields #[.int 0 s.toks,.int n p,.int 1<|s.toks+1]},toks:=s.toks+1+1}:Shared)=a;haveI c:t O w U Y J h a.heap:=by rw[<-d];exact X.push
 haveI r:IsRange a.heap s.heap.objs.size 0 n 1 s.toks p<|s.toks+1:=by rw[<-d];exact IsRange.new _ _ _ _ _ _ _
 haveI i:Builtin.Range.rangeSize 0 n 1=n:=by rw[rangeSize_one];split<;>lia
 have f:∀(o:Obj),∀b∈[a.heap.objs.size],a.heap.objs.size<=b/\b<(a.heap.push o).objs.size:=λo b j=>by rw[eL.mp j,pu];exact⟨ct _,Nat.lt_succ_self _⟩
 refine wpAny_pyIter_range r (small_one m m (by lia)<|Int.lt_of_lt_of_le ‹_› m) ⟨J,_,_,Dt k a.heap.objs.size n g,?_,xf c<|ct _,f _,c.push,gJ _ a.toks⟩;have:=sK a.heap (o:={cls:=.type "range_iterator",data:=.fields #[rawInt 0,rawInt<|Builtin.Range.rangeSize 0 n 1,rawInt 1]}) z;rw[i] at this⊢;simpa using this
theorem y9{v v':V}{p vs:List V}{x P:Value}(hh:A.handled=none)(X:t O w U Y J h s.heap)(e:jj v h=some p)(e':jj v' h=some vs)(hx:aL (u J s.heap) v x)(S:aL (u J s.heap) v' P)
 {A':Around}(Zd:A'.handled=none):
 wpAny (model O w) A (call (.type "zip") [x,P]) (λR s'=>(∃r,R=.ref r)/\s'.TypeIs R "zip"/\mR O w U Y A' J h s (kg v p++kg v' vs) (bn p vs) R s') dk s:=by
 refine v8 (w' X e hx) ?_;rintro _ d xs n1 rfl r1 k1;refine v8 (w' X e' S) ?_;rintro _ i ys n2 rfl r2 k2;have TK:∀{v:V}{p:List V}{l:Addr}{xs:List Value}{n:Nat},aL (u J s.heap) v (.ref l)->((v=.aF p/\IsT s.heap l xs.toArray n/\J l=none)\/(v=.ref l/\h l=some (.list p)/\IsL s.heap l xs.toArray n/\J l=some l))->
  ∃E:Bool,mN E s.heap l xs.toArray/\kg v p=Dw E l p/\(E->aL (u J s.heap) (.aF p) (.ref l)):=by
  intro v p l xs n hv k;refine db k ?_ ?_;·clear k;rintro⟨rfl,k,_⟩;exact(g6 true (IsT.kh k) z λ_=>hv)
  ·clear k;rintro⟨rfl,_,k,_⟩;exact(g6 false k.isList z Kv)
 refine iK (TK hx k1) λf q1 c1 s1=>?_;clear hx k1;refine iK (TK S k2) λj q2 c2 s2=>?_;clear k2;rw[c1,c2];clear c1 c2;refine callType_new PySem.F.called_zip m (PySem.F.typeCall_zip_2 _ _) (PySem.F.newCall_zip_2 _ _) (λobj=>PySem.F.args_object_init_3 obj _ _) PySem.F.entry_zip_new (Gg f j d i xs.toArray ys.toArray)<|eP q1 q2 ?_;have Wq:d<s.heap.objs.size:=by refine bS q1.obj λ_ R _=>?_;exact ip R
 clear q1;have Ws:i<s.heap.objs.size:=by refine bS q2.obj λ_ R _=>?_;exact ip R
 clear q2;generalize B:s.heap.objs.size=N at Wq Ws;have z1:(Wh s.heap f d).objs.size=N+1:=by rw[pu,B]
 have z2:(Wi s.heap f j d i).objs.size=N+2:=by rw[pu,z1]
 have z3:(Wj s.heap f j d i).objs.size=N+3:=by rw[pu,z2]
 have z4:(Wk s.heap f j d i).objs.size=N+4:=by rw[pu,z3]
 have F:(MT s.heap f j d i).objs.size=N+5:=by rw[pu,z4]
 have I:(MT s.heap f j d i).get? (Wk s.heap f j d i).objs.size=some _:=sK _ z;have T:(MT s.heap f j d i).get? (Wj s.heap f j d i).objs.size=some _:=mj _<|sK _ z;have Q:(MT s.heap f j d i).get? (Wi s.heap f j d i).objs.size=some _:=mj _<|mj _<|sK _ z;have M:(MT s.heap f j d i).get? (Wh s.heap f d).objs.size=some _:=mj _<|mj _<|mj _<|sK _ z;have K:(MT s.heap f j d i).get? s.heap.objs.size=some _:=mj _<|mj _<|mj _<|mj _<|sK _ z;have W:∀c o,s.heap.get? c=some o->(MT s.heap f j d i).get? c=some o:=λc o e=>mj _<|mj _<|mj _<|mj _<|mj _ e;rw[z2,z3,z4] at I;rw[z1,z2,B] at Q;clear z2;rw[z3] at T;clear z3;rw[z1] at M;clear z1;rw[B] at K;rw[z4];clear z4;generalize MT s.heap f j d i=g at K M Q T I W F;have hz:s.heap.objs.size<=g.objs.size:=bF 0x5c201d0610121201001111010011 z B F;have XG:t O w U Y J h g:=X.grow W hz;have fr:∀k,J (N+k)=none:=λk=>X.fresh<|B▸ox _ _;have H:∀P,P<s.heap.objs.size->P≠N+3:=λP S=>Nat.ne_of_lt (ci S<|B▸ox _ _)
 --Wt gF pair is marked
 have C:bC (u J s.heap)<|u (gR J (N+3) 1) g:=λc o e ht=>by rw[bV] at e⊢;exact⟨(if_neg<|H c<|ip e.2).trans e.1,W c o e.2⟩
 have XM:t O w U Y (gR J (N+3) 1) h g:=by
  refine⟨XG.base,XG.big,XG.size,λP b e=>?_,λa c e=>?_⟩
  ·unfold gR at e;by_cases q:P=N+3;·clear e;subst q;exact⟨eJ X.size<|B▸ox _ _,by exact aG 0x5c001d06101211011c3c001d06d0b1 z F⟩
   ·rw[if_neg q] at e;exact XG.owned P b e
  ·exact(X.cell a c e).z7 (λb o _ e=>W b o e) C λP S=>if_neg<|H P S
 have L:y pZ J (gR J (N+3) 1) s {s with heap:=g}:=⟨hz,λP S=>if_neg<|H P S,λP o e _ _=>W P o e,C,z,z,z⟩;have D:ZipApart (N+4) (N+2) (N+3) N (N+1) d i:=zipApart_new Wq Ws;refine⟨(a_ _ I z),⟨_,z⟩,(a_ _ I z),gR J (N+3) 1,_,_,IQ (A:=A') Zd f j p vs D,⟨(fJ _ _ I<|.inl z),Q,(Dc (if_pos z) _ _ T),jH.of<|g6 _ K z rfl,jH.of<|g6 _ M z rfl,λq=>(s1 q).mono C,λq=>(s2 q).mono C⟩,?_,?_,XM,L⟩;clear D L K M Q T I Zd s1 s2 f j
 ·intro b Z;have G:=X.size;simp only[ew,i3,or_false] at Z;have lo:∀k,oc (gR J (N+3) 1) (N+k):=λk=>by
   unfold oc gR;by_cases q:N+k=N+3;·exact(if_pos q)▸.inr z
   ·exact(if_neg q)▸.inl (fr k)
  clear XM fr Wq Ws H C F;rcases Z with rfl|rfl|rfl|rfl|rfl
  ·exact⟨lo 4,by exact bF 0x20100101101201114c101d060011 z B G⟩
  ·exact⟨lo 2,by exact bF 0x20100101101201112c101d060011 z B G⟩
  ·exact⟨lo 3,by exact bF 0x20100101101201113c101d060011 z B G⟩
  ·exact⟨lo 0,by exact bF 0x10120111201001011010011 z G B⟩
  ·exact⟨lo 1,by exact bF 0x20100101101201111c101d060011 z B G⟩
 ·intro b Z;simp only[ew,i3,or_false] at Z;have a1:∀k,k<5->N+k<g.objs.size:=λk hk=>by exact bF 0x5c021c101d06015c001d06201212011c1001d05d0a1 z F hk
  have le:∀k,s.heap.objs.size<=N+k:=λk=>by rw[B];exact ox _ _
  clear D L XM fr K M Q T I B Wq Ws H C F;rcases Z with rfl|rfl|rfl|rfl|rfl
  ·exact⟨le 4,a1 4 m⟩
  ·exact⟨le 2,a1 2 m⟩
  ·exact⟨le 3,a1 3 m⟩
  ·exact⟨le 0,a1 0 m⟩
  ·exact⟨le 1,a1 1 m⟩
theorem Dx(m:A.handled=none)(X:t O w U Y J h s.heap)(e:h x=some (.list g)):
 wpAny (model O w) A (call (.type "enumerate") [.ref x]) (mR O w U Y A J h s [(x,.list g)]<|fk 0 g) dk s:=by
 refine c_ (X.list e) λ_ _ u n p r=>call_enumerate_list p.isList λc k o d f=>?_;haveI i:s.heap.objs.size<=c.objs.size:=aG 0x2c001d06101211010011 z d;refine⟨J,_,_,Gk (e:=s.heap.objs.size+1) (R:=s.heap.objs.size) m (Nat.succ_ne_self _) g,⟨(yW .none (.bool false) .none k<|.inl z),o⟩,?_,?_,X.grow f i,jd f i<|eP z rfl rfl⟩
 ·intro b a;haveI j:=X.size;simp only[ew,i3,or_false] at a;rcases a with rfl|rfl
  ·exact⟨.inl<|X.fresh<|ox _ _,by exact aG 0x101001011c101d060011 z j⟩
  ·exact⟨.inl<|X.fresh<|ct _,by exact‹_›⟩
 ·intro b a;simp only[ew,i3,or_false] at a;haveI q:s.heap.objs.size<c.objs.size:=aG 0x2c001d06101211011c001d061 z d;haveI l:s.heap.objs.size+1<c.objs.size:=aG 0x2c001d06101211011c1c001d06d0b1 z d;rcases a with rfl|rfl
  ·exact⟨Nat.le_succ _,l⟩
  ·exact⟨ct _,q⟩
end
section
variable{O:Program}{w:World}{U:Heap}{Y:Cl->Addr}{A:Around}{s:Shared}{J:cr}{h:Hp}
theorem l.wb(X:t O w U Y J h s.heap)(d:∀b x,s.heap.get? b=some x->c.get? b=some x)(g:s.heap.objs.size<=c.objs.size)
 (f:c.get? s.heap.objs.size=some {cls:=.type "list",dict:=none,data:=.seq a n,slots:= #[]})(r:aC (u J s.heap) i a.toList)(j:i.length<=1000000):
 l O w U Y J h s (.new<|.list i) (.ref s.heap.objs.size) {s with heap:=c,toks:=L}:=by
 haveI e:a=a.toList.toArray:=by simp
 rw[e] at f;exact l.adopt (s':={s with heap:=c,toks:=L}) (X.grow d g) (jd d g<|eP z rfl rfl) (X.fresh<|ct _) X.size (ct _) f (r.mono<|qK d) j
theorem Gn{S:List V}(hh:A.handled=none)(X:t O w U Y J h s.heap)(e:bm a1 h=some (S,c))(q:aL (u J s.heap) a1 x):
 wpAny (model O w) A (call (.type "list") [x]) (l O w U Y J h s<|.new<|.list S) dk s:=by
 have C:∀{a:Addr}{F:List V},F.length<=1000000->Ew J s.heap a F->wpAny (model O w) A (call (.type "list") [.ref a]) (l O w U Y J h s<|.new<|.list F) dk s:=by intro a F b jP;refine bS jP λys nR f=>?_;obtain⟨o,ho,W,n,Z⟩:=nR;have G:=f.length;exact bW<|call_list_seq a (.inl z) ho W Z (λL K i g D=>l.wb (L:=s.toks) X i D g (f) b)<|by rw[sizeLine_eq];simp;exact aG 0x110121f4240c06101011000000c080011 z b G
 cases rm e with
 |aF=>refine dB q.fz ?_;clear q;rintro r ys n rfl R f b;have G:=f.length;exact bW<|call_list_seq r (.inr z) R.uw z rfl (λL K i g D=>l.wb (L:=s.toks) X i D g (f) b)<|by rw[sizeLine_eq];simp;exact aG 0x110121f4240c06101011000000c080011 z b G
 |list d=>obtain rfl:=q.cq;exact C (X.list d).2.1 (X.Gb<|.inl d)
 |ro d=>obtain rfl:=q.cq;exact C (show eQ O w U Y J s.heap _ (.ro _) from X.cell _ _ d).2.1 (X.Gb<|.inr d)
 |dict d=>
  obtain rfl:=q.cq;refine kG (X.dict d) λoa b m p r=>oE p.dictAt λep p'=>?_;have N:=r.length;refine bW (kdl_call (kdl_dict<|X.l_ oa) hh p' (sizeLine_eq▸aG 0x10100111f4240c06101011000000c080011 z b N) λL tk Q K i g H D=>l.wb X i D g ?_<|by simp;exact bN 0xf4240c0600101f4240c060011 z b)
  --z by z
  have T:∀{I:List (Int×V)}{m:List (Int×Value)}{v:List Value},gA (u J s.heap) I m->v.length=m.length->(∀(j:Nat)(a1:Value),v[j]?=some a1->∃k x,m[j]?=some (k,x)/\(intKind O w).is k a1)->aC (u J s.heap) (I.map λp=>V.int p.1) v:=by
   intro I m v r;induction r generalizing v with
   |nil=>intro e _;clear a_1;cases v with
    |nil=>exact .nil
    |cons _ _=>simp at e
   |@cons k a1 x kl ml hv R ih=>
    intro e M;induction v using da with
    |nil=>simp at e
    |cons y v=>refine iB (M 0 y z) λk' x' E P=>?_;simp at E;refine oA E ?_;clear E;rintro rfl rfl;refine oE (om P) ?_;rintro B rfl;exact .cons (.int _ _) (ih (by simpa using e) λj a1 hj=>by exact iB (M (j+1) a1<|hj) λk x E P=>(fJ k x (by simpa using E) P))
  exact T r (Array.length_toList▸H.1) λj a1 e=>H.2 j a1<|(Array.getElem?_toList)▸e
theorem xg{j:Nat}(a:j<n.toNat):(bY n)[j]?=some (.int j):=by unfold bY;rw[oe,List.getElem?_range a];rfl
theorem MY{g:zT}:∀{b:List V}{l:List Value}{f:Nat->Int},l.length=b.length->(∀j,j<b.length->b[j]?=some (.int<|f j))->(∀(j:Nat)(v:Value),l[j]?=some v->∃t,v=Value.int (f j) t)->aC g b l:=λ{b}=>by
 induction b with
 |nil=>intro l f e _ _;cases List.length_eq_zero_iff.mp e;exact .nil
 |cons v b m=>
  intro l f e c d;induction l using da with
  |nil=>exact absurd e (Nat.succ_ne_zero _).symm
  |cons x l=>haveI a:=c 0 (by simp);simp at a;refine(d 0 x z).elim λt n=>?_;subst n;rw[a];exact .cons (.int _ _)<|m (f:=λj=>f<|j+1) (by simpa using e) (λj i=>by simpa using c (j+1) (by simpa using i)) λj v k=>d (j+1) v<|by simpa using k
theorem Ab(B:A.handled=none)(X:t O w U Y J h s.heap)(q:0<=n)(C:n<1000000)(d:aL (u J s.heap) (.int n) x):
 wpAny (model O w) A (call (.type "range") [x]) (λH a=>t O w U Y J h a.heap/\y pZ J J s a/\wpAny (model O w) A (call (.type "list") [H]) (l O w U Y J h a (.new (.list (bY n)))) dk a) dk s:=by
 refine(d.int_inv).elim λE z=>?_;clear d;subst z;refine call_range_1 (eP X.push (gJ _ _) ?_);generalize c:({s with heap:=s.heap.push {cls:=.type "range",data:=.fields #[.int 0 s.toks,.int n E,.int 1 (s.toks+1)]},toks:=s.toks+1+1}:Shared)=a;haveI i:t O w U Y J h a.heap:=by rw[<-c];exact X.push
 haveI I:IsRange a.heap s.heap.objs.size 0 n 1 s.toks E (s.toks+1):=by rw[<-c];exact IsRange.new _ _ _ _ _ _ _
 haveI f:Builtin.Range.rangeSize 0 n 1=(n.toNat:Int):=by rw[rangeSize_one];split<;>lia
 refine bW (call_list_range B I (small_one m m (by lia) (Int.lt_of_lt_of_le ‹_› m)) f (by lia) λG F g r o k b p=>l.wb i o p k ?_ (by simp [bY];exact Int.le_of_lt ‹_›));refine MY (f:=λj=>(j:Int)) (by rw[Array.length_toList,b.1];simp [bY]) (λj D=>xg (by simpa[bY] using D)) λj v e=>?_;obtain⟨E,rfl⟩:=b.2 j v ((Array.getElem?_toList)▸e);exact⟨E,by simp⟩
theorem xh:∀{g:List (Int×V)}{M:Int},pi g=some M->M∈g.map (·.1)/\∀k∈g.map (·.1),k<=M
 |[],M,e=>by cases e
 |[(k,v)],M,e=>by cases e;simp
 |(k,v)::p::r,M,e=>by
  rw[pi,Option.map_eq_some_iff] at e
  ·refine bS e ?_;clear e;rintro m d rfl;haveI z:=xh d;haveI b:=z.1;haveI c:=z.2;constructor
   ·split;·exact List.mem_cons_of_mem _ b
    ·exact pt
   ·intro f a;rw[pc] at a;refine db (ew.mp a) (λe=>?_) λa=>?_;·dsimp only at e;clear a;subst e;split<;>lia
    ·have:=c f a;split<;>lia
  ·simp
theorem Dy{f:Nat->Int}(e:∀i j,n i j=decide (f j<f i)):∀k,argBest n k<=k/\∀i,i<=k->f i<=f (argBest n k):=λc=>by
 induction c with
 |zero=>exact⟨ct _,λi a=>by rw[Nat.le_zero.mp a];exact Int.le_refl _⟩
 |succ k g=>
  obtain⟨d,b⟩:=g;unfold argBest;rw[e];by_cases q:f (argBest n k)<f (k+1)
  ·rw[if_pos<|by simpa using q];refine⟨ct _,λi a=>?_⟩;refine db (Nat.lt_or_ge i<|k+1) (λl=>?_) λl=>?_;·have:=b i<|aG 0x1c101d061c001d06011010011 z l;lia
   ·rw[show i=k+1 by exact ng (aG 0x1c101d06001011c101d060011 z a)<|aG 0x1011c001d06011011c001d061 z l];exact Int.le_refl _
  ·rw[if_neg<|by simpa using q];refine⟨by exact aG 0x101001011c101d060011 z d,λi a=>?_⟩;refine db (Nat.lt_or_ge i<|k+1) (λl=>?_) λl=>?_;·exact b i<|aG 0x1c101d061c001d06011010011 z l
   ·rw[show i=k+1 by exact ng (aG 0x1c101d06001011c101d060011 z a)<|aG 0x1011c001d06011011c001d061 z l];lia
theorem Dz{a:Nat}{lk:Bool}{R:List (Int×V)}{M:Int}(hh:A.handled=none)(X:t O w U Y J h s.heap)(e:h a=some (.dict lk R))(n:pi R=some M):
 wpAny (model O w) A (call (.builtin "max") [.ref a]) (l O w U Y J h s<|.val<|.int M) dk s:=by
 refine kG (X.dict e) λL c m p r=>oE p.dictAt λep B=>?_;have C:=r.length;have F:0<m.length:=by
  rw[C];clear e c C r;cases R with
  |nil=>cases n
  |cons _ _=>simp
 have k8:=B.lt_size;let f:Nat->Int:=λi=>(m.getD i (0,.none)).1;have d:∀i k x,m[i]?=some (k,x)->f i=k:=λi k x e=>by show(m.getD i (0,.none)).1=k;rw[wS,e];rfl
 refine bW<|call_max_walkS<|wpAny_pyIter_dict (X.l_ L) B ⟨s.heap.objs.size,_,_,_,_,_,_,λi j=>decide (f j<f i),z,(Walks.dictKeys (A:=A.in1) hh s.heap.objs.size a (Nat.ne_of_lt k8) m ep).toS,
  ⟨(g6 _ (sK _ z) z rfl),B.push _⟩,?_,F,?_,λv s' S g hz=>?_⟩
 ·intro b c;simp only[ew,i3,or_false] at c;clear e L p B;refine db c ?_ ?_;·clear c;rintro rfl;rw[pu];exact Nat.lt_succ_self _
  ·clear c;rintro rfl;rw[pu];exact Nat.lt_succ_of_lt k8
 ·rintro i j vi vj s' Q E sF N hq;refine iB sF λki xi u T=>?_;clear sF;refine iB N λkj xj hj W=>?_;clear N;refine oE (om T) ?_;clear T;rintro ti rfl;refine oE (om W) ?_;clear W;rintro tj rfl;refine gt_int ?_;rw[<-d i ki xi u,<-d j kj xj hj];exact hq
 ·refine iB S λk x y G=>?_;clear S;refine oE (om G) ?_;rintro D rfl;refine oA (Dy (f:=f) (n:=λi j=>decide (f j<f i)) (λ_ _=>rfl)<|m.length-1) λb1 Z=>oA (xh n) λI K=>?_;have P:R.map (·.1)=m.map (·.1):=by
   clear n I K d f b1 Z F C c e p B L hz g y G;induction r with
   |nil=>rfl
   |cons _ _ ih=>rw[pc,pc,ih]
  rw[P] at I K;have e1:M=k:=by refine bS (List.mem_map.mp I) ?_;clear n I;rintro yo H rfl;obtain⟨k',x'⟩:=yo;obtain⟨i,u,CW⟩:=List.getElem_of_mem H;have:=Z i<|bF 0x2011c101d06212011c001d06011010011 z u<|hB (n:=m.length) (m:=1)<|bN 0x11cc01d06010011c021 z F;rw[d i k' x' (by rw[sB u,CW]),d _ _ _ y] at this;have:=K k<|List.mem_map.mpr<|a_ (k,x) (List.mem_of_getElem? y) z;dsimp only at this⊢;lia
  clear y G;subst e1;have zZ:=hz;refine l.grow X (λb o e=>g.heap b o (λq=>?_)<|mj _ e) zZ (eP ?_ ?_ ?_)<|.int _ _;·simp only[eL] at q;subst q;exact Nat.lt_irrefl _<|ip e
  ·exact g.gens
  ·exact g.drawn
  ·exact g.os
end
section
variable{O:Program}{w:World}{U:Heap}{Y:Cl->Addr}{A:Around}{s:Shared}{J:cr}{h:Hp}
theorem DA:typeLookup (.type "zip") "__len__"=pure none:=by rw[typeLookup_type,builtinLookup_eq_fast];kernel_rfl
theorem By:typeLookup (.type "zip") "__length_hint__"=pure none:=by rw[typeLookup_type,builtinLookup_eq_fast];kernel_rfl
theorem I0{E:f9}{r:Value}(a:s.TypeIs r "zip")(h:b true s):wpAny (model O w) A (Builtin.List.listLengthHint r) b E s:=by unfold Builtin.List.listLengthHint;exact o<|wpAny_specialOf a DA<|wpAny_ite_split (λq=>absurd q m) λ_=>o<|wpAny_specialOf a By<|cw h
theorem aC.snoc(r:aC g a xs)(k:aL g b x):aC g (a++[b])<|xs++[x]:=r.append<|.cons k .nil
theorem Bz{R:Result->Shared->Prop}{it K:Value}{g:List Addr}{c:H}{xs:List V}{M:Nat->cr->Heap->Prop}(hs:ch c h)(hz:xs.length<=1000000)(F:yz O w U Y A.in1 it g c xs M)(S:Addr)(DC:S∉g)(MZ:U.objs.size<=S):
 ∀(k i:Nat)(s:Shared)(f:List Value)(e:Nat),xs.length-i=k->i<=xs.length->t O w U Y J h s.heap->o6 U J g->J S=none->M i J s.heap->IsL s.heap S f.toArray e->aC (u J s.heap) (xs.take i) f->
 (∀D L Q,t O w U Y J h D.heap->y (λa=>a∈S::g) J J s D->IsL D.heap S L.toArray Q->aC (u J D.heap) xs L->R (.ok (.ret K)) D)->
 codeAny (model O w) A (.builtin "list.extend.loop" ⟨[.ref S,it,K],[]⟩) R s:=by
 intro k;haveI Br:∀{s D:Shared},y (·∈g) J J s D->y (λa=>a∈S::g) J J s D:=λl=>l.weaken λa W=>List.mem_cons_of_mem _ W;haveI Pg:∀{s D:Shared}{f:List Value}{e:Nat},J S=none->IsL s.heap S f.toArray e->y (·∈g) J J s D->IsL D.heap S f.toArray e:=λE p l=>l.keep S _ p (.inl E) DC;induction k with
 |zero=>intro i s f e a1 G X C E q p r T;haveI W3:i=xs.length:=ng (aG 72339138019393553 z G) (bF 0x11201d0521c01201111010011 z a1 (hB (n:=xs.length) (m:=i) (aG 72339138019393553 z G)));clear G a1;subst W3;rw[List.take_length] at r;refine codeAny_builtin PySem.F.entry_extend_loop ?_;rw[Around.under_plainId PySem.F.plain_extend_loop _];refine o (d (F.done J h s (λr D=>r=none/\t O w U Y J h D.heap/\y (·∈g) J J s D) X hs q C λD n l=>(eP z n l)) (λv D B=>?_) λ_ _ e=>e.elim);refine F5 B ?_;clear B;rintro rfl n l;exact cw (T D f e n (Br l) (Pg E p l) (r.mono l.aF))
 |succ k ih=>
  intro i s f e a1 G X C E q p r T;haveI P:i<xs.length:=jQ 0x1010201d05111c301d06201211011c001d061 z a1 (hB (n:=xs.length) (m:=i) (aG 72339138019393553 z G));refine codeAny_builtin PySem.F.entry_extend_loop ?_;rw[Around.under_plainId PySem.F.plain_extend_loop _];refine o (d (F.item i J h s (λr D=>∃a2,r=some a2/\t O w U Y J h D.heap/\y (·∈g) J J s D/\aL (u J D.heap) xs[i] a2/\M (i+1) J D.heap) xs[i] (sB P) X hs q C λa2 D n l v j=>(oV a2 z n l v j)) (λv D B=>?_) λ_ _ e=>e.elim);refine B.elim λa2 a3=>?_;clear B;haveI y0:=a3.1;haveI n:=a3.2.1;haveI l:=a3.2.2.1;haveI hy:=a3.2.2.2.1;haveI j:=a3.2.2.2.2;clear a3;subst y0;haveI p':=Pg E p l;haveI hl:=r.length;haveI Gp:f.length<=1000000:=by rw[<-hl,List.length_take];lia
  refine o (wpAny_updateSeq p' z (cw ⟨plainId_quiet PySem.F.plain_extend_loop _,?_⟩) (by rw[sizeLine_eq];simp;exact eJ ‹_› m) (by rw[sizeLine_eq];simp;exact eJ ‹_› m));haveI hs2:=nM D.heap S (Obj.mapSeq λx=>x.push a2);haveI W4:D.heap.objs.size<=(D.heap.update S (Obj.mapSeq λx=>x.push a2)).objs.size:=by rw[Heap.size_after_update];exact ct _
  haveI SW:o6 U J [S]:=λb Z=>by rw[eL.mp Z];exact⟨.inl E,MZ⟩
  refine(fK (j:={D with heap:=D.heap.update S (Obj.mapSeq λx=>x.push a2)}) n SW pt (λI e=>.inr (IsL.kS p' I e)) hs2 W4 (eP z rfl rfl)).elim λX2 N=>?_;haveI p2:=p'.update λx=>x.push a2;haveI ea:f.toArray.push a2=(f++[a2]).toArray:=by simp
  rw[ea] at p2;refine ih (i+1) _ (f++[a2]) _ (ng (L1 [_,_,_,_,_] 0x4013201d05214011c301d001d0a111c101d06201111010011 z a1 (hB (n:=xs.length) (m:=i+1) (aG 0x1011c001d06011011c001d061 z P)) (hB (n:=xs.length) (m:=i) (aG 0x1011c001d06011010011 z P))) (L1 [_,_,_,_,_] 0x4013201d05114011c301d101d0a211c001d06201211010011 z a1 (hB (n:=xs.length) (m:=i+1) (aG 0x1011c001d06011011c001d061 z P)) (hB (n:=xs.length) (m:=i) (aG 0x1011c001d06011010011 z P)))) P X2 C E (F.keep _ _ _ _ D _ j N C λb Z=>?_) p2 ?_ λMo L Q X3 l3 p3 r3=>T Mo L Q X3 (((Br l).trans (N.weaken λa W=>by rw[eL.mp W];exact pt)).trans l3) p3 r3;·exact(eL.mp Z)▸⟨E,DC⟩
  ·rw[List.take_add_one,sB P];exact((r.mono l.aF).snoc hy).mono N.aF
set_option backward.match.sparseCases true in
theorem DD{K M:List V}{x P:Value}(hh:A.handled=none)(X:t O w U Y J h s.heap)(e:jj a1 h=some K)(e':jj v' h=some M)(hx:aL (u J s.heap) a1 x)(hy:aL (u J s.heap) v' P)(hs:ch (kg a1 K++kg v' M) h):
 wpAny (model O w) A (call (.type "zip") [x,P]) (λR c=>wpAny (model O w) A (call (.type "list") [R]) (l O w U Y J h s<|.new<|.list<|bn K M) dk c) dk s:=by
 have gS:(bn K M).length<=1000000:=by have:=(w' X e hx).1;simp [bn];lia
 refine d (y9 (A':=A.in1.in1) hh X e e' hx hy hh) (λR c hz=>?_) λ_ _ e=>e;obtain⟨jP,hT,v,fp,It,F,it0,hf,M0,W,L⟩:=hz;refine oE jP ?_;clear jP;rintro B rfl;refine callType_codes (Q₁:=λobj k=>obj=.ref c.heap.objs.size/\k={c with heap:=c.heap.push {cls:=.type "list",data:=.seq #[]}}) PySem.F.called_list (PySem.F.typeCall_list_1 _) PySem.F.entry_list_init
  (code_list_new _ ⟨z,z⟩) λobj k Z=>?_
 haveI y0:=Z.1;haveI y1:=Z.2;clear Z;subst y0;subst y1;generalize j:c.heap.objs.size=S;haveI n:IsL (c.heap.push {cls:=.type "list",data:=.seq #[]}) S #[] 0:=by rw[<-j];exact sK _ z
 have T:∀D,c.heap.get? S≠some D:=λD e=>Nat.lt_irrefl _ (by have:=ip e;rw[j] at this;exact this);have I:v S=none:=W.fresh<|Nat.le_of_eq j;have G:U.objs.size<=S:=j▸W.size;have rL:B≠S:=by clear j n G I;rintro rfl;refine bS hT λD ho _=>?_;clear hT;exact T D ho
 have N:S∉fp:=λhm=>Nat.lt_irrefl S (by have:=(M0 S hm).2;rw[j] at this;exact this);refine(eP (a_ _ n z) (PySem.F.args_list_init_2 _ _) ?_);show wpAny _ A.in1.in1 (do let old<-Builtin.List.listItems (.ref S);Builtin.List.listUpdate (.ref S) (λ_=> #[]);letGo old.toList.reverse;Builtin.List.listExtendWith (.ref S) (.ref B) .none) _ _ _;refine o ?_;unfold Builtin.List.listItems;refine o<|wpAny_seqItems n z<|cw ?_;show wpAny _ _ (updateSeq S (λ_=> #[])>>=λ_=>letGo (#[]:Array Value).toList.reverse>>=λ_=>Builtin.List.listExtendWith (.ref S) (.ref B) .none) _ _ _;refine o<|wpAny_updateSeq n z ?_;have C:IsL ((c.heap.push {cls:=.type "list",data:=.seq #[]}).update S<|Obj.mapSeq λ_=> #[]) S #[] _:=n.update λ_=> #[];generalize hg:(c.heap.push {cls:=.type "list",data:=.seq #[]}).update S (Obj.mapSeq λ_=> #[])=g at C;have gk:∀b D,c.heap.get? b=some D->g.get? b=some D:=λb D e=>by rw[<-hg];exact(Heap.get?_update_other _ _<|by rintro rfl;exact T D e).trans<|mj _ e
 haveI gz:c.heap.objs.size<=g.objs.size:=by rw[<-hg,Heap.size_after_update,pu];exact Nat.le_succ _
 refine o<|wpAny_letGo ?_;have Xg:t O w U Y v h g:=W.grow gk gz;have Lg:y pZ v v c {c with heap:=g}:=jd gk gz<|eP z rfl rfl;have Zg:It 0 v g:=F.keep 0 pZ v v c {c with heap:=g} it0 Lg hf λb i=>i.elim;unfold Builtin.List.listExtendWith;have Zh:Shared.TypeIs {c with heap:=g} (.ref B) "zip":=let ⟨D,ho,hc⟩:=hT;(a_ D (gk _ _ ho) hc);refine o<|wpAny_typeOf (T:="zip") Zh ?_;haveI h1:Builtin.List.listSameRef (.ref S) (.ref B)=false:=by simp [Builtin.List.listSameRef];exactλe=>rL e.symm
 haveI e1:(Value.type "zip"==Value.type "list")=false:=by decide
 haveI e2:(Value.type "zip"==Value.type "tuple")=false:=by decide
 simp only[h1,e1,e2,Bool.or_false,Bool.false_eq_true,if_false];refine o<|d (F.aq 0 v {c with heap:=g} (λa1 m=>a1=.ref B/\m={c with heap:=g}) Zg ⟨z,z⟩) (λa1 m hv=>?_) λ_ _ e=>e.elim;haveI y0:=hv.1;haveI y1:=hv.2;clear hv;subst y0;subst y1;refine o (wpAny_holding<|I0 Zh ?_)
 --from here on Wt loop
 have key:∀(E:Heap)(e:Nat),IsL E S #[] e->(∀b D,b≠S->g.get? b=some D->E.get? b=some D)->g.objs.size<=E.objs.size->
  codeAny (model O w) A.in1 (.builtin "list.extend.loop" ⟨[.ref S,.ref B,.none],[]⟩) (λr m=>match r with|.ok (.ret a1)=>a1=.none/\l O w U Y J h s (.new<|.list<|bn K M) (.ref S) m|.ok _=>False|.error e=>dk e m) {c with heap:=E}:=by
  intro E e p hk hz;have SW:o6 U v [S]:=λb i=>by rw[eL.mp i];exact⟨.inl I,G⟩
  refine oA (fK (s:={c with heap:=g}) (j:={c with heap:=E}) Xg SW pt (λD e=>.inr<|IsL.kS C D e) (λb D i e=>hk b D i e) hz<|eP z rfl rfl) λX2 Q=>Bz (U:=U) (Y:=Y) (J:=v) (h:=h) hs gS F S N G _ 0 _ [] e z (Nat.zero_le _) X2 hf I (F.keep 0 _ _ _ {c with heap:=g} _ Zg Q hf λb i=>?_) p .nil λm I1 e' X3 l3 p3 r3=>⟨z,?_⟩;·exact(eL.mp i)▸⟨I,N⟩
  ·have l4:y (λa=>a∈S::fp) J v s m:=(L.weaken λ_ q=>q.elim).trans<|((Lg.weaken λ_ q=>q.elim).trans<|Q.weaken λa H=>by rw[eL.mp H];exact pt).trans l3;refine l.adopt X3 (l4.fresh λa H=>.inr ?_) I G (j▸L.size) p3 r3 gS;clear Q h1 n G N T SW hg hk I rL l3 l4 p p3 C;refine db (ew.mp H) ?_ ?_;·rintro rfl;exact j▸L.size
   ·intro H;exact(M0 a H).1
 have f:=plainId_quiet PySem.F.plain_extend_loop ⟨[.ref S,.ref B,.none],[]⟩;refine wpAny_ite_split (λ_=>?_) λ_=>cw ⟨f,key g _ C (λb D _ e=>e)<|ct _⟩;refine o<|wpAny_rule<|o ?_;show wpAny _ _ (updateSeq S (·.push .none)>>=λ_=>updateSeq S (·.pop)) _ _ _;refine o<|wpAny_updateSeq C z ?_;have q2:=C.update λx=>x.push Value.none;refine wpAny_updateSeq (hz:=by seq_fits) q2 z ?_;have q3:=q2.update λx=>x.pop;refine cw ⟨f,key _ _ q3 (λb D i e=>?_) ?_⟩;·exact(Heap.get?_update_other _ _<|Ne.symm i).trans<|(Heap.get?_update_other _ _<|Ne.symm i).trans e
 ·rw[Heap.size_after_update,Heap.size_after_update];exact ct _
end
section
variable{O:Program}{w:World}{A:Around}{E:f9}{s:Shared}{K:Type}[DecidableEq K]
def EY(a:KeyKind O w K)(b:List K)(c:Array Value):Prop:=c.size=b.length/\∀(i:Nat)(v:Value),c[i]?=some v->∃k,b[i]?=some k/\a.is k v/\v.scannable=true
theorem BA(a:List K)(i:Nat)(c:i<a.length)(b:K):(decide (b∈a.take i)||decide (b=a[i]))=decide (b∈a.take (i+1)):=by
 haveI e:a.take (i+1)=a.take i++[a[i]]:=by rw[List.take_add_one,sB c];rfl
 rw[e,Bool.eq_iff_iff];simp only[Bool.or_eq_true,decide_eq_true_eq,mx,eL]
omit [DecidableEq K] in
theorem DE{a:List K}(g:a.Nodup){i:Nat}(c:i<a.length):a[i]∉a.take i:=λf=>by
 obtain⟨j,d,e⟩:=List.getElem_of_mem f;rw[List.length_take] at d;rw[List.getElem_take] at e;haveI b:j<i:=by lia
 exact(List.pairwise_iff_getElem.mp g j i (bF 0x2011c001d06011011c201d06011011c001d061 z c b) c b) e
theorem BB{g:Heap}{S b:K->Bool}{n d:Nat}(i:g.SetOf c a S n)(e:∀h,S h=b h)(f:n=d):g.SetOf c a b d:=by have:S=b:=funext e;clear e;subst this;subst f;exact i
theorem I2(a:KeyKind O w K){R:Result->Shared->Prop}{I:Addr}{J u:List Addr}{n:Nat}{P:Nat->Value->Prop}{D:Nat->Shared->Prop}(W:WalksS O w A.in1 I J u Y n P D)(S:Addr)(X:S∉J)
 (c:List K)(H:c.length=n)(V:c.Nodup)(W6:∀i a2,P i a2->∃a1,c[i]?=some a1/\a.is a1 a2/\a2.scannable)(g:n+1<scanBound):
 ∀(a1 i:Nat)(s:Shared),n-i=a1->i<=n->D i s->s.heap.SetOf a S (λf=>decide (f∈c.take i)) i->
  (∀d,Moved (S::u) Y s d->d.heap.SetOf a S (λf=>decide (f∈c)) n->R (.ok<|.ret .none) d)->
  codeAny (model O w) A (.builtin "set.update.loop" ⟨[.ref S,.ref I],[]⟩) R s:=by
 have G:S∉u:=λh=>X<|W.sub _ h;have Q:∀b∈u,b∈S::u:=λb g=>List.mem_cons_of_mem _ g;intro a1;induction a1 with
 |zero=>intro i s m p y l x;have W3:i=n:=ng (aG 72339138019393553 z p)<|bF 0x11201d0521c01201111010011 z m<|hB (n:=n) (m:=i)<|aG 72339138019393553 z p;clear g p m;subst W3;refine codeAny_builtin PyProof.Rows.F.entry_set_update_loop ?_;rw[Around.under_plainId PyProof.Rows.F.plain_set_update_loop _];refine o<|W.done s _ _ y λd r=>?_;rw[<-H,List.take_length] at l;rw[<-H] at x;exact cw<|x d (r.mono Q)<|by refine zQ l λk F C t N B=>?_;clear l;exact(De k F C t (r.heap S _ G N) B)
 |succ a1 ih=>
  intro i s m p y l x;have j:i<n:=jQ 0x1010201d05111c301d06201211011c001d061 z m<|hB (n:=n) (m:=i)<|aG 72339138019393553 z p;have v:i<c.length:=bF 0x2011c001d0601201101211011c001d061 z H j;refine codeAny_builtin PyProof.Rows.F.entry_set_update_loop ?_;rw[Around.under_plainId PyProof.Rows.F.plain_set_update_loop _];refine o<|W.item i s _ _ j y λa2 d hP W7 r=>iK (W6 i a2 hP) λq U Z W9=>?_;rw[sB v] at U;cases U;have Wu:d.heap.SetOf a S (λf=>decide (f∈c.take i)) i:=by refine zQ l λk F C tb N B=>?_;clear l;exact(De k F C tb (r.heap S _ G N) B)
  refine o<|wpAny_holding ?_;unfold setAdd;refine wpAny_holding<|o<|a.pyHash (k:=c[i]) Z<|wpAny_setAddHashed_of (knd:=a) (s:={d with toks:=d.toks+1}) Z W9 Wu (bF 0x2011c001d06011011c1c201d06d0b011011c1c001d06d0b1 z g j) λh' T L=>?_;have M:h'.SetOf a S (λf=>decide (f∈c.take (i+1)))<|i+1:=
   BB L (λf=>BA c i v f) (by rw[if_neg];simpa using DE V v)
  refine cw ⟨plainId_quiet PyProof.Rows.F.plain_set_update_loop _,ih (i+1) _ (ng (L1 [_,_,_,_,_] 0x4013201d05214011c301d001d0a111c101d06201111010011 z m (hB (n:=n) (m:=i+1)<|aG 0x1011c001d06011011c001d061 z j)<|hB (n:=n) (m:=i)<|aG 0x1011c001d06011010011 z j)<|L1 [_,_,_,_,_] 0x4013201d05114011c301d101d0a211c001d06201211010011 z m (hB (n:=n) (m:=i+1)<|aG 0x1011c001d06011011c001d061 z j)<|hB (n:=n) (m:=i)<|aG 0x1011c001d06011010011 z j) j (W.frame _ d _ _ W7 (Nat.le_succ _) λb g k e=>?_) M λMo W_ Xa=>?_⟩;·rw[T.2 b λh:b=S=>X<|h▸g];exact e
  ·refine x Mo (Moved.trans W.gtrans ((r.mono Q).then_heap (Nat.le_succ _) λb k g e=>?_) W_) Xa;rw[T.2 b λh:b=S=>g<|h▸pt];exact e
theorem Ac{Q B:f9}(d:TypeCalled T g L)(p:checkTypeCall T ⟨args,[]⟩=pure ())
 (j:codeAny (model O w) A.in1 (.call (.builtin g) ⟨.type T::args,[]⟩) (wants B E) s)
 (k:∀h a,B h a->a.TypeIs h T/\codeAny (model O w) A.in1 (.call (.builtin L) ⟨h::args,[]⟩) (wants (λr b=>r=.none/\Q h b) E) a):
 wpAny (model O w) A (call (.type T) args) Q E s:=by
 refine vP d.mro λc H n=>?_;haveI x:=d.made;haveI u:=d.sub;refine wpAny_call<|codeAny_of_tree ?_;refine cw ⟨Code.quiet_builtin _ (by decide+kernel),codeAny_builtin PySem.F.entry_type_call ?_⟩;rw[Around.under_plain (weight_type_call_type T args []) z];haveI y:=d.notType;haveI l:=d.canCreate;repeat (any_goals (first|assumption|wp_step))
 refine codeAny_mono j λr a D=>?_;cases r with
 |error e=>exact D
 |ok o=>
  cases o with
  |ret h=>
   refine oA (k _ _ D) λC i=>?_;haveI q:=d.init.lookup;haveI v:=d.init.bind h;repeat (any_goals (first|assumption|wp_step))
   refine codeAny_mono i λt b f=>?_;cases t with
   |error e=>exact f
   |ok m=>
    cases m with
    |ret r=>refine oA f ?_;clear f;rintro rfl F;repeat (any_goals (first|assumption|wp_step))
    |_=>exact f.elim
  |_=>exact D.elim
theorem xl(c:KeyKind O w K){l:Addr}{m:Array Value}{Q:f9}
 (hh:A.handled=none)(hl:s.heap.IsList l m)(u:EY c a1 m)(X:a1.Nodup)(j:m.size+1<scanBound)
 (h:∀(Y:Heap)(tk:Nat),Y.SetOf c s.heap.objs.size (λk'=>decide (k'∈a1)) a1.length->
  (∀b a2,b<s.heap.objs.size->s.heap.get? b=some a2->Y.get? b=some a2)->Q (.ref s.heap.objs.size) {s with heap:=Y,toks:=tk}):
 wpAny (model O w) A (call (.type "set") [.ref l]) Q E s:=by
 refine Ac (B:=λB d=>∃a:Bool,B=.ref s.heap.objs.size/\d={s with heap:=s.heap.push {cls:=.type "set",dict:=none,data:=.set #[] 0 (.fresh 0 0 a)}}) PySem.F.called_set (PySem.F.typeCall_set_1 _) (code_set_new_1 (.ref l) λa=>(a_ a z rfl)) λB d D=>?_;refine bS D ?_;clear D;rintro a rfl rfl;obtain⟨g,hg,M,L,n⟩:∃g,g=s.heap.push {cls:=.type "set",dict:=none,data:=.set #[] 0 (.fresh 0 0 a)}/\g.get? s.heap.objs.size=some {cls:=.type "set",dict:=none,data:=.set #[] 0 (.fresh 0 0 a)}/\
  (∀b a2,s.heap.get? b=some a2->g.get? b=some a2)/\g.objs.size=s.heap.objs.size+1:=(rV _ z (sK _ z) (λ_ _ e=>mj _ e)<|pu ..)
 rw[<-hg];haveI N:Shared.TypeIs {s with heap:=g} (.ref s.heap.objs.size) "set":=(a_ _ M z);refine⟨N,?_⟩;refine codeAny_call_builtin PySem.F.called_set.init.plain PySem.F.entry_set_init<|check_set_init_1 N ?_
 ·obtain⟨ol,f,F,T,C⟩:=hl;obtain⟨S,I,Zl,Z⟩:=ol;simp only at F C;subst F;subst C;haveI J:g.get? l=some {cls:=.type "list",dict:=I,data:=.seq m T,slots:=Z}:=L _ _ f;haveI U:=PySem.F.sub_list_set;haveI V:=PySem.F.sub_list_frozenset;haveI rL:(Value.type "list"==Value.type "dict")=false:=by decide
  haveI y:g.IsList l m:=(Bl _ J z T z);unfold Builtin.«set.__init__» noKeywords Builtin.Frozenset.updateFrom;generalize p:pyIter=PI;wp_walk;subst p;refine wpAny_pyIter_list y<|o<|wpAny_runValue ?_;haveI H:l<s.heap.objs.size:=ip f;haveI t:A.in1.in1.in1.handled=none:=by simp [hh]
  haveI P:l≠g.objs.size:=by rw[n];exact Nat.ne_of_lt<|Nat.lt_succ_of_lt H
  haveI W:s.heap.objs.size∉[g.objs.size,l]:=by rw[n];simp only[ew,i3,or_false,not_or];exact⟨Nat.ne_of_lt<|Nat.lt_succ_self _,Nat.ne_of_gt H⟩
  refine I2 c ((Walks.list t _ l P m).toS) s.heap.objs.size W a1 u.1.symm X (λi v hv=>u.2 i v hv) j (m.size-0) 0 _ (ng (bN 65553 z)<|bN 65553 z) (Nat.zero_le _)
   ⟨(g6 _ (sK _ z) z rfl),(y.push _)⟩ ?Ph ?hR
  case Ph=>
   haveI R:(g.push {cls:=.type "list_iterator",data:=.fields #[.ref l,.int 0 0]}).get? s.heap.objs.size
    =some {cls:=.type "set",dict:=none,data:=.set #[] 0 (.fresh 0 0 a)}:=mj _ M
   exact BB ((setObjOf_fresh (knd:=c) a).setOf R<|by unfold scanBound;exact sg (Nat.zero_le _) ‹_›) (λ_=>by simp) rfl
  case hR=>
   intro s' k G;obtain⟨Y,g',d',tk',x⟩:=s';haveI eg:g'=s.gens:=k.gens;haveI ed:d'=s.drawn:=k.drawn;haveI eo:x=s.os:=k.os;subst eg;subst ed;subst eo;refine cw ?_;rw[u.1] at G;refine cw ⟨z,h _ _ G λb a2 j e=>?_⟩;haveI q:b≠s.heap.objs.size:=Nat.ne_of_lt j;haveI r:b≠g.objs.size:=by rw[n];exact Nat.ne_of_lt<|Nat.lt_succ_of_lt j
   exact k.heap b a2 (by simp only[ew,i3,or_false,not_or];exact⟨q,r⟩)<|mj _<|L _ _ e
end
section
variable{O:Program}{w:World}{U:Heap}{Y:Cl->Addr}{A:Around}{s:Shared}{J:cr}{h:Hp}
set_option tactic.hygienic true in
theorem M1:∀{b:List V},b.all V.Qe->∃a:List Int,b=a.map V.int:=λ{c}=>by
 induction c with
 |nil=>intro _;exact⟨[],z⟩
 |cons v r d=>intro e;rw[List.all_cons,oH] at e;obtain⟨a,rfl⟩:=d e.2;induction v using gQ<;>simp [V.Qe] at e;rename_i i;exact⟨i::a,z⟩
set_option tactic.hygienic true in
theorem M3:∀{b:List V},b.all V.Qg->∃a:List Sy,b=a.map V.str:=λ{c}=>by
 induction c with
 |nil=>intro _;exact⟨[],z⟩
 |cons v r d=>intro e;rw[List.all_cons,oH] at e;obtain⟨a,rfl⟩:=d e.2;induction v using gQ<;>simp [V.Qg] at e;rename_i i;exact⟨i::a,z⟩
theorem DF:∀{a:List Int},nG (a.map V.int)->a.Nodup:=λ{b}=>by
 induction b with
 |nil=>intro _;exact List.nodup_nil
 |cons k r d=>intro e;replace e:=nl.mp e;rw[Bool.not_eq_true'] at e;refine List.nodup_cons.mpr ⟨λc=>?_,d e.2⟩;have:=List.any_eq_false.mp e.1 (.int k)<|List.mem_map_of_mem c;exact this (decide_eq_true z)
theorem DG:∀{c:List Sy},nG (c.map V.str)->(c.map eX).Nodup:=λ{f}=>by
 induction f with
 |nil=>intro _;exact List.nodup_nil
 |cons k r g=>intro e;replace e:=nl.mp e;rw[Bool.not_eq_true'] at e;refine List.nodup_cons.mpr ⟨λb=>?_,g e.2⟩;refine bS (List.mem_map.mp b) λi d a=>?_;haveI j:=rj _ _ a;clear a b;subst j;have:=List.any_eq_false.mp e.1 (.str i)<|List.mem_map_of_mem d;exact this (decide_eq_true z)
theorem Gq(hh:A.handled=none)(X:t O w U Y J h s.heap)(e:h a=some (.list a1))(g:((a1.all V.Qe||a1.all V.Qg)&&nG a1&&decide (a1.length<4000))):
 wpAny (model O w) A (call (.type "set") [.ref a]) (λy d=>wpAny (model O w) A (call (.builtin "len") [y]) (l O w U Y J h s<|.val<|.int a1.length) dk d) dk s:=by
 refine kf λC m=>c_ (X.list e) λoa _ I n p x=>?_;haveI M:=x.length;rw[oH,oH,Bool.or_eq_true,decide_eq_true_eq] at g;refine oA g ?_;clear g;rintro⟨f,N⟩ F;refine m ?_;haveI S:I.toArray.size+1<scanBound:=by unfold scanBound;simp;exact aG 0xfa0c041c101d0601001101211000c051c1c001d06d0b1 z M F
 haveI D:∀{K:Type}[DecidableEq K](r:KeyKind O w K)(c:List K),c.length=a1.length->c.Nodup->EY r c I.toArray->
  wpAny (model O w) A (call (.type "set") [.ref a]) (λy d=>wpAny (model O w) A (call (.builtin "len") [y]) (l O w U Y J h s<|.val<|.int a1.length) dk d) dk s:=by
  intro K _ r c L Z H;refine bW<|xl r hh p.isList H Z S λQ W R f hz=>kf λC m=>?_;obtain⟨o,P,ep,B,ho,G,hd,_,_,Bt,hf,hn⟩:=R;refine m ?_;haveI T:P.size=a1.length:=by rw[hn,L]
  refine call_len_set (s:={s with heap:=Q,toks:=W}) ho G hd hf (by rw[T];lia (liaSteps:=9999)) ?_;rw[T];exact l.grow (s':={s with heap:=Q,toks:=W+1+1}) X (λb o e=>f b o (ip e) e) hz (eP z rfl rfl)<|.int _ _
 rcases f with f|f
 ·refine oE (M1 f) ?_;clear e f F;rintro c rfl;refine D (intKind O w) c (by simp) (DF N) ⟨by simp;simpa using M.symm,λi v g=>?_⟩;haveI j:I[i]?=some v:=by simpa using g
  cases q:c[i]?with
  |none=>
   have:(c.map V.int)[i]?=none:=by rw[oe,q];rfl
   rw[x.get_none this] at j;cases j
  |some k=>
   have:(c.map V.int)[i]?=some (.int k):=by rw[oe,q];rfl
   refine kf λC m=>bS (x.get i this) λy E u=>?_;rw[j] at E;cases E;refine oE u.int_inv ?_;clear g j u;rintro B rfl;exact m<|(g6 k z (Dn k B) z)
 ·refine oE (M3 f) ?_;clear e f F;rintro c rfl;refine D (strKind O w) (c.map eX) (by simp) (DG N) ⟨by simp;simpa using M.symm,λi v g=>?_⟩;haveI j:I[i]?=some v:=by simpa using g
  cases q:c[i]?with
  |none=>
   have:(c.map V.str)[i]?=none:=by rw[oe,q];rfl
   rw[x.get_none this] at j;cases j
  |some k=>
   have:(c.map V.str)[i]?=some (.str k):=by rw[oe,q];rfl
   refine kf λC m=>bS (x.get i this) λy E u=>?_;rw[j] at E;cases E;refine oE u.str_inv ?_;clear g j u;rintro B rfl;refine m ?_;exact(g6 (eX k) (by rw[oe,q];rfl) (strKind_is O w _ B) z)
end
open PySem.SeqAt (EqAt RcAt RcNeAt)
section
variable{O:Program}{w:World}{U:Heap}{Y:Cl->Addr}{s:Shared}{J:cr}{h:Hp}
theorem s5(n:Nat):(List.range n).all (λ_=>true):=by rw[sS];intros;rfl
theorem DH:∀{i:Nat}{d:D},b[i]?=some d->d.depth<=jb b:=by
 induction b with
 |nil=>intro i d e;rw[List.getElem?_nil] at e;cases e
 |cons a r k=>
  intro i d e;induction i using wQ with
  |zero=>exact me e▸Nat.le_max_left _ _
  |succ i=>exact eJ (k e)<|Nat.le_max_right _ _
theorem fY.ind{M:List V->List D->Prop}(n:M [] [])(c:∀{g e b a},ga h g e->fY h b a->M b a->M (g::b) (e::a))(t:fY h b a):M b a:=
 fY.rec (motive_1:=λ_ _ _=>True) (motive_2:=λb a _=>M b a) trivial (λ_=>trivial) (λ_=>trivial) (λ_=>trivial) (λ_ _=>trivial) (λ_ _ _=>trivial) n (λx y _ i=>c x y i) t
theorem fY.length{a:List V}(t:fY h a b):a.length=b.length:=fY.ind (M:=λa b=>a.length=b.length) rfl (λ_ _ i=>congrArg (·+1) i) t
theorem fY.get{a:List V}(t:fY h a b):∀{i:Nat}{v:V},a[i]?=some v->∃d,b[i]?=some d/\ga h v d:=
 fY.ind (M:=λa b=>∀{i:Nat}{v:V},a[i]?=some v->∃d,b[i]?=some d/\ga h v d) (λ{i v} e=>by rw[List.getElem?_nil] at e;cases e) (λ{v d a b} x r k i w e=>by
  induction i using wQ with
  |zero=>exact(a_ _ z<|me e▸x)
  |succ i=>exact k e) t
theorem ga.back(t:ga h j g):match (generalizing:=false) g with
 |.none=>j=.none
 |.bool b=>j=.bool b
 |.int i=>j=.int i
 |.str s=>j=.str s
 |.aF f=>∃c,j=.aF c/\fY h c f
 |.list f=>∃a c,j=.ref a/\h a=some (.list c)/\fY h c f:=by
 induction t using ga.casesOn with
 |aF k=>exact(a_ _ z k)
 |list e k=>exact(kH _ _ z e k)
 |_=>rfl
inductive QI(s:Shared)(J:cr)(h:Hp):D->Value->Value->Prop
 |aF {ds:List D} {vs tK:List V} {r r':Addr} {xs ys:List Value} (c:s.heap.IsTuple r<|List.toArray xs) (p':s.heap.IsTuple r'<|List.toArray ys) (a:aC (u J s.heap) vs xs) (b:aC (u J s.heap) tK ys) (k:fY h vs ds) (k':fY h tK ds):QI s J h (.aF ds) (.ref r) (.ref r')
 |list {ds:List D} {vs tK:List V} {r r':Addr} {xs ys:List Value} (c:s.heap.IsList r<|List.toArray xs) (p':s.heap.IsList r'<|List.toArray ys) (a:aC (u J s.heap) vs xs) (b:aC (u J s.heap) tK ys) (k:fY h vs ds) (k':fY h tK ds):QI s J h (.list ds) (.ref r) (.ref r')
 |flat {i:D} {x j:Value} (f:iX x) (g:iX j) (e:k7 x j):QI s J h i x j
theorem Pj(X:t O w U Y J h s.heap)(d:ga h a2 T)(o:ga h a1 T)(g:aL (u J s.heap) a2 x)(M:aL (u J s.heap) a1 a3):QI s J h T x a3:=by
 haveI a:a2=a1->a2.flat->cZ a2 a2->QI s J h T x a3:=λe f q=>by subst e;exact .flat (kK g f) (kK M f)<|(oZ g M f f).symm.trans q
 haveI b:=o.back;clear o;induction d using ga.casesOn with
 |none=>exact a b.symm z rfl
 |bool c=>exact a b.symm z<|decide_eq_true z
 |int i=>exact a b.symm z<|decide_eq_true z
 |str c=>exact a b.symm z<|decide_eq_true z
 |aF k=>clear a;refine bS b ?_;clear b;rintro F rfl l;refine dB g.fz ?_;clear g;rintro r N n rfl y j _;refine dB M.fz ?_;clear M;rintro L G A rfl H m _;exact .aF (IsT.kh y.uw) (IsT.kh H.uw) j m k l
 |list e k=>clear a;refine jn b ?_;clear b;rintro K F rfl v l;obtain rfl:=g.cq;obtain rfl:=M.cq;exact c_ (X.list e) λ_ _ N n p j=>c_ (X.list v) λ_ _ G A C m=>.list p.isList C.isList j m k l
theorem vt{b:List Value}(a:j<b.toArray.size):∃v,b[j]?=some v/\b.toArray[j]=v:=(a_ (b.toArray[j]) (by simp [sB<|show j<b.length by simpa using a]) z)
theorem aC.get'(r:aC g b xs){i:Nat}{x:Value}(e:xs[i]?=some x):∃v,b[i]?=some v/\aL g v x:=by
 cases q:b[i]?with
 |none=>rw[r.get_none q] at e;cases e
 |some v=>refine bS (r.get i q) λy a c=>?_;rw[e] at a;cases a;exact(a_ v z c)
theorem sM{n:Nat}(W:∀(a1:D)(A:Around)(a3 a2:V)(x a4:Value),a1.depth<=n->A.units+n+1<cLine->ga h a3 a1->ga h a2 a1->aL (u J s.heap) a3 x->aL (u J s.heap) a2 a4->EqAt A s x a4 true){A:Around}(T:A.units+(n+1)+1<cLine)
 {c:List D}{t q:List V}{v l:List Value}(C:jb c<=n)(k:fY h t c)(X:fY h q c)(r:aC (u J s.heap) t v)(Z:aC (u J s.heap) q l):∀j(o:j<v.toArray.size)(p:j<l.toArray.size),EqAt A.in1 s v.toArray[j] l.toArray[j] true:=by
 intro j o p;refine bS (vt o) λa N L=>bS (vt p) λb Q M=>?_;rw[L,M];refine bS (r.get' N) λd H f=>bS (Z.get' Q) λy F G=>bS (k.get H) λK m g=>bS (X.get F) λB e i=>?_;exact W K A.in1 d y a b (eJ (DH m) C) (by exact bF 0x2011c1c1c101d001d0ad0fd14012011c1c11c001d06d0ad0fd141 z T) g (me (m.symm.trans e)▸i) f G
theorem M5(X:t O w U Y J h s.heap):∀(n:Nat)(d:D)(A:Around)(v I:V)(x y:Value),d.depth<=n->A.units+n+1<cLine->ga h v d->ga h I d->aL (u J s.heap) v x->aL (u J s.heap) I y->EqAt A s x y true:=by
 intro n;induction n with
 |zero=>
  intro d A v I x y E c B o i M;haveI q:=Pj X B o i M;clear B o i M;induction q using QI.casesOn with
  |flat f g e=>exact e▸tL f g
  |_=>exact absurd E<|Nat.not_succ_le_zero _
 |succ n F=>
  intro d A v I x y E c B o i M;haveI q:=Pj X B o i M;clear B o i M;induction q using QI.casesOn with
  |@aF H L K r C N G p l a b k j=>
   by_cases m:r=C;·clear l;subst m;exact EqAt.same _
   ·have:=RcAt.tuples (A:=A) (e:=λ_=>true) p l (bF 0x1011c1c1c201d001d0ad0fd14011011c001d061 z c)<|sM F c (Nat.le_of_succ_le_succ E) k j a b;rw[s5,show(N.toArray.size==G.toArray.size)=true from beq_iff_eq.mpr<|a.length.symm.trans<|k.length.trans<|j.length.symm.trans b.length] at this;exact EqAt.of_refs m this
  |@list H L K r C N G p l a b k j=>
   by_cases m:r=C;·clear l;subst m;exact EqAt.same _
   ·have:=RcAt.lists (A:=A) (e:=λ_=>true) p l (a.length.symm.trans<|k.length.trans<|j.length.symm.trans b.length) (bF 0x1011c1c1c201d001d0ad0fd14011011c001d061 z c)<|sM F c (Nat.le_of_succ_le_succ E) k j a b;rw[s5] at this;exact EqAt.of_refs m this
  |flat f g e=>exact e▸tL f g
theorem Gr(X:t O w U Y J h s.heap)(v:ga h T<|.list b)(g:ga h L<|.list b)(q:jb b<=500)(m:aL (u J s.heap) T x)(G:aL (u J s.heap) L a1)(d:A.units+600<cLine):
 wpAny (model O w) A (compareOp .NotEq x a1) (l O w U Y J h s<|.val<|.bool false) dk s:=by
 refine jn v.back ?_;clear v;rintro a C rfl e k;refine jn g.back ?_;clear g;rintro r B rfl j f;obtain rfl:=m.cq;obtain rfl:=G.cq;refine c_ (X.list e) λ_ _ H n p c=>c_ (X.list j) λ_ _ F y o i=>?_;have:=RcNeAt.lists (A:=A) (e:=λ_=>true) p.isList o.isList (c.length.symm.trans<|k.length.trans<|f.length.symm.trans i.length) (aG 0x1011c258c001d08d0d011011c001d061 z d)<|sM (M5 X 500) (sg (Nat.add_le_add_left (show 500+1+1<=600 by decide) A.units) d) q k f c i;rw[s5] at this;exact this O w _ _ (l.now X<|.bool _)
end
section
variable{O:Program}{w:World}{U:Heap}{Y:Cl->Addr}{A:Around}{s:Shared}{J:cr}{h:Hp}{L:Env}
theorem M6{o:Option a0}(e:(match o with|some (.list a)=>some (!a.isEmpty)|_=>none)=some b):∃a,o=some (.list a)/\(!a.isEmpty)=b:=by
 induction o using qG with
 |none=>exact Ku e
 |some c=>
  induction c using kI with
  |list a=>exact(a_ a z<|me e)
  |_=>exact Ku e
theorem I4(h:aC g a xs):(!xs.toArray.isEmpty)= !a.isEmpty:=by induction h using aC.casesOn<;>rfl
theorem y_{v:V}{Q:Bool->Shared->Prop}{E:f9}(X:t O w U Y J h s.heap)(e:rn v h=some b)(d:aL (u J s.heap) v x)
 (g:∀T,Q b {s with toks:=T}):wpAny (model O w) A (PySem.truthy x) Q E s:=by
 induction v using gQ with
 |none=>obtain rfl:=me e;obtain rfl:=d.none_inv;exact truthy_none<|g s.toks
 |bool c=>obtain rfl:=me e;obtain rfl:=d.bool_inv;exact wpAny_truthy_bool<|g s.toks
 |int i=>
  obtain rfl:=me e;refine oE d.int_inv ?_;clear d;rintro T rfl;refine P.truthy_int ?_;have:(i !=0)=decide (i≠0):=by by_cases q:i=0<;>simp [q]
  exact this▸g s.toks
 |str c=>exact Ku e
 |aF m=>obtain rfl:=me e;refine dB d.fz ?_;clear d;rintro r o n rfl y f k;haveI l:=f.length;refine PyProof.Rows.truthy_tuple (items:=o.toArray) (Bl _ y.uw z n z) (by simp;lia (liaSteps:=9999)) ?_;exact I4 f▸g _
 |ref a=>refine bS (M6 e) ?_;clear e;rintro m j rfl;obtain rfl:=d.cq;refine c_ (X.list j) λ_ k o n p f=>?_;haveI l:=f.length;refine wpAny_truthy_list p.isList (by simp;lia (liaSteps:=9999)) ?_;exact I4 f▸g _
theorem Ad{Q:Int×Int×Nat->Shared->Prop}{E:f9}(d:s.heap.IsSliceOf sl .none (.int (-1) i) .none)(g:1<=n)(h:Q (0,1,n-1) s):
 wpAny (model O w) A (Builtin.Slice.sliceApplied (.ref sl)<|pure (n:Int)) Q E s:=by
 refine iK (id d) λl b f a=>?_;unfold Builtin.Slice.sliceApplied Builtin.Slice.sliceFields;refine o<|o<|wpAny_field b a (x:=.none) z<|o<|wpAny_field b a (x:=.int (-1) i) z<|o<|wpAny_field b a (x:=.none) z<|cw<|o<|slicePart_none ?_;rw[if_neg m];refine o<|slicePart_none<|o<|slicePart_int<|o<|cw ?_;show wpAny _ _ (match Builtin.Slice.sliceAdjust none (some<|-1) 1 (n:Int) with|(j,c)=>pure (j,(1:Int),Builtin.Slice.slicePlaces j c 1)) _ _ s;haveI e:Builtin.Slice.sliceAdjust none (some<|-1) 1 (n:Int)=(0,((n-1:Nat):Int)):=by unfold Builtin.Slice.sliceAdjust;simp only[show¬((1:Int)<0) by decide,show((-1:Int)<0) by decide,if_false,if_true];congr 1;lia
 rw[e];show wpAny _ _ (pure ((0:Int),(1:Int),Builtin.Slice.slicePlaces 0 ((n-1:Nat):Int) 1)) _ _ s;haveI k:Builtin.Slice.slicePlaces 0 ((n-1:Nat):Int) 1=n-1:=by unfold Builtin.Slice.slicePlaces;simp only[show(1:Int)>0 by decide,if_true,Int.ediv_one];split<;>lia
 rw[k];exact cw h
theorem Gs(a:Array Value)(k:Nat)(_hk:k<=a.size):((List.range k).filterMap λ(k:Nat)=>a[((0:Int)+(k:Int)*1).toNat]?).toArray=(a.toList.take k).toArray:=by
 haveI e:(λ(k:Nat)=>a[((0:Int)+(k:Int)*1).toNat]?)=λk=>a[0+k]?:=by
  funext k;have:((0:Int)+(k:Int)*1).toNat=0+k:=by lia
  rw[this]
 rw[e];have:=pick_run a 0 k;rw[List.filterMap_map] at this;haveI b:((λx=>a[x]?)∘λx=>0+x)=λk=>a[0+k]?:=z;rw[b] at this;rw[this,List.drop_zero]
theorem sO{p:Array Value}{u:Tok}{Q:f9}{E:f9}(a:IsTup s.heap n p)(d:s.heap.IsSliceOf sl .none (.int (-1) u) .none)(c:1<=p.size)
 (j:p.size<=sizeLine)(h:Q (.ref s.heap.objs.size) {s with heap:=s.heap.push {cls:=.type "tuple",data:=.seq (p.toList.take<|p.size-1).toArray}}):wpAny (model O w) A (getItem (.ref n)<|.ref sl) Q E s:=by
 haveI i:sizeOk<|.seq (p.toList.take<|p.size-1).toArray:=by show(p.toList.take<|p.size-1).toArray.size<=sizeLine;rw[List.size_toArray,List.length_take,Array.length_toList];lia
 refine iK (id d) λq g e l=>?_;haveI b:s.TypeIs (.ref sl) "slice":=(a_ q g e);unfold getItem;refine wpAny_holding<|o<|wpAny_sequenceKey a.typeIs m ?_;refine o<|wpAny_callSpecial?_slot (name:=Str.ofString "__getitem__") a.typeIs slot_tuple_getitem
  (wpAny_call_entry slot_tuple_getitem a.typeIs entry_tuple_getitem ?_<|args_tuple_getitem _ _)
 show wpAny _ _ (Builtin.Tuple.tupleItemsOf (.ref n)>>=_) _ _ s;refine o<|tupleItemsOf_ a<|o<|wpAny_typeOf b ?_;rw[if_pos m];refine o<|Ad d c ?_;haveI f:¬(((0:Int)==0&&(1:Int)==1&&(p.size-1)==p.size)):=by simp;exactλk=>aG 0x101001211011c001d06110 z (hB (n:=p.size) (m:=1)<|bN 79941096705212449 z c) k
 show wpAny _ _ (if ((0:Int)==0&&(1:Int)==1&&(p.size-1)==p.size) then _ else _) _ _ s;rw[if_neg f,Gs p _<|by exact aG 0x1011c001d06111010011 z<|hB (n:=p.size) (m:=1)<|bN 79941096705212449 z c];exact o (m:=Builtin.Tuple.tupleExact _)<|wpAny_newObj_type (cw<|a_ _ z<|cw h) i
theorem tO{b c:Type}{f:b->Option c}{g:b->c}:∀{l:List b},(∀k∈l,f k=some (g k))->l.filterMap f=l.map g:=λ{d}=>by
 induction d with
 |nil=>intro _;exact z
 |cons a l i=>intro h;rw[List.filterMap_cons,h a q,i λk e=>h k<|N e];rfl
theorem yA(j:Array Value):slicePick j none none (some<|-1)=j.toList.reverse.toArray:=by
 haveI e:sliceBounds none none (some<|-1) j.size=((j.size:Int)-1,-1,-1):=by simp [sliceBounds]
 unfold slicePick;rw[e];haveI m:sliceRange ((j.size:Int)-1) (-1) (-1)=(List.range j.size).map λk=>j.size-1-k:=by
  unfold sliceRange;haveI b:¬((-1:Int)>0):=by decide
  simp only[b,if_false];refine db (Nat.eq_zero_or_pos j.size) (λq=>?_) λq=>?_;·rw[q];simp
  ·haveI c:(j.size:Int)-1> -1:=by lia
   simp only[c,if_true];haveI d:(((j.size:Int)-1- -1- -1-1)/ - -1).toNat=j.size:=by
    have:(j.size:Int)-1- -1- -1-1=j.size:=by lia
    rw[this];simp
   rw[d];refine List.map_congr_left λk a=>?_;have:=List.mem_range.mp a;lia
 rw[m,List.filterMap_map];congr 1;refine List.ext_getElem? λi=>?_;haveI f:((λx=>j[x]?)∘λk=>j.size-1-k)=λk=>j[j.size-1-k]?:=z;rw[f];haveI g:List.filterMap (λk=>j[j.size-1-k]?) (List.range j.size)=(List.range j.size).map λk=>j.getD (j.size-1-k) .none:=by refine tO λk a=>?_;have:=List.mem_range.mp a;haveI l:j.size-1-k<j.size:=bF 0x1011c201d0611201001011011c001d061 z (Nat.sub_le (j.size-1)<|k)<|hB (n:=j.size) (m:=1)<|aG 0x11c101d06010011c021 z this;simp [Array.getD,l]
 rw[g];refine db (Nat.lt_or_ge i j.size) (λq=>?_) λq=>?_;·rw[oe,List.getElem?_range q,List.getElem?_reverse<|q];haveI l:j.size-1-i<j.size:=bF 0x1011c201d0611201001011011c001d061 z (Nat.sub_le (j.size-1)<|i)<|hB (n:=j.size) (m:=1)<|aG 0x11c101d06010011c021 z q;simp [Array.getD,l]
 ·rw[List.getElem?_eq_none (by simpa using q),List.getElem?_eq_none<|by simpa using q]
theorem za
 (c:∀a3 i,∃a5,subscripted sl false a3 i=operate a5 (getItem a3 i))
 (b:∃T id,s.TypeIs x T/\typeLookup (.type T) "__getitem__"=pure (some<|.builtin id))
 (m:∀a:Shared,a={s with heap:=s.heap.push {cls:=.type "slice",data:=.fields #[a2,a4,n]},toks:=a1}->
  wpAny (model O w) A (getItem x<|.ref s.heap.objs.size) (l O w U Y J h a r) dk a):
 wpAny (model O w) A (subscriptTail value sl x<|.ref s.heap.objs.size) (l O w U Y J h s r) dk {s with heap:=s.heap.push {cls:=.type "slice",data:=.fields #[a2,a4,n]},toks:=a1}:=by
 refine vP b ?_;clear b;rintro T id e;refine oA e λb g=>?_;clear e;refine oE (c x<|.ref s.heap.objs.size) λa5 c=>tail_any (T:=T) (id:=id) ?_ g (d (m _ z) (λy k p=>l.eA (gJ _ _) p) λ_ _ y=>y) c
 (clear m c;cases x)<;>first|exact b|(refine bS b λa3 j f=>?_;clear b;exact(a_ a3 (mj _ j) f))
theorem wn{D m B:Option Int}(X:t O w U Y J h s.heap)(v:h a=some (.list r))(H:IsPart j D)(G:IsPart a3 m)(F:IsPart e B)(E:B≠some 0)
 (C:∀a4 i,∃a2,subscripted sl false a4 i=operate a2 (getItem a4 i))
 (q:∀g a1,aC g r a1->∃c,slicePick a1.toArray D m B=c.toArray/\aC g a5 c)(y:a5.length<=r.length):
 wpAny (model O w) A (subscriptTail value sl (.ref a)<|.ref s.heap.objs.size) (l O w U Y J h s<|.new<|.list a5) dk {s with heap:=s.heap.push {cls:=.type "slice",data:=.fields #[j,a3,e]},toks:=T}:=by
 refine c_ (X.list v) λ_ k a1 n p f=>za C (fJ ("list") _ p.isList.typeIs slot_list_getitem.lookup) λb d=>bS (q _ _<|f.mono<|l9 J s.heap {cls:=.type "slice",data:=.fields #[j,a3,e]}) λc u K=>?_;haveI o:t O w U Y J h b.heap:=by rw[d];exact X.push
 haveI x:=f.length;refine wpAny_getItem_list_slice (l:=a) (items:=a1.toArray) (vl:=j) (vu:=a3) (vs:=e) (d▸(p.isList).push _) (d▸Heap.IsSliceOf.new ..) H G F E ?_ (by simp [sizeLine];exact aG 0x110121f4240c06101011000000c080011 z k x);rw[u];exact l.newList (e:=b.toks) o (d▸K)<|eJ y k
theorem zb(X:t O w U Y J h s.heap)(D:aL (u J s.heap) (.aF a3) x)(K:a3≠[])
 (d:∀a5 i,∃a2,subscripted sl false a5 i=operate a2 (getItem a5 i))(F:(∃a6,(j,a4,g)=(.int 1 a6,.none,.none)/\T=a3.drop 1)\/(∃a6,(j,a4,g)=(.none,.int (-1) a6,.none)/\T=a3.take (a3.length-1))):
 wpAny (model O w) A (subscriptTail value sl x<|.ref s.heap.objs.size) (l O w U Y J h s<|.val<|.aF T) dk {s with heap:=s.heap.push {cls:=.type "slice",data:=.fields #[j,a4,g]},toks:=a1}:=by
 refine dB D.fz ?_;clear D;rintro r N n rfl G o v;haveI y:IsTup s.heap r N.toArray:=(Bl _ G.uw z n z);refine za d (fJ ("tuple") _ y.typeIs slot_tuple_getitem.lookup) λa b=>?_;haveI C:=o.mono<|l9 J s.heap {cls:=.type "slice",data:=.fields #[j,a4,g]};haveI k:t O w U Y J h a.heap:=by rw[b];exact X.push
 haveI f:IsTup a.heap r N.toArray:=by rw[b];exact y.keeps λ_ _ e=>mj _ e
 haveI B:a.heap.IsSliceOf s.heap.objs.size j a4 g:=by rw[b];exact Heap.IsSliceOf.new ..
 haveI c:=o.length;haveI q:=List.length_pos_iff.mpr K;rcases F with⟨a6,p,rfl⟩|⟨a6,p,rfl⟩<;>cases p
 ·refine getItem_tuple_from (a:=1) f B (ct _) (by simp;exact aG 0x1011c0201001101110011c021 z c q) ?_ (by simp [sizeLine];exact aG 0x110121f4240c06101011000000c080011 z v c);exact l.wW (e:=a.toks) k (by rw[b];exact C.drop 1) (by simp;exact eJ ‹_› m)
 ·refine sO f B (by simp;exact aG 0x1011c0201001101110011c021 z c q) (by simp [sizeLine];exact aG 0x110121f4240c06101011000000c080011 z v c) ?_;haveI E:N.toArray.toList.take (N.toArray.size-1)=N.take (a3.length-1):=by simp [c]
  rw[E];exact l.wW (e:=a.toks) k (by rw[b];exact C.take _) (by simp;exact eJ ‹_› m)
theorem zc{b:Nat}{f:List Value}(c:aC g i f):∃a,slicePick f.toArray none (some (b:Int)) none=a.toArray/\aC g (i.take b) a:=by
 refine db (Nat.lt_or_ge f.length b) (λq=>?_) λq=>?_
 ·refine(a_ f ?_<|by rw[List.take_of_length_le (by have:=c.length;exact bF 0x201001111011c201d06011010011 z q this)];exact c);haveI e:sliceBounds none (some (b:Int)) none f.toArray.size=sliceBounds none none none f.toArray.size:=by
   simp only[sliceBounds,Option.getD_none,show(1:Int)>0 by decide,if_true,List.size_toArray];haveI d:¬((b:Int)<0):=by lia
   simp only[d,if_false];congr 1;congr 1;lia
  have:slicePick f.toArray none (some (b:Int)) none=slicePick f.toArray none none none:=by unfold slicePick;rw[e]
  rw[this,slicePick_all]
 ·exact(a_ _ (slicePick_upto _ _<|q)<|c.take b)
end
noncomputable def Ae(l m:List Nat):Bool:=match l with
 |[]=>m.isEmpty
 |a::r=>(match m with
  |[]=>false
  |b::t=>Nat.beq a b&&Ae r t)
theorem Gu:∀{m:List Nat},Ae c m->c=m:=by
 induction c with
 |nil=>exactλh=>(List.isEmpty_iff.mp h).symm
 |cons a r k=>
  intro m h;induction m using da with
  |nil=>exact absurd h Bool.noConfusion
  |cons b t=>haveI h:=(oH _ _).mp h;rw[Nat.eq_of_beq_eq_true h.1,k h.2]
def xm(a b:Str):Bool:=Ae a.cps.toList b.cps.toList
theorem BC(h:xm a b):a=b:=by cases a;cases b;have:=Gu h;congr 1;exact Array.toList_inj.mp this
abbrev Kn:=Vr->Option NK
noncomputable def wc(y:Vr):Bool:= !Nat.beq y.n_ 0x5f5f67756265645f5f&& !Nat.beq y.n_ 0x5f5f746369647373616c635f5f
def KD(a:Kn)(y:Vr):Bool:=decide (a y=some .bK)&&wc y
def L6(a:Kn)(y:Vr):Bool:=(decide (a y=some .e9)||(decide (a y=some .mM)||decide (a y=some .iH)))&&wc y
noncomputable def Mn(a:Kn)(y:Vr):Bool:=decide (a y=some .e9)||decide (a y=some .mM)
noncomputable def rM:Expr:=.List [] ⟨0,0,0,0⟩
noncomputable def im:Expr->List Expr
 |.BoolOp _ m _=>m
 |.BinOp l _ r _=>[l,r]
 |.UnaryOp _ x _=>[x]
 |.IfExp c t e _=>[c,t,e]
 |.ListComp e n _ _=>e::n.flatMap λg=>g.target::g.iter::g.ifs
 |.Compare l _ j _=>l::j
 |.Call f m _ _=>f::m
 |.Attribute v _ _=>[v]
 |.Subscript v i _=>[v,i]
 |.List m _=>m
 |.Tuple m _ _=>m
 |.Dict d k _=>d.filterMap id++k
 |.Slice a b c _=>[a,b,c].filterMap id
 |_=>[]
def g8(x:Expr)(i:Nat):Expr:=eF rM (im x) i
noncomputable def I6:Expr->Nat
 |.Constant _ k _=>k
 |.Tuple _ k _=>k
 |_=>0
noncomputable def M7:Expr->Scope
 |.ListComp _ _ s _=>s
 |_=>⟨.function,[],false,false,[]⟩
noncomputable def sx:Stmt->List Expr
 |.Expr v _=>[v]
 |.Return (some v) _=>[v]
 |.Assign b v _=>v::b
 |.If c _ _ _=>[c]
 |.While c _ _ _=>[c]
 |.For t a _ _ _=>[t,a]
 |_=>[]
def M2(x:Stmt)(i:Nat):Expr:=eF rM (sx x) i
def bk:Stmt->Nat->List Stmt
 |.If _ t e _,i=>eF [] [t,e] i
 |.While _ b _ _,_=>b
 |.For _ _ b _ _,_=>b
 |.Try b _ _ _ _,_=>b
 |_,_=>[]
noncomputable def Xh:Stmt->List ExceptHandler
 |.Try _ a _ _ _=>a
 |_=>[]
def xn(i:Int)(x:Expr):Expr:=if i<0 then .UnaryOp .USub (.Constant (.int<|-i) (I6<|g8 x 0) (g8 x 0).pos) x.pos else .Constant (.int i) (I6 x) x.pos
def I7(v:V)(x:Expr):Expr:=match v with
 |.none=>.Constant .none (I6 x) x.pos
 |.bool b=>.Constant (.bool b) (I6 x) x.pos
 |.int i=>xn i x
 |.str t=>.Constant (.str (eX t)) (I6 x) x.pos
 |.aF _=>rM
 |.ref _=>rM
def qM(y:Vr)(x:Expr):Expr:=.Name (an y) x.pos
def hZ(y:Vr)(a:List Expr)(x:Expr):Expr:=.Call (qM y<|g8 x 0) a [] x.pos
def BD(m:Str)(o:Expr)(a:List Expr)(x:Expr):Expr:=.Call (.Attribute o m (g8 x 0).pos) a [] x.pos
def Xi(k:Sl)(x:Expr):Expr:=match k with
 |.Ib=>.Slice none (some<|xn 60<|g8 x 0) none x.pos
 |.SO=>.Slice none (some<|xn 1<|g8 x 0) none x.pos
 |.zM=>.Slice none (some<|xn (-1)<|g8 x 0) none x.pos
 |.EK=>.Slice (some<|xn 1<|g8 x 0) none none x.pos
 |.rev=>.Slice none none (some<|xn (-1)<|g8 x 0) x.pos
def E0(p:P)(a:List Expr)(x:Expr):Expr:=match p with
 |.ck=>.Tuple a (I6 x) x.pos
 |.bb=>.List a x.pos
 |.emptyDict=>.Dict [] [] x.pos
 |.ja=>.Dict [] [] x.pos
 |.wF i b=>.Dict [some<|xn i<|g8 x 0] [.Constant (.bool b) (I6<|g8 x 1) (g8 x 1).pos] x.pos
 |.fA o=>.BinOp (eF rM a 0) (Ir o) (eF rM a 1) x.pos
 |.eW o=>.Compare (eF rM a 0) [v_ o] [eF rM a 1] x.pos
 |.attr f=>.Attribute (eF rM a 0) (dx f) x.pos
 |.sub=>.Subscript (eF rM a 0) (eF rM a 1) x.pos
 |.slice k=>.Subscript (eF rM a 0) (Xi k<|g8 x 1) x.pos
 |.operands=>.Subscript (qM .lL<|g8 x 0) (eF rM a 0) x.pos
 |.len=>hZ .len a x
 |.oR=>hZ .len [hZ .set a<|g8 x 1] x
 |.ka=>hZ .list [hZ .zip a<|g8 x 1] x
 |.iy=>hZ .list [hZ .range a<|g8 x 1] x
 |.dR=>hZ .list a x
 |.gG=>hZ .tuple a x
 |.intOf=>hZ .int a x
 |.anyOf=>hZ .any a x
 |.ke=>hZ .max a x
 |.max2=>hZ .max a x
 |.repr=>hZ .repr a x
 |.isBool=>hZ .isinstance [eF rM a 0,qM .bool<|g8 x 2] x
 |.isInt=>hZ .isinstance [eF rM a 0,qM .int<|g8 x 2] x
 |.pM c=>hZ .isinstance [eF rM a 0,qM (yv c)<|g8 x 2] x
 |.append=>rM
 |.extend=>rM
 |.pop=>rM
 |.nZ=>rM
def Af(p:P)(x:Expr):List Expr:=match p with
 |.oR|.ka|.iy=>(im<|g8 x 1).drop 1
 |.operands=>[g8 x 1]
 |.len|.dR|.gG|.intOf|.anyOf|.ke|.max2|.repr|.isBool|.isInt|.pM _=>(im x).drop 1
 |_=>im x
def Gv(p:P):List Vr:=match p with
 |.operands=>[.lL]
 |.len=>[.len]
 |.oR=>[.len,.set]
 |.ka=>[.list,.zip]
 |.iy=>[.list,.range]
 |.dR=>[.list]
 |.gG=>[.tuple]
 |.intOf=>[.int]
 |.anyOf=>[.any]
 |.ke|.max2=>[.max]
 |.repr=>[.repr]
 |.isBool=>[.isinstance,.bool]
 |.isInt=>[.isinstance,.int]
 |.pM c=>[.isinstance,yv c]
 |_=>[]
noncomputable def QJ(p:P)(n:Nat):Bool:=match p with
 |.ck|.bb=>true
 |.emptyDict|.ja|.wF _ _=>Nat.beq n 0
 |.fA _|.eW _|.sub|.ka|.max2=>Nat.beq n 2
 |.append|.extend|.pop|.nZ=>false
 |_=>Nat.beq n 1
noncomputable def cx:Expr->Bool
 |.Starred _ _=>false
 |.Slice _ _ _ _=>false
 |.Set _ _ _=>false
 |_=>true
def we:Expr->Bool
 |.Call (.Name n _) [] [] _=> !xm n "super"
 |_=>true
def Ah(a:Kn)(p:P)(b:List Expr):Bool:=QJ p b.length&&(Gv p).all (KD a)&&(match p with
 |.attr _=>we<|eF rM b 0
 |.eW o=> !behindInMarks (v_ o) (eF rM b 1)
 |_=>true)
noncomputable def Xj(p:P):Str:=match p with
 |.append=>"append"
 |.extend=>"extend"
 |_=>"pop"
noncomputable def QK(p:P)(n:Nat):Bool:=match p with
 |.append=>Nat.beq n 1
 |.extend=>Nat.beq n 1
 |.pop=>Nat.beq n 0
 |.nZ=>Nat.beq n 1
 |_=>false
def xo(o:Expr)(n:Nat)(x:Expr):Bool:=we o&&((g8 x 0).pos.endLine==x.pos.line)&&Nat.blt n 29
def sP(k:CV)(a:List Expr)(x:Expr):Expr:=match k with
 |.it=>eF rM a 0
 |.range=>hZ .range a x
 |.zip=>hZ .zip a x
 |.uz=>hZ .enumerate a x
def uL(k:CV)(x:Expr):List Expr:=match k with
 |.it=>[x]
 |_=>(im x).drop 1
def vv(a:Kn)(k:CV)(n:Nat):Bool:=match k with
 |.it=>Nat.beq n 1
 |.range=>Nat.beq n 1&&KD a .range
 |.zip=>Nat.beq n 2&&KD a .zip
 |.uz=>Nat.beq n 1&&KD a .enumerate
def h_:List Vr->List Expr->List Expr
 |[],_=>[]
 |y::a,b=>qM y (eF rM b 0)::h_ a (b.drop 1)
def Ai(t:Tg)(x:Expr):Expr:=match t with
 |.one y=>qM y x
 |.many a=>.Tuple (h_ a<|im x) (I6 x) x.pos
noncomputable def wg:List Vr->Bool
 |[]=>true
 |y::r=> !(r.contains y)&&wg r
def pS(a:Kn)(t:Tg):Bool:=match t with
 |.one y=>Mn a y
 |.many b=>b.all (Mn a)&&wg b
noncomputable def tP:NK->NameKind
 |.e9=>.local
 |.mM=>.cell
 |.iH=>.free
 |.bK=>.globalImplicit
def dc(a:List<|Vr×NK)(s:Scope):Scope:=⟨.function,a.map λp=>(an p.1,tP p.2),false,false,s.more⟩
noncomputable def jJ(a:List<|Vr×NK):Kn:=λy=>a.lookup y
noncomputable def e8(a:Kn)(b:List<|Vr×NK):List<|Vr×NK:=b.map λp=>if p.2=.iH/\a p.1=some .mM then(p.1,.mM) else p
def Xk(a:Kn)(b:Tg)(p:Vr×NK):Bool:=match p.2 with
 |.e9=>b.names.contains p.1||decide (p.1=.fO)
 |.mM=>false
 |.iH=>decide (a p.1=some .mM)||decide (a p.1=some .iH)
 |.bK=>true
def eT(c:Kn)(a:List<|Vr×NK)(b:Tg):Bool:=a.all (Xk c b)&&((b.names.all λy=>decide (a.lookup y=some .e9))&&(decide (a.lookup .fO=some .e9)||decide (a.lookup .fO=none)))
noncomputable def M8:B->Bool
 |.tt=>true
 |_=>false
noncomputable def Aj:E->Bool
 |.ay (.eW _) _=>true
 |.jE _ _=>true
 |_=>false
noncomputable def xp:Expr->Bool
 |.Compare _ _ _ _=>false
 |.UnaryOp _ _ _=>false
 |.BoolOp _ _ _=>false
 |.IfExp _ _ _ _=>false
 |.NamedExpr _ _ _=>false
 |_=>true
noncomputable def SY(a:Bool):BoolOp:=match a with
 |true=>.And
 |false=>.Or
noncomputable def Pk:V->Bool
 |.aF _=>false
 |.ref _=>false
 |_=>true
mutual
def o8:E->Expr->Expr
 |.hD v,x=>I7 v x
 |.fS g,x=>qM (F0 g) x
 |.ai y,x=>qM y x
 |.ay p d,x=>E0 p (nO d<|Af p x) x
 |.lS b d,x=>.BoolOp (SY b) (nO d<|im x) x.pos
 |.ite c t e,x=>.IfExp (QL c<|g8 x 0) (o8 t<|g8 x 1) (o8 e<|g8 x 2) x.pos
 |.comp i l k n h j,x=>.ListComp (o8 i<|g8 x 0) [⟨Ai l<|g8 x 1,sP k (nO n<|uL k<|g8 x 2)<|g8 x 2,if M8 h then[] else[QL h<|g8 x 3],0⟩] (dc j<|M7 x) x.pos
 |.call f d,x=>hZ ((Bf f).getD .aq) (nO d<|(im x).drop 1) x
 |.new c d,x=>hZ (yv c) (nO d<|(im x).drop 1) x
 |.cz o m d,x=>BD (dx m) (o8 o<|g8 (g8 x 0) 0) (nO d<|(im x).drop 1) x
 |.jE a b,x=>.Compare (o8 a<|g8 x 0) [.NotEq] [o8 b<|g8 x 1] x.pos
 |.iT p o d,x=>BD (Xj p) (o8 o<|g8 (g8 x 0) 0) (nO d<|(im x).drop 1) x
termination_by structural e=>e
def nO:Es->List Expr->List Expr
 |.nil,_=>[]
 |.cons e a,b=>o8 e (eF rM b 0)::nO a (b.drop 1)
termination_by structural e=>e
def QL:B->Expr->Expr
 |.tt,_=>rM
 |.e y,x=>o8 y x
 |.not b,x=>.UnaryOp .Not (QL b<|g8 x 0) x.pos
 |.op c a,x=>.BoolOp (SY c) (QM a<|im x) x.pos
termination_by structural e=>e
def QM:Ix->List Expr->List Expr
 |.nil,_=>[]
 |.cons b a,c=>QL b (eF rM c 0)::QM a (c.drop 1)
termination_by structural e=>e
end
mutual
def xr(d:Kn):E->Expr->Bool
 |.hD v,_=>Pk v
 |.fS g,_=>KD d<|F0 g
 |.ai y,_=>L6 d y
 |.ay p i,x=>xt d i (Af p x)&&Ah d p (nO i<|Af p x)
 |.lS _ i,x=>xt d i<|im x
 |.ite c t e,x=>QN d c (g8 x 0)&&(xr d t (g8 x 1)&&xr d e (g8 x 2))
 |.comp m l k n h j,x=>(xt d n (uL k<|g8 x 2)&&vv d k (nO n<|uL k<|g8 x 2).length)&&(eT d j l&&(pS (jJ<|e8 d j) l&&(xr (jJ<|e8 d j) m (g8 x 0)&&(M8 h||QN (jJ<|e8 d j) h (g8 x 3)))))
 |.call f i,x=>(Bf f).any (KD d)&&xt d i ((im x).drop 1)
 |.new c i,x=>KD d (yv c)&&xt d i ((im x).drop 1)
 |.cz o _ i,x=>(xr d o (g8 (g8 x 0) 0)&&xt d i ((im x).drop 1))&&xo (o8 o<|g8 (g8 x 0) 0) (nO i<|(im x).drop 1).length x
 |.jE a b,x=>(xr d a (g8 x 0)&&xr d b (g8 x 1))&& !behindInMarks .NotEq (o8 b<|g8 x 1)
 |.iT p o i,x=>(xr d o (g8 (g8 x 0) 0)&&xt d i ((im x).drop 1))&&(xo (o8 o<|g8 (g8 x 0) 0) (nO i<|(im x).drop 1).length x&&QK p (nO i<|(im x).drop 1).length)
termination_by structural e=>e
def xt(a:Kn):Es->List Expr->Bool
 |.nil,_=>true
 |.cons e b,c=>xr a e (eF rM c 0)&&xt a b (c.drop 1)
termination_by structural e=>e
def QN(a:Kn):B->Expr->Bool
 |.tt,_=>false
 |.e y,x=>xr a y x&&(Aj y||xp (o8 y x))
 |.not b,x=>QN a b<|g8 x 0
 |.op _ c,x=>QO a c<|im x
termination_by structural e=>e
def QO(a:Kn):Ix->List Expr->Bool
 |.nil,_=>true
 |.cons b c,d=>QN a b (eF rM d 0)&&QO a c (d.drop 1)
termination_by structural e=>e
end
noncomputable def M9:E->Bool
 |.comp _ _ _ _ _ _=>true
 |_=>false
noncomputable def lq:Expr->Bool
 |.ListComp _ _ _ _=>false
 |.SetComp _ _ _ _=>false
 |.DictComp _ _ _ _ _=>false
 |_=>true
def oo:Expr->Bool
 |.Tuple a _ _=>a.all cx&&(!(a.all<|constantsAlone 8)||a.all (foldedForSure 8))
 |_=>true
mutual
def Fa:S->Stmt->Stmt
 |.expr e,x=>.Expr (o8 e<|M2 x 0) x.pos
 |.ret e,x=>.Return (some<|o8 e<|M2 x 0) x.pos
 |.d_ y e,x=>.Assign [qM y<|M2 x 1] (o8 e<|M2 x 0) x.pos
 |.unpack m e,x=>.Assign [Ai (.many m)<|M2 x 1] (o8 e<|M2 x 0) x.pos
 |.ar o f e,x=>.Assign [.Attribute (o8 o<|g8 (M2 x 1) 0) (dx f) (M2 x 1).pos] (o8 e<|M2 x 0) x.pos
 |.lT g a j d e,x=>.Assign [.Tuple [.Attribute (o8 g<|g8 (g8 (M2 x 1) 0) 0) (dx a) (g8 (M2 x 1) 0).pos,.Attribute (o8 j<|g8 (g8 (M2 x 1) 1) 0) (dx d) (g8 (M2 x 1) 1).pos] (I6<|M2 x 1) (M2 x 1).pos] (o8 e<|M2 x 0) x.pos
 |.bR o i e,x=>.Assign [.Subscript (o8 o<|g8 (M2 x 1) 0) (o8 i<|g8 (M2 x 1) 1) (M2 x 1).pos] (o8 e<|M2 x 0) x.pos
 |.ifs c t e,x=>.If (QL c<|M2 x 0) (yB t<|bk x 0) (yB e<|bk x 1) x.pos
 |.iI c b,x=>.While (QL c<|M2 x 0) (yB b<|bk x 0) [] x.pos
 |.du l k h b,x=>.For (Ai l<|M2 x 0) (sP k (nO h<|uL k<|M2 x 1)<|M2 x 1) (yB b<|bk x 0) [] x.pos
 |.zN b,x=>.Try (yB b<|bk x 0) (Xh x) [] [] x.pos
termination_by structural s=>s
def yB:Ss->List Stmt->List Stmt
 |.nil,_=>[]
 |.cons s a,b=>Fa s (eF (.Pass ⟨0,0,0,0⟩) b 0)::yB a (b.drop 1)
termination_by structural s=>s
end
mutual
def Zq(a:Kn):S->Stmt->Bool
 |.expr e,x=>xr a e (M2 x 0)&&lq (o8 e<|M2 x 0)
 |.ret e,x=>xr a e<|M2 x 0
 |.d_ y e,x=>xr a e (M2 x 0)&&(Mn a y&&(M9 e||lq (o8 e<|M2 x 0)))
 |.unpack j e,x=>xr a e (M2 x 0)&&(pS a (.many j)&&(lq (o8 e<|M2 x 0)&&oo (o8 e<|M2 x 0)))
 |.ar o _ e,x=>xr a e (M2 x 0)&&xr a o (g8 (M2 x 1) 0)
 |.lT d _ f _ e,x=>xr a e (M2 x 0)&&(xr a d (g8 (g8 (M2 x 1) 0) 0)&&(xr a f (g8 (g8 (M2 x 1) 1) 0)&&(lq (o8 e<|M2 x 0)&&oo (o8 e<|M2 x 0))))
 |.bR o i e,x=>xr a e (M2 x 0)&&(xr a o (g8 (M2 x 1) 0)&&xr a i (g8 (M2 x 1) 1))
 |.ifs c t e,x=>QN a c (M2 x 0)&&(yC a t (bk x 0)&&yC a e (bk x 1))
 |.iI c b,x=>QN a c (M2 x 0)&&yC a b (bk x 0)
 |.du g k h b,x=>pS a g&&(xt a h (uL k<|M2 x 1)&&(vv a k (nO h<|uL k<|M2 x 1).length&&yC a b (bk x 0)))
 |.zN b,x=>yC a b<|bk x 0
termination_by structural s=>s
def yC(a:Kn):Ss->List Stmt->Bool
 |.nil,_=>true
 |.cons s b,c=>Zq a s (eF (.Pass ⟨0,0,0,0⟩) c 0)&&yC a b (c.drop 1)
termination_by structural s=>s
end
theorem wh(e:one a b=some r):∃v,a=[v]/\b v=some r:=by
 induction a using da with
 |nil=>exact Ku e
 |cons v a=>induction a using da with
  |nil=>exact(a_ v z e)
  |cons _ _=>exact Ku e
theorem Xl[Decidable c](e:(if c then Option.none else some a)=some r):¬c/\a=r:=by
 by_cases q:c;·rw[if_pos q] at e;cases e
 ·rw[if_neg q] at e;exact⟨q,me e⟩
theorem Xm[Decidable c](e:(if c then Option.none else a)=some r):¬c/\a=some r:=by
 by_cases q:c;·rw[if_pos q] at e;cases e
 ·rw[if_neg q] at e;exact⟨q,e⟩
theorem p(h:(a&&b)):a/\b:=nl.mp h
section
variable{O:Program}{w:World}{U:Heap}{Y:Cl->Addr}{A:Around}{s:Shared}{J:cr}{h:Hp}{L:Env}
theorem j5{E:f9}(h:∀c b,a (.int i c) {s with toks:=b}):wpAny (model O w) A (eval (xn i x) L) a E s:=by
 unfold xn;split;·refine wpAny_UnaryOp (show wpAny _ _ (eval (.Constant (.int _) _ _) L) _ _ s fromλ_ _ _=>P.neg_int ?_);rw[Int.neg_neg];exact h _ _
 ·exactλ_ _ _=>h _ _
theorem sQ{f k c:Value}{B d z:Option Int}(X:t O w U Y J h s.heap)(e:mT a4 h=some a2)(r:aL (u J s.heap) a4 x)(D:IsPart f B)(v:IsPart k d)(o:IsPart c z)(C:z≠some 0)
 (q:∀a3 i,∃T,subscripted sl false a3 i=operate T (getItem a3 i))
 (p:∀g a1,aC g a2 a1->∃b,slicePick a1.toArray B d z=b.toArray/\aC g j b)(n:j.length<=a2.length):
 wpAny (model O w) A (subscriptTail value sl x<|.ref s.heap.objs.size) (l O w U Y J h s<|.new<|.list j) dk {s with heap:=s.heap.push {cls:=.type "slice",data:=.fields #[f,k,c]},toks:=a5}:=by
 refine bS (rq e) λa y m=>?_;clear e;subst y;obtain rfl:=r.cq;exact wn X m D v o C q p n
theorem I8(X:t O w U Y J h s.heap)(e:pp n T h=some r)(a:aL (u J s.heap) T x):
 wpAny (model O w) A (eval (Xi n a1) L) (λi d=>wpAny (model O w) A (subscriptTail value (Xi n a1) x i) (l O w U Y J h s r) dk d) dk s:=by
 cases n with
 |Ib=>refine oM e λf c b=>?_;clear e;subst b;exact wpAny_Slice<|cw<|j5 λk v=>cw<|sQ X c a .none (.int _ _) .none Ku (λo i=>⟨_,z⟩) (λg p a=>zc (b:=60) a)<|List.length_take_le' _ _
 |SO=>refine oM e λf c b=>?_;clear e;subst b;exact wpAny_Slice<|cw<|j5 λk v=>cw<|sQ X c a .none (.int _ _) .none Ku (λo i=>⟨_,z⟩) (λg p a=>zc (b:=1) a)<|List.length_take_le' _ _
 |rev=>refine oM e λf c b=>?_;clear e;subst b;exact wpAny_Slice<|cw<|cw<|j5 λk v=>sQ X c a .none .none (.int _ _) m (λo i=>⟨_,z⟩) (λg p a=>(a_ _ ((yA _).trans z) a.reverse))<|Nat.le_of_eq List.length_reverse
 |EK=>refine oB (id e) λf j e=>?_;obtain rfl:=V.Dk j;refine oA (Xl e) λq b=>?_;clear e;clear e;subst b;exact wpAny_Slice<|j5 λk v=>cw<|cw<|zb X a (λy=>q<|by rw[y];rfl) (λo i=>⟨_,z⟩)<|.inl<|a_ _ z rfl
 |zM=>refine oB (id e) λf j e=>?_;obtain rfl:=V.Dk j;clear j;refine oA (Xl e) λq b=>?_;clear e;clear e;subst b;exact wpAny_Slice<|cw<|j5 λk v=>cw<|zb X a (λy=>q<|by rw[y];rfl) (λo i=>⟨_,z⟩)<|.inr<|a_ _ z rfl
end
def Gw:List<|Vr×Value:=[(.range,.type "range"),(.len,.builtin "len"),(.list,.type "list"),(.zip,.type "zip"),(.set,.type "set"),(.tuple,.type "tuple"),(.int,.type "int"),(.bool,.type "bool"),
 (.any,.builtin "any"),(.repr,.builtin "repr"),(.isinstance,.builtin "isinstance"),(.max,.builtin "max"),(.enumerate,.type "enumerate")]
structure p8(w:World)(K:Frag)(Y:Cl->Addr)(h:Fn->Addr)(U:Heap)(e i:Str->Option Value):Prop where
 KX:K.In U
 lim:U.NoLimit
 g:U.Ns mainGlobals e
 b:U.Ns builtinsNs i
 fn:∀f x,Bf f=some x->e (an x)=some (.ref<|h f)
 cl:∀c,e (an<|yv c)=some (.ref<|Y c)
 gl:∀g,∃j h,SP g=.str h/\e (an<|F0 g)=some (.str (eX h) j)
 bl:∀a∈Gw,e (an a.1)=none/\i (an a.1)=some a.2
 op:∃oa es n,e (an .lL)=some (.ref oa)/\K.lookup oa=some ⟨.type "dict",none,.dict es n,#[]⟩/\KeysLit w.params es.toList/\
  ∀j vs,oS j=some vs->∃r xs k,findBy Value.isStrOf es (eX j)=some (.ref r)/\K.lookup r=some ⟨.type "tuple",none,.seq (List.toArray xs) k,#[]⟩/\(∀g,aC g vs xs)/\vs.length<=1000000
 cls:∀c,ES K Y h c
structure eK(b:Env)(L:Kn):Prop where
 kind:∀a k,L a=some k->b.kindOf (an a)=some (tP k)
 cells:∀a,L a=some .mM\/L a=some .iH->(b.cells.lookup<|an a).isSome=true
theorem BE{n:Nat}(e:an ⟨n⟩=a)(h:(!Nat.beq b.n_ n)):(an b==a)=false:=by rw[nz];intro q;have:=jc b ⟨n⟩<|q.trans e.symm;clear q;subst this;rw[Nat.beq_refl] at h;cases h
theorem uM(h:wc a):(an a==("__debug__":Str))=false:=BE (n:=0x5f5f67756265645f5f) (by kernel_rfl) (p h).1
theorem yD(h:wc a):(an a==("__classdict__":Str))=false:=BE (n:=0x5f5f746369647373616c635f5f) (by kernel_rfl) (p h).2
def mC(M:Model)(A:Around)(H:Env):List Expr->(List Value->Shared->Prop)->Shared->Prop
 |[],Q,s=>Q [] s
 |x::e,Q,s=>wpAny M A (eval x H) (λv a=>mC M A H e (λc b=>Q (v::c) b) a) dk s
theorem cE{A:Around}:∀{n:List Expr}{Q a:List Value->Shared->Prop}{s:Shared},mC j A i n Q s->(∀c b,Q c b->a c b)->mC j A i n a s:=λ{f}=>by
 induction f with
 |nil=>intro _ _ _ h k;exact k _ _ h
 |cons m _ l=>intro _ _ _ h k;exact d h (λ_ _ g=>l g λ_ _=>k _ _) λ_ _ e=>e
theorem tQ{x:Expr}(h:cx x):starEach (x::xs) a=(false,eval x a)::starEach xs a:=by cases x<;>first|rfl|cases h
theorem mD{b:List Expr}(h:b.all cx):(backTo pos<|starEach b c).any (·.1)=false:=by
 induction b with
 |nil=>rfl
 |cons x b a=>rw[tQ (p h).1];exact a (p h).2
section
variable{M:Model}{A:Around}{s:Shared}{C:Env}{f:Pos}
theorem qN:∀{Q:List Value->Shared->Prop}{s:Shared},g.all cx->mC M A C g Q s->wpAny M A (spliced<|backTo f<|starEach g C) Q dk s:=by
 induction g with
 |nil=>exactλ_ h=>wpAny_items_nil h
 |cons x g i=>exactλa h=>wpAny_items_cons (d h (λv b c=>i (p a).2 c) λ_ _ e=>e)<|tQ (p a).1
theorem j6(b:e.all cx)(h:mC M A C e (λc a=>g ⟨c,[]⟩ a) s):wpAny M A (evalArgs i true (backTo f<|starEach e C) []) g dk s:=by
 induction e using da with
 |nil=>exact PyProof.Rows.evalArgs_none h
 |cons x e=>haveI k:=qN (f:=f) b h;rw[tQ (p b).1] at k⊢;exact Calls.evalArgs_plain k
theorem uN{E:f9}(h:wpAny M A (eval (.Name n e) C) (λc a=>wpAny M A (callWith f c [] (backTo f<|starEach args C) []) b E a) E s):
 wpAny M A (eval (.Call (.Name n e) args [] f) C) b E s:=Call_ h
end
section
variable{O:Program}{w:World}{K:Frag}{Y:Cl->Addr}{r:Fn->Addr}{U:Heap}{T i:Str->Option Value}{A:Around}{s:Shared}{J:cr}{h:Hp}{C:Env}{j:aV}{L:Kn}{f:Pos}
theorem t.in(G:p8 w K Y r U T i)(X:t O w U Y J h s.heap):K.In s.heap:=λa o e=>X.base _ _<|G.KX a o e
theorem tR{E:f9}(G:p8 w K Y r U T i)(N:aM U C J j s.heap)(X:t O w U Y J h s.heap)(k:eK C L)(a:KD L n)(b:T (an n)=some g)(h:c g s):
 wpAny (model O w) A (eval (.Name (an n) e) C) c E s:=
 Name_function_global N.kind (k.kind _ _<|of_decide_eq_true (p a).1) (loadGlobal_global (N.globals▸G.g.keeps X.base) b h)<|uM (p a).2
theorem BG{E:f9}(G:p8 w K Y r U T i)(N:aM U C J j s.heap)(X:t O w U Y J h s.heap)(k:eK C L)(b:KD L n)(a:(n,g)∈Gw)(h:c g s):
 wpAny (model O w) A (eval (.Name (an n) e) C) c E s:=
 Name_function_global N.kind (k.kind _ _<|of_decide_eq_true (p b).1) (loadGlobal_builtin (N.globals▸G.g.keeps X.base) (G.bl _ a).1 (N.builtins▸G.b.keeps X.base) (G.bl _ a).2 h)<|uM (p b).2
theorem I9{E:f9}(N:aM U C J j s.heap)(k:eK C L)(a:L6 L a1)(e:j a1=some x)(c:∀a2,aL (u J s.heap) x a2->g a2 s):
 wpAny (model O w) A (eval (.Name (an a1) n) C) g E s:=by
 refine wpAny_Name (MD N e ?_ (yD (p a).2) c)<|uM (p a).2;haveI b:=(p a).1;simp only[Bool.or_eq_true,decide_eq_true_eq] at b;exact b.imp (k.kind _ _)<|Or.imp (k.kind _ _)<|k.kind _ _
noncomputable def Pl:Value->Bool
 |.builtin _=>true
 |.type _=>true
 |_=>false
theorem kL{y:Vr}{v:Value}{m:List Expr}{q:Pos}{Q:f9}(G:p8 w K Y r U T i)(N:aM U C J j s.heap)(X:t O w U Y J h s.heap)(k:eK C L)(g:KD L y)(c:m.all cx)(e:(y,v)∈Gw)
 (h:mC (model O w) A C m (λn b=>wpAny (model O w) A (call v n) Q dk b) s):wpAny (model O w) A (eval (.Call (.Name (an y) q) m [] f) C) Q dk s:=by
 refine uN<|BG G N X k g e ?_;haveI l:=mD (c:=C) (pos:=f) c;haveI a:Pl v:=sS.mp (show Gw.all (λp=>Pl p.2)=true from rfl) _ e;clear e;cases v with
 |builtin o=>exact Calls.callWith_builtin l<|j6 c h
 |type d=>exact PySem.callWith_type l<|j6 c h
 |_=>cases a
end
section
variable{O:Program}{w:World}{K:Frag}{Y:Cl->Addr}{j:Fn->Addr}{U:Heap}{x C:Str->Option Value}{A:Around}{s:Shared}{J:cr}{h:Hp}{T:Env}{n:aV}{L:Kn}
theorem vw(g:we r)(a:Str)(T:Env)(d:Sem Value):attributeBase r a T d=d:=by
 induction r using Expr.casesOn with
 |Call f b i k=>
  induction f using Expr.casesOn with
  |Name l p=>
   induction b using da with
   |cons=>rfl
   |nil=>
    induction i using da with
    |cons=>rfl
    |nil=>
     haveI c:(l !=("super":Str)):=bne_iff_ne.mpr λe=>by subst e;exact absurd g (by decide+kernel:¬(!xm ("super":Str) ("super":Str))=true)
     dsimp only[attributeBase];rw[c];rfl
  |_=>rfl
 |_=>rfl
inductive TS{α:Type}(g:zT)(f:V->Option α)(r:α):List Value->Prop
 |mk {v:V} {a:Value} (h:aL g v a) (e:f v=some r):TS g f r [a]
inductive TU{α:Type}(g:zT)(f:V->V->Option α)(r:α):List Value->Prop
 |mk {v j:V} {a b:Value} (h:aL g v a) (k:aL g j b) (e:f v j=some r):TU g f r [a,b]
inductive Zr{α:Type}(g:zT)(f:V->Option α)(r:α)(a:Value):Prop
 |mk {v:V} (h:aL g v a) (e:f v=some r):Zr g f r a
inductive Zs{α:Type}(g:zT)(f:V->V->Option α)(r:α)(a b:Value):Prop
 |mk {v j:V} (h:aL g v a) (k:aL g j b) (e:f v j=some r):Zs g f r a b
theorem p9(a:aC g b c)(e:one b i=some r):TS g i r c:=by
 cases a with
 |nil=>cases e
 |cons h t=>cases t with
  |nil=>exact⟨h,e⟩
  |cons _ _=>cases e
theorem I_(a:aC g b c)(e:wE b i=some r):TU g i r c:=by
 cases a with
 |nil=>cases e
 |cons h t=>obtain⟨k,e⟩:=p9 t e;exact⟨h,k,e⟩
theorem TV(a:aC g b [i])(e:one b c=some r):Zr g c r i:=by
 cases p9 a e with
 |mk h e=>exact⟨h,e⟩
theorem Xn{y z:Value}{f:V->V->Option a}{r:a}(b:aC g c [y,z])(e:wE c f=some r):Zs g f r y z:=by
 cases I_ b e with
 |mk h k e=>exact⟨h,k,e⟩
theorem Xo{a:Type}{g:zT}{b:List V}{y:Value}{f:V->Option a}{r:a}(c:aC g b [y])(e:one b f=some r):∃v,b=[v]/\aL g v y/\f v=some r:=by
 refine bS (wh e) ?_;rintro v rfl e;cases c with
 |cons h _=>exact(g6 v z h e)
theorem Ee{a:List Expr}(h:Nat.beq a.length 0):a=[]:=List.length_eq_zero_iff.mp<|Nat.eq_of_beq_eq_true h
theorem xu{xs:List Expr}(h:Nat.beq xs.length 1):∃a,xs=[a]:=List.length_eq_one_iff.mp<|Nat.eq_of_beq_eq_true h
theorem M_{c:List Expr}(h:Nat.beq c.length 2):∃a b,c=[a,b]:=by
 cases c with
 |nil=>cases h
 |cons a c=>refine oE (xu (xs:=c) h) ?_;clear h;rintro b rfl;exact(H3 a b z)
theorem IZ(i:Nat)(h:Gw[i]?=some a):a∈Gw:=List.mem_of_getElem? h
inductive sR(O:Program)(w:World)(U:Heap)(Y:Cl->Addr)(T:Env)(f:P)(Q:f9)(ys:List Value)(s₁:Shared):Prop
 |mk {J:cr} {h:Hp} {n:aV} {vs:List V} {r:R} (X:t O w U Y J h s₁.heap) (c:aM U T J n s₁.heap) (hv:aC (u J s₁.heap) vs ys) (e:ay f vs h=some r) (b:∀a s',l O w U Y J h s₁ r a s'->Q a s'):sR O w U Y T f Q ys s₁
theorem vz(X:t O w U Y J h s.heap)(r:aC (u J s.heap) a b)(c:fi a.length):b.length<=sizeLine/\
 l O w U Y J h s (.val<|.aF a) (.ref s.heap.objs.size) {s with heap:=s.heap.push {cls:=.type "tuple",data:=.seq b.toArray}}:=by
 have:a.length<1000000:=of_decide_eq_true c;exact⟨by rw[<-r.length];simp [sizeLine];lia,l.wW (e:=s.toks) X r<|Nat.le_of_lt ‹_›⟩
theorem xv(X:t O w U Y J h s.heap)(r:aC (u J s.heap) a b)(c:fi a.length):b.length<=sizeLine/\
 l O w U Y J h s (.new<|.list a) (.ref s.heap.objs.size) {s with heap:=s.heap.push {cls:=.type "list",data:=.seq b.toArray}}:=by
 have:a.length<1000000:=of_decide_eq_true c;exact⟨by rw[<-r.length];simp [sizeLine];lia,l.newList (e:=s.toks) X r<|Nat.le_of_lt ‹_›⟩
theorem l.E1(X:t O w U Y J h s.heap)(a:eQ O w U Y (sE J s.heap.objs.size) (s.heap.push b) s.heap.objs.size c):
 l O w U Y J h s (.new c) (.ref s.heap.objs.size) {s with heap:=s.heap.push b,toks:=e}:=
 (l7 s.heap.objs.size (sE J s.heap.objs.size) z (X.oX<|ct _) (X.add (l8 _ _) (ct _) (by rw[pu];exact Nat.lt_succ_self _) a)
  (sG (l8 _ _) (ct _) (by rw[pu];exact ox _ _)<|eP z rfl rfl))
theorem BH{d D:Expr}(G:p8 w K Y j U x C)(X:t O w U Y J h s.heap)(e:oS a2=some a1)(i:aL (u J s.heap) (.str a2) a3)(N:cx D):
 ∃c,x (an .lL)=some (.ref c)/\wpAny (model O w) A (subscriptTail d D (.ref c) a3) (l O w U Y J h s<|.val<|.aF a1) dk s:=by
 refine dB G.op λc Q B m o p v=>dB (v a2 a1 e) λr W k y f z F=>?_;refine oE i.str_inv ?_;clear i;rintro a rfl;refine(a_ c m ?_);haveI g:=mapOf_K (prog:=O) (X.in G) o p;refine tail_any (ops:=[.ref c,.str (eX a2) a]) g.typeIs slot_dict_getitem.lookup (wpAny_getItem_of (strKind_is O w _ a) g y ?_) (by cases D<;>first|rfl|cases N);haveI E:=X.in G _ _ f;haveI M:J r=none:=by
  cases q:J r with
  |none=>rfl
  |some b=>exact absurd (X.owned _ _ q).1 (Nat.not_le.mpr<|ip<|G.KX _ _ f)
 exact l.toks X<|.aF (bV.mpr ⟨M,E⟩) (z _) F
theorem Ja(k:A.units+700<cLine)(h:sR O w U Y T (.eW a1) r [a,b] s):wpAny (model O w) A (compareOp (v_ a1) a b) r dk s:=by obtain⟨X,N,i,e,q⟩:=h;obtain⟨f,g,e⟩:=Xn i e;refine oM e ?_;clear e;clear e;rintro b c rfl;exact d (Qp X c f g<|by lia) q λ_ _ y=>y
theorem o9(h:wpAny (model O w) A (eval r T) (λg a=>wpAny (model O w) A (eval i T) (λe b=>wpAny (model O w) A (subscriptTail r i g e) c dk b) dk a) dk s):
 wpAny (model O w) A (eval (.Subscript r i pos) T) c dk s:=Subscript_ h
theorem Gx(h:cx sl)(o i:Value):subscripted sl false o i=operate [o,i] (getItem o i):=by cases sl<;>first|rfl|cases h
theorem Jb(X:t O w U Y J h s.heap)(e:zn a1 i h=some r)(b:aL (u J s.heap) a1 a2):∃d v,s.TypeIs a2 d/\typeLookup (.type d) "__getitem__"=pure (some<|.builtin v):=by
 cases a1<;>try (cases e;done)
 ·obtain⟨o,k,l,q,_⟩:=b.EQ;exact(fJ ("tuple") _ (a_ _ q.uw z) slot_tuple_getitem.lookup)
 ·obtain rfl:=b.cq;refine oB e λc a e=>?_;induction c using kI with
  |list f=>refine c_ (X.list a) λ_ _ k l p _=>?_;exact(fJ ("list") _ p.isList.typeIs slot_list_getitem.lookup)
  |dict lk g=>refine kG (X.dict a) λ_ _ m p _=>?_;exact(fJ ("dict") _ p.typeIs slot_dict_getitem.lookup)
  |dg g=>refine kG (X.dg a) λ_ _ m p _=>?_;exact(fJ ("dict") _ p.typeIs slot_dict_getitem.lookup)
  |_=>exact Ku e
theorem zd(e:jj g h=some c):ch (kg g c) h:=by
 cases zV e with
 |aF=>exactλ_ h=>absurd h i3
 |list a=>exactλp b=>by obtain rfl:=eL.mp b;exact a
theorem y8{c b:List V}(e:jj i h=some c)(f:jj a h=some b):ch (kg i c++kg a b) h:=λp g=>(mx.mp g).elim (zd e p)<|zd f p
theorem Pm{p:P}{y:Vr}{v:Value}{m:List Expr}{q o:Pos}{Q:f9}(G:p8 w K Y j U x C)(N:aM U T J n s.heap)(X:t O w U Y J h s.heap)(k:eK T L)(a:m.all cx)(z:KD L y)(b:(y,v)∈Gw)
 (h:mC (model O w) A T m (sR O w U Y T p Q) s)
 (f:∀{s:Shared}{J h i c r},t O w U Y J h s.heap->aC (u J s.heap) i c->ay p i h=some r->wpAny (model O w) A (call v c) (l O w U Y J h s r) dk s):
 wpAny (model O w) A (eval (.Call (.Name (an y) q) m [] o) T) Q dk s:=by
 refine kL G N X k z a b<|cE h λc g a=>?_;obtain⟨X,N,b,e,q⟩:=a;exact d (f X b e) q λ_ _ y=>y
theorem QP(G:p8 w K Y j U x C)(N:aM U T J n s.heap)(X:t O w U Y J h s.heap)(k:eK T L)(c:xs.all cx)(m:[a',af].all<|KD L)(g:(a',a7)∈Gw)(v:(af,a)∈Gw)
 (h:mC (model O w) A T xs (sR O w U Y T a5 a2) s)
 (f:∀{s:Shared}{J h a4 i r},t O w U Y J h s.heap->aC (u J s.heap) a4 i->ay a5 a4 h=some r->wpAny (model O w) A (call a i) (λa' b=>wpAny (model O w) A (call a7 [a']) (l O w U Y J h s r) dk b) dk s):
 wpAny (model O w) A (eval (.Call (.Name (an a') a6) [.Call (.Name (an af) a1) xs [] a3] [] pos) T) a2 dk s:=by
 refine kL G N X k (p m).1 z g<|kL G N X k (p (p m).2).1 c v (cE h λi b c=>?_);obtain⟨X,N,g,e,a6⟩:=c;exact d (f X g e) (λa' o q=>d q a6 λ_ _ a'=>a') λ_ _ a'=>a'
theorem TX{y:P}{D:Vr}{b:Value}{a:Expr}{q B o:Pos}{Q:f9}(G:p8 w K Y j U x C)(N:aM U T J n s.heap)(X:t O w U Y J h s.heap)(k:eK T L)(g:cx a)(i:[Nm.isinstance,D].all<|KD L)(m:(D,b)∈Gw)
 (h:wpAny (model O w) A (eval a T) (λa2 c=>sR O w U Y T y Q [a2] c) dk s)
 (f:∀{s:Shared}{J h a1 a2 r},t O w U Y J h s.heap->aC (u J s.heap) a1 [a2]->ay y a1 h=some r->wpAny (model O w) A (call (.builtin "isinstance") [a2,b]) (l O w U Y J h s r) dk s):
 wpAny (model O w) A (eval (.Call (.Name (an .isinstance) q) [a,.Name (an D) o] [] B) T) Q dk s:=by
 refine kL G N X k (p i).1 (nl.mpr ⟨g,z⟩) (IZ 10 z) (d h (λa2 c g=>?_) λ_ _ a2=>a2);obtain⟨X,N,v,e,q⟩:=g;exact BG G N X k (p (p i).2).1 m (d (f X v e) q λ_ _ a2=>a2)
theorem DI(X:t O w U Y J h s.heap)(k:∀a6 a2,l O w U Y J h s (.new<|.dict false [(i,.bool b)]) a6 a2->a1 a6 a2):
 wpAny (model O w) A (eval (.Dict [some<|xn i a5] [.Constant (.bool b) a3 a4] a7) T) a1 dk s:=by
 refine wpAny_Dict_pairs (knd:=intKind O w) (pairs:=[(eval (xn i a5) T,do let v<-eval (.Constant (.bool b) a3 a4) T;standAt a7;pure v)]) z nofun (by simp) ?_;refine o<|j5 (i:=i) λa q=>o<|wpAny_holding<|o<|wpAny_Constant_bool<|o<|wpAny_standAt<|cw<|o<|wpAny_holding<|cw<|cw<|(g6 ([(i,.bool b)]) (eP (by simp [intKind,Value.isInt]) z trivial) (Heap.DictOf.new _) λc m f=>k _ _ ?_);haveI g:Heap.ExtBut s.heap.objs.size s.heap c:=λb p r e=>f.extBut b p r<|mj _ e;haveI d:c.objs.size=s.heap.objs.size+1:=f.1.trans<|pu _ _;exact(l7 s.heap.objs.size (sE J s.heap.objs.size) z (X.oX<|ct _) (X.add g (ct _) (by rw[d];exact Nat.lt_succ_self _)<|vm (if_pos z) (by simp) _ m<|.cons (.bool b) .nil)
  (sG g (ct _) (by rw[d];exact Nat.le_succ _)<|eP z rfl rfl))
theorem Gy{H:P}{xs:List Expr}{Q:f9}(hh:A.handled=none)(hu:A.units+700<cLine)(G:p8 w K Y j U x C)(N:aM U T J n s.heap)(X:t O w U Y J h s.heap)(k:eK T L)
 (v:xs.all cx)(E:Ah L H xs)(h:mC (model O w) A T xs (sR O w U Y T H Q) s):wpAny (model O w) A (eval (E0 H xs a1) T) Q dk s:=by
 haveI W:=(p (p E).1).1;haveI on:=(p (p E).1).2;replace E:=(p E).2;induction H using P.casesOn with
 |ck=>refine wpAny_Tuple<|qN v<|cE h λys M v=>?_;obtain⟨X,N,g,e,q⟩:=v;refine oA (hM e) ?_;clear e;rintro hl rfl;exact⟨(vz X g hl).1,q _ _ (vz X g hl).2⟩
 |bb=>refine wpAny_List<|qN v<|cE h λys M v=>?_;obtain⟨X,N,g,e,q⟩:=v;refine oA (hM e) ?_;clear e;rintro hl rfl;exact⟨(xv X g hl).1,q _ _ (xv X g hl).2⟩
 |emptyDict=>clear v E;obtain rfl:=Ee W;obtain⟨X,N,g,e,q⟩:=h;refine oA (hM e) ?_;clear e;rintro _ rfl;exact wpAny_Dict_empty<|q _ _<|l.E1 (e:=s.toks) X<|vm (if_pos z) (by simp) ([]) (Heap.DictOf.new _) .nil
 |ja=>clear v E;obtain rfl:=Ee W;obtain⟨X,N,g,e,q⟩:=h;refine oA (hM e) ?_;clear e;rintro _ rfl;exact wpAny_Dict_empty<|q _ _<|l.E1 (e:=s.toks) X<|Dd (if_pos z) (by simp) ([]) (Heap.DictOfH.new _) .nil<|rW _
 |wF i b=>clear v E;obtain rfl:=Ee W;obtain⟨X,N,g,e,q⟩:=h;refine oA (hM e) ?_;clear e;rintro _ rfl;exact DI X q
 |fA E=>refine vP (M_ W) ?_;clear v E W;rintro a b rfl;refine wpAny_BinOp<|d h (λa M bh=>d bh (λb Z cf=>?_) λ_ _ y=>y) λ_ _ y=>y;obtain⟨X,N,g,e,q⟩:=cf;obtain⟨m,h2,S⟩:=Xn g e;exact d (Qo X S m h2<|by lia) q λ_ _ y=>y
 |eW c=>refine vP (M_ W) ?_;clear v W;rintro a b rfl;exact wpAny_Compare1 (d h (λa M bh=>d bh (λb Z cf=>Ja hu cf) λ_ _ y=>y) λ_ _ y=>y)<|Bool.not_eq_true' _▸E
 |attr f=>refine oE (xu W) ?_;clear v W;rintro a rfl;show wpAny _ _ (eval (.Attribute a (dx f) a1.pos) T) _ _ _;rw[arm_eval_Attribute,vw (r:=a) E];refine o<|d h (λa M bh=>o<|wpAny_standAt<|o<|wpAny_holding ?_) λ_ _ y=>y;obtain⟨X,N,g,e,q⟩:=bh;obtain⟨m,S⟩:=TV g e;refine oM S ?_;clear S e;rintro r F rfl;exact d (MM (X.in G) G.cls X F m) (λy s' H=>o<|wpAny_letTemporaryGo<|cw<|q y s' H) λ_ _ y=>y
 |sub=>refine vP (M_ W) ?_;clear E W;rintro a b rfl;refine o9<|d h (λa M bh=>d bh (λb Z cf=>?_) λ_ _ y=>y) λ_ _ y=>y;obtain⟨X,N,g,e,q⟩:=cf;obtain⟨m,h2,S⟩:=Xn g e;refine oM S ?_;clear S e;rintro r F rfl;exact iB (Jb X F m) λu id hT hl=>tail_any (ops:=[_,_]) hT hl (d (Qq X F m h2<|by lia) q λ_ _ y=>y)<|Gx (p (p v).2).1 _ _
 |slice sk=>refine oE (xu W) ?_;clear E v W;rintro a rfl;refine o9<|d h (λa M bh=>?_) λ_ _ y=>y;obtain⟨X,N,g,e,q⟩:=bh;obtain⟨m,S⟩:=TV g e;exact d (I8 X S m) (λi Z cf=>d cf q λ_ _ y=>y) λ_ _ y=>y
 |operands=>refine oE (xu W) ?_;clear E;rintro a rfl;refine qE (id G.op) λW es D ho _=>o9<|tR G N X k (p on).1 ho (d h (λa M bh=>?_) λ_ _ y=>y);obtain⟨X,N,g,e,q⟩:=bh;obtain⟨m,S⟩:=TV g e;refine oB S λI et e2=>?_;clear S;obtain rfl:=V.Qk et;refine oM e2 ?_;clear e2 e;rintro us F rfl;obtain⟨Wm,sJ,hw⟩:=BH (A:=A) G X F m (p v).1;obtain rfl:=Value.ref.inj<|me<|ho.symm.trans sJ;exact d hw q λ_ _ y=>y
 |len=>exact Pm G N X k v (p on).1 (IZ 1 z) h λX g e=>by obtain⟨m,S⟩:=p9 g e;refine oM S ?_;clear S e;rintro D F rfl;exact Qs X F m
 |oR=>exact QP G N X k v on (IZ 1 z) (IZ 4 z) h λX g e=>by obtain⟨m,S⟩:=p9 g e;refine oB S λus eu e2=>?_;clear S;refine bS (rq eu) ?_;clear eu;rintro a rfl F;refine oA (hM e2) ?_;clear e e2;rintro hc rfl;clear g;obtain rfl:=m.cq;exact Gq hh X F hc
 |ka=>exact QP G N X k v on (IZ 2 z) (IZ 3 z) h λX g e=>by obtain⟨m,h2,S⟩:=I_ g e;refine oB S λus F e2=>?_;clear S;refine oM e2 ?_;clear e2 e;rintro ws eb rfl;exact DD hh X F eb m h2<|y8 F eb
 |iy=>exact QP G N X k v on (IZ 2 z) (IZ 0 z) h λX g e=>by obtain⟨m,S⟩:=p9 g e;refine oB S λD en e2=>?_;clear S;obtain rfl:=V.fB en;refine oA (hM e2) ?_;clear e e2;rintro hc rfl;exact d (Ab hh X (Jh hc).1 (Jh hc).2 m) (λy Z cf=>d cf.2.2 (λy s' H=>l.eA cf.2.1 H) λ_ _ y=>y) λ_ _ y=>y
 |dR=>exact Pm G N X k v (p on).1 (IZ 2 z) h λX g e=>by obtain⟨m,S⟩:=p9 g e;refine oM S ?_;clear S e;rintro R F rfl;exact Gn hh X F m
 |gG=>exact Pm G N X k v (p on).1 (IZ 5 z) h λX g e=>by obtain⟨m,S⟩:=p9 g e;refine oM S ?_;clear S e;rintro us eu rfl;refine bS (rq eu) ?_;clear eu;rintro a rfl F;clear g;obtain rfl:=m.cq;exact Dr X F
 |intOf=>exact Pm G N X k v (p on).1 (IZ 6 z) h λX g e=>by obtain⟨m,S⟩:=p9 g e;refine oM S ?_;clear S e;rintro b eb rfl;obtain rfl:=V.MG eb;exact IF X m
 |anyOf=>exact Pm G N X k v (p on).1 (IZ 8 z) h λX g e=>by obtain⟨m,S⟩:=p9 g e;refine oB S λus eu e2=>?_;clear S;refine bS (rq eu) ?_;clear eu;rintro a rfl F;refine oM e2 ?_;clear e2 e;rintro bs eb rfl;clear g;obtain rfl:=m.cq;exact IH hh X F eb
 |ke=>
  exact Pm G N X k v (p on).1 (IZ 11 z) h λX g e=>by
   obtain⟨m,S⟩:=p9 g e;refine oB S λa ev e2=>?_;clear S;obtain rfl:=V.uH ev;refine oB e2 λc F e3=>?_;clear e2;refine oB e3 λbo ek e4=>?_;clear e3;refine oM e4 ?_;clear e4 e;rintro i ei rfl;clear g;obtain rfl:=m.cq;induction c using kI with
   |dict lk us=>cases ek;exact Dz hh X F ei
   |_=>exact Ku ek
 |max2=>exact Pm G N X k v (p on).1 (IZ 11 z) h λX g e=>by obtain⟨m,h2,S⟩:=I_ g e;refine oB S λi ei e2=>?_;clear S;refine oM e2 ?_;clear e2 e;rintro B ej rfl;obtain rfl:=V.fB ei;obtain rfl:=V.fB ej;exact MR hh X m h2
 |repr=>exact Pm G N X k v (p on).1 (IZ 9 z) h λX g e=>by obtain⟨m,S⟩:=p9 g e;refine oM S ?_;clear S e;rintro I F rfl;exact MQ X F m
 |isBool=>refine oE (xu W) ?_;clear E W;rintro a rfl;exact TX G N X k (p v).1 on (IZ 7 z) h λX g e=>by obtain⟨m,S⟩:=TV g e;refine oM S ?_;clear S e;rintro b F rfl;exact(yZ X F m).1
 |isInt=>refine oE (xu W) ?_;clear E W;rintro a rfl;exact TX G N X k (p v).1 on (IZ 6 z) h λX g e=>by obtain⟨m,S⟩:=TV g e;refine oM S ?_;clear S e;rintro b F rfl;exact(yZ X F m).2
 |pM c=>refine oE (xu W) ?_;clear E W;rintro a rfl;refine kL G N X k (p on).1 (nl.mpr ⟨(p v).1,z⟩) (IZ 10 z) (d h (λy M v=>?_) λ_ _ y=>y);obtain⟨X,N,g,e,q⟩:=v;cases e
 |append=>cases W
 |extend=>cases W
 |pop=>cases W
 |nZ=>cases W
end
section
variable{O:Program}{w:World}{K:Frag}{Y:Cl->Addr}{x:Fn->Addr}{U:Heap}{j T:Str->Option Value}{A:Around}{s:Shared}{J:cr}{h:Hp}{C:Env}{g:aV}{L:Kn}
theorem Jc(h:b.all cx):(backTo pos<|starEach b C).all (λc=> !c.1):=by
 induction b with
 |nil=>rfl
 |cons c b a=>rw[tQ (p h).1];exact a (p h).2
theorem ze{a v:Pos}{Q:f9}{E:f9}(q:we a3)(p:(a.endLine==v.line))(t:args.length<29)(r:args.all cx)
 (h:wpAny (model O w) A (eval a3 C) (λa2 b=>∀Ms,wpAny (model O w) A (getMethod a2 name Ms) (λa1 c=>wpAny (model O w) A (callWith v a1.1 a1.2 (backTo v<|starEach args C) []) Q E c) E b) E s):
 wpAny (model O w) A (eval (.Call (.Attribute a3 name a) args [] v) C) Q E s:=by
 rw[arm_eval_Call,vw q];refine o<|d h (λa2 b f=>?_) λ_ _ e=>e;refine o<|wpAny_standAt ?_;haveI k:methodCallForm (args.length+([]:List Keyword).length) (backTo v<|starEach args C)<|backToKw v<|keywordEach [] C:=by unfold methodCallForm;rw[Jc r];show decide (args.length+0+0<30)=true;rw[decide_eq_true_eq];exact ci ‹_› m
 haveI i:methodCallPos true a3 C a v=pure v:=by unfold methodCallPos;simp [p]
 unfold methodCall;rw[k];refine o<|wpAny_holding<|d (f _) (λa1 c n=>?_) λ_ _ e=>e;exact o<|wpAny_of_eq i n
theorem Jd{k l:String}{args:List Expr}{d:Value}{Q:f9}(o:PlainAttrs k)(q:Slot k name l)(e:typeOf (.builtin l)=pure (.type "method_descriptor"))
 (m:s.TypeIs d k)(n:∀a,d=.ref a->∃r,s.heap.get? a=some r/\r.dict=none)(i:args.all cx)
 (h:mC (model O w) A C args (λa1 b=>wpAny (model O w) A (call (.builtin l)<|d::a1) Q dk b) s):
 ∀p,wpAny (model O w) A (getMethod d name p) (λf c=>wpAny (model O w) A (callWith pos f.1 f.2 (backTo pos<|starEach args C) []) Q dk c) dk s:=λp=>by
 exact getMethod_builtin m o q e n<|Calls.callWith_builtin (mD i)<|j6 i h
inductive Ak(O:Program)(w:World)(U:Heap)(Y:Cl->Addr)(C:Env)(f:P)(k:Bool)(v:V)(Q:f9)(ys:List Value)(s₁:Shared):Prop
 |mk {J:cr} {h:Hp} {g:aV} {vs:List V} {r:R} (X:t O w U Y J h s₁.heap) (c:aM U C J g s₁.heap) (hv:aC (u J s₁.heap) vs ys) (hk:n9 v h=some k) (e:ay f (v::vs) h=some r) (b:∀a s',l O w U Y J h s₁ r a s'->Q a s'):Ak O w U Y C f k v Q ys s₁
inductive Pn(O:Program)(w:World)(U:Heap)(Y:Cl->Addr)(A:Around)(C:Env)(b:P)(xs:List Expr)(Q:f9)(ov:Value)(s₁:Shared):Prop
 |mk {J:cr} {h:Hp} {v:V} {k:Bool} (X:t O w U Y J h s₁.heap) (hv:aL (u J s₁.heap) v ov) (hk:n9 v h=some k) (ho:F3 b k) (a:mC (model O w) A C xs (Ak O w U Y C b k v Q) s₁):Pn O w U Y A C b xs Q ov s₁
def DJ(s:Shared)(a:Addr):Prop:=∀b,Value.ref a=.ref b->∃c,s.heap.get? b=some c/\c.dict=none
theorem rA(X:t O w U Y J h s.heap)(i:n9 (.ref a) h=some false):s.TypeIs (.ref a) "list"/\DJ s a:=by
 refine bS (Ml (o:=h a) i) λc f d=>?_;induction c using kI with
 |list k=>refine c_ (X.list f) λ_ _ o n p _=>?_;exact⟨p.isList.typeIs,λb e=>by obtain rfl:=Value.ref.inj e;exact(a_ _ p z)⟩
 |dict lk m=>cases d
 |_=>exact Ku d
theorem GA(X:t O w U Y J h s.heap)(i:n9 (.ref a) h=some true):s.TypeIs (.ref a) "dict"/\DJ s a:=by
 refine bS (Ml (o:=h a) i) λc f d=>?_;induction c using kI with
 |dict lk n=>refine kG (X.dict f) λ_ _ m p _=>?_;exact⟨p.typeIs,λb e=>by obtain rfl:=Value.ref.inj e;exact p.mapOf.noDict _ z⟩
 |list k=>cases d
 |_=>exact Ku d
theorem DK(hp:xs.all cx)(mo:xo a2 xs.length a4)(ma:QK a3 xs.length)
 (h:wpAny (model O w) A (eval a2 C) (Pn O w U Y A C a3 xs a1) dk s):wpAny (model O w) A (eval (BD (Xj a3) a2 xs a4) C) a1 dk s:=by
 refine ze (p (p mo).1).1 (p (p mo).1).2 (Nat.le_of_ble_eq_true (p mo).2) hp (d h (λov l bh=>?_) λ_ _ y=>y);obtain@⟨_,_,v,k,X,hv,n,Z,q⟩:=bh;refine oB (id n) λa ev _=>?_;obtain rfl:=V.uH ev;obtain rfl:=hv.cq;clear hv;haveI t:∀{o id:String}{name:Str},PlainAttrs o->Slot o name id->typeOf (.builtin id)=pure (.type "method_descriptor")->l.TypeIs (.ref a) o/\DJ l a->
  (∀H u,Ak O w U Y C a3 k (.ref a) a1 H u->wpAny (model O w) A (call (.builtin id)<|.ref a::H) a1 dk u)->∀pl,wpAny (model O w) A (getMethod (.ref a) name pl) (λfx u=>wpAny (model O w) A (callWith a4.pos fx.1 fx.2 (backTo a4.pos<|starEach xs C) []) a1 dk u) dk l:=
  λpa sl ty kd f pl=>Jd pa sl ty kd.1 kd.2 hp (cE q f) pl
 clear h;induction a3 using P.casesOn with
 |append=>obtain rfl:=Bool.not_eq_true' _▸Z;clear Z;refine t F.plainAttrs_list F.slot_list_append F.type_list_append (rA X n) λH u G=>?_;obtain⟨X,N,m,n,e,q⟩:=G;obtain⟨W,D⟩:=p9 m e;clear e m;refine bS (Ml (o:=f8 _ _) D) λI r B=>oA (hM B) λhc z=>?_;clear B D;subst z;exact d (F_ X (fW r) (of_decide_eq_true hc) W) q λ_ _ y=>y
 |extend=>obtain rfl:=Bool.not_eq_true' _▸Z;clear Z;refine t F.plainAttrs_list F.slot_list_extend F.type_list_extend (rA X n) λH u G=>?_;obtain⟨X,N,m,n,e,q⟩:=G;obtain⟨W,D⟩:=p9 m e;clear e m;refine bS (Ml (o:=f8 _ _) D) λI r B=>?_;refine oB B λus eb E=>?_;clear B;refine oA (hM E) λhc z=>?_;clear E D;subst z;exact d (Ga X (fW r) eb (of_decide_eq_true hc) W) q λ_ _ y=>y
 |pop=>
  obtain rfl:=Bool.not_eq_true' _▸Z;clear Z;refine t F.plainAttrs_list F.slot_list_pop F.type_list_pop (rA X n) λH u G=>?_;obtain⟨X,N,m,n,e,q⟩:=G;induction m using aC.casesOn with
  |cons _ _=>exact Ku e
  |nil=>refine bS (Ml (o:=f8 _ _) e) λI r B=>?_;refine oM B λb S y1=>?_;clear B e;subst y1;exact d (Qt X (fW r) S) q λ_ _ y=>y
 |nZ=>
  clear Z;induction k using ff with
  |true=>
   refine t F.plainAttrs_dict F.slot_dict_pop F.type_dict_pop (GA X n) λH u G=>?_;obtain⟨X,N,m,n,e,q⟩:=G;obtain⟨W,D⟩:=p9 m e;clear e m;refine bS (Ml (o:=V.lj _) D) λi R B=>?_;clear D;obtain rfl:=V.fB R;clear R;refine bS (Ml (o:=_) B) λc r E=>?_;clear B;refine bS (Ml (o:=_)<|show(_:Option a0).bind Ih=_ from n) λc' Q M=>?_;obtain rfl:=me<|r.symm.trans Q;clear Q;induction c using kI with
   |dict lk bo=>refine(Xm E).elim λhl e4=>?_;refine oM e4 λb S y1=>?_;clear e4;subst y1;clear E M;obtain rfl:=Bool.not_eq_true _▸hl;exact d (MP X r S W) q λ_ _ y=>y
   |list I=>cases M
   |_=>exact Ku M
  |false=>
   refine t F.plainAttrs_list F.slot_list_pop F.type_list_pop (rA X n) λH u G=>?_;obtain⟨X,N,m,n,e,q⟩:=G;obtain⟨W,D⟩:=p9 m e;clear e m;refine bS (Ml (o:=V.lj _) D) λi R B=>?_;clear D;obtain rfl:=V.fB R;clear R;refine bS (Ml (o:=_) B) λc r E=>?_;clear B;refine bS (Ml (o:=_)<|show(_:Option a0).bind Ih=_ from n) λc' Q M=>?_;obtain rfl:=me<|r.symm.trans Q;clear Q;induction c using kI with
   |list I=>clear M;induction I using da with
    |nil=>exact Ku E
    |cons b I=>refine oA (hM E) ?_;clear E;rintro rfl rfl;exact d (IE X r W) q λ_ _ y=>y
   |dict lk bo=>cases M
   |_=>exact Ku M
 |_=>cases ma
theorem Je{m:IK}{a:Nat}{c:Cl}{F:List (IK×V)}{f:Fn}{H:Sem Bool}{Q:Value×List Value->Shared->Prop}{E:f9}(G:p8 w K Y x U j T)(X:t O w U Y J h s.heap)(k:h a=some (.inst c F))(e:qr c m=some f)
 (B:Q (.ref<|x f,[.ref a]) s):wpAny (model O w) A (getMethod (.ref a) (dx m) H) Q E s:=by
 refine sD (X.inst k) λ_ d b n _ o p i l u=>?_;haveI I:PySem.W.InstAt s.heap a (instObj (Y c) d) (Y c)<|some<|dictOf b n:=⟨o,z,z,p⟩;haveI r:F.lookup m=Option.none:=by
  cases q:F.lookup m with
  |none=>rfl
  |some v=>have:=zY<|u m<|qJ q;rw[e] at this;cases this
 refine oA ((G.cls c).cz m f e) λy D=>?_;exact method_fn (X.in G) I (plainGet_of (G.cls c).get).1 (plainGet_of (G.cls c).get).2 y (beq_iff_eq.mp D) (by show(lookIn _<|dictOf b n).map _=_;rw[lookIn_dict,(i.get m).2 r];rfl) B
end
section
variable{O:Program}{w:World}{K:Frag}{Y:Cl->Addr}{r:Fn->Addr}{U:Heap}{f i:Str->Option Value}{A:Around}{s:Shared}{J:cr}{h:Hp}{x:Env}{T:aV}{L:Kn}
abbrev Lk:=Option<|Nat×List (Int×V)
def qO(l:Lk)(J:cr):cr:=match l with
 |some (a,_)=>gR J a 0
 |none=>J
def xx(l:Lk)(J:cr):cr:=match l with
 |some (a,_)=>gR J a a
 |none=>J
theorem m7(e:a9 a1 a2 h=some (a,bo)):a1=.it/\a2=[.ref a]/\h a=some (.dict false bo):=by
 induction a1 using CV.casesOn with
 |it=>
  refine bS (wh e) λv n k=>?_;subst n;refine oB k λb g m=>?_;clear k;obtain rfl:=V.uH g;clear g;obtain⟨c,j,d⟩:=Ml m;clear m;induction c using kI with
  |dict lk o=>
   refine(Xl d).elim λl q=>?_;clear d;cases q;induction lk using ff with
   |true=>exact absurd z l
   |false=>exact(eP z rfl j)
  |_=>exact Ku d
 |_=>exact Ku e
theorem Jf(X:t O w U Y J h s.heap):t O w U Y (qO (a9 g b h) J) (dK (a9 g b h) true h) s.heap:=by
 cases e:a9 g b h with
 |none=>exact X
 |some p=>obtain⟨a,c⟩:=p;exact X.Iq (m7 e).2.2 true
theorem BI(X:t O w U Y J h s.heap)(b:Addr):qO (a9 n g h) J b=none↔J b=none:=by
 cases e:a9 n g h with
 |none=>exact Iff.rfl
 |some p=>obtain⟨a,j⟩:=p;haveI z:=X.dict (m7 e).2.2;haveI c:=z.1;exact yX (c▸Kx) b
theorem DL(X:t O w U Y J h s.heap):u (qO (a9 n c h) J) g=u J g:=by
 cases e:a9 n c h with
 |none=>rfl
 |some p=>obtain⟨a,j⟩:=p;haveI z:=X.dict (m7 e).2.2;haveI b:=z.1;exact oh<|b▸Kx
theorem Am{a:Nat}{c:a0}(b:h a=some c)(e:Bg a c=none):a9 .it [.ref a] h=none:=(congrArg (λo=>Option.bind o<|Bg a) b).trans e
theorem Jg(b:h a=some c)(e:Bg a c=some g):a9 .it [.ref a] h=some g:=(congrArg (λo=>Option.bind o<|Bg a) b).trans e
theorem rB(b:h a=some c):ch [(a,c)] h:=λp e=>by rw[eL.mp e];exact b
theorem E2{v:V}{g:List V}{c:H}(e:bm v h=some (g,c)):ch c (dK (a9 .it [v] h) true h)/\bm v (dK (a9 .it [v] h) true h)=some (g,c):=by
 cases rm e with
 |aF=>exact⟨λ_ h=>absurd h i3,z⟩
 |list b=>rw[Am b z];exact⟨rB b,e⟩
 |ro b=>rw[Am b z];exact⟨rB b,e⟩
 |@dict a lk j b=>
  induction lk using ff with
  |true=>rw[Am b z];exact⟨rB b,e⟩
  |false=>rw[Jg b z];exact⟨rB<|if_pos z,(congrArg (λo=>Option.bind o<|C9 a)<|if_pos z).trans rfl⟩
theorem xy{k:CV}{j Z:List V}{c:H}{g:cr}{B:Hp}{F:Addr->Prop}{m:Shared}(X:t O w U Y J h s.heap)(e:gO k j h=some (Z,c))(v:t O w U Y g B m.heap)(N:ch c B)
 (l:y F (qO (a9 k j h) J) g s m):
 t O w U Y (xx (a9 k j h) g) (dK (a9 k j h) false B) m.heap/\y F J (xx (a9 k j h) g) s m/\(∀b,xx (a9 k j h) g b=none↔g b=none)/\u (xx (a9 k j h) g) m.heap=u g m.heap:=by
 cases n:a9 k j h with
 |none=>rw[n] at l;exact(hV v l (λ_=>Iff.rfl) rfl)
 |some p=>
  refine kf λd M=>?_;obtain⟨a,W⟩:=p;rw[n] at l;refine F5 (m7 n) ?_;clear n;rintro rfl rfl E;refine oA (X.dict E) λD _=>M ?_;haveI I:=(X.owned _ _ D).2;haveI G:=(l.own a I).trans<|if_pos z;haveI P:g a≠none:=by rw[G];exact Kx
  haveI C:B a=some (.dict true W):=by haveI q:=me<|(congrArg (λo=>Option.bind o<|C9 a) E).symm.trans e;exact N (a,.dict true W) (by haveI Q:[(a,a0.dict true W)]=c:=congrArg Prod.snd q;rw[<-Q];exact .head _)
  exact(hV (v.Iq C false) (y.unlock D (X.tI D (X.owned _ _ D).1) I l) (yX P)<|oh P)
theorem aM.lock(X:t O w U Y J h s.heap)(N:aM U x J T s.heap):aM U x (qO (a9 b a h) J) T s.heap:=N.O7<|BI X
inductive AT(O:Program)(w:World)(U:Heap)(Y:Cl->Addr)(A:Around)(x:Env)(k:CV)(Q:f9)(ys:List Value)(s₁:Shared):Prop
 |mk {J:cr} {h:Hp} {T:aV} {vs xs:List V} {c:H} (X:t O w U Y J h s₁.heap) (g:aM U x J T s₁.heap) (hv:aC (u J s₁.heap) vs ys) (e:gO k vs h=some (xs,c))
  (b:∀a s₂,wpAny (model O w) A (pyIter a) (mR O w U Y A (qO (a9 k vs h) J) (dK (a9 k vs h) true h) s₁ c xs) dk s₂->Q a s₂):AT O w U Y A x k Q ys s₁
theorem xA(d:mR O w U Y A J h s c xs n a):wpAny (model O w) A (pyIter n) (mR O w U Y A J h s c xs) dk a:=by obtain⟨b,g,e,m,o,j,k,X,l⟩:=id d;exact m.aq 0 b a _ o d
theorem DM(l:y pZ J a1 s a)(t:mR O w U Y A a1 h a c xs a2 e):mR O w U Y A J h s c xs a2 e:=by obtain⟨n,o,k,d,m,p,j,X,q⟩:=t;exact⟨n,o,k,d,m,p,λb g=>⟨eJ l.size (j b g).1,(j b g).2⟩,X,l.trans q⟩
theorem BJ(k:A.handled=none)(G:p8 w K Y r U f i)(N:aM U x J T s.heap)(X:t O w U Y J h s.heap)(W:eK x L)
 (C:a2.all cx)(o:vv L a3 a2.length)(F:mC (model O w) A x a2 (AT O w U Y A x a3 a1) s):wpAny (model O w) A (eval (sP a3 a2 a4) x) a1 dk s:=by
 induction a3 using CV.casesOn with
 |it=>refine oE (Mine.Internal.xu o) λa D=>?_;clear C o;subst D;refine d F (λy g l=>?_) λ_ _ y=>y;obtain⟨X,N,c,e,q⟩:=l;refine iK (Xo c e) λv y0 j E=>?_;clear e c;subst y0;exact q _ _<|IY k (Jf X) (E2 E).2 (E2 E).1 ((DL X)▸j)
 |range=>refine kL G N X W (p o).2 C (IZ 0 z) (cE F λP g l=>?_);obtain⟨X,N,c,e,q⟩:=l;obtain⟨j,E⟩:=p9 c e;clear e c;refine oB E λn Z H=>?_;clear E;obtain rfl:=V.fB Z;clear Z;refine oA (hM H) λI D=>?_;clear H;cases D;refine d (Aa k X (Jh I).1 (Jh I).2 j) (λy b m=>q y b ?_) λ_ _ y=>y;refine iK m λaN bQ u R=>?_;clear m;exact d R (λit g7 S=>DM u S) λ_ _ y=>y
 |zip=>refine kL G N X W (p o).2 C (IZ 3 z) (cE F λP g l=>?_);obtain⟨X,N,c,e,q⟩:=l;obtain⟨j,Q,E⟩:=I_ c e;clear e c;refine oB E λxs B H=>?_;clear E;refine oM H λus M D=>?_;clear H;cases D;exact d (y9 k X B M j Q k) (λy b m=>q y b<|xA m.2.2) λ_ _ y=>y
 |uz=>refine kL G N X W (p o).2 C (IZ 12 z) (cE F λP g l=>?_);obtain⟨X,N,c,e,q⟩:=l;obtain⟨j,E⟩:=p9 c e;clear e c;refine oB E λa B H=>?_;clear E;obtain rfl:=V.uH B;clear B;obtain rfl:=j.cq;clear j;refine oM H λxs M D=>?_;clear H;cases D;exact d (Dx k X<|fW M) (λy b m=>q y b<|xA m) λ_ _ y=>y
end
def SN(H:Env)(c:List Vr):Addr->Prop:=λa=>a=H.locals\/∃y∈c,H.kindOf (an y)=some .cell/\H.cells.lookup (an y)=some a
theorem SN.frame(h:SN b c a):ce b a:=by
 refine db h ?_ ?_;·clear h;rintro rfl;exact .inl z
 ·rintro⟨y,_,_,h⟩;exact .inr ⟨_,mem_of_lookup h⟩
theorem SN.more(c:∀i∈g,i∈e)(h:SN b g a):SN b e a:=by
 refine db h ?_ ?_;·clear h;rintro rfl;exact .inl z
 ·rintro⟨i,f,r⟩;exact .inr<|a_ i (c i f) r
section
variable{O:Program}{w:World}{U:Heap}{Y:Cl->Addr}{M:Model}{A:Around}{n:f9}{s:Shared}{T:Env}{J:cr}{b:aV}{h:Hp}
theorem xB(N:aM U T J b s.heap)(X:t O w U Y J h s.heap)(I:aL (u J s.heap) a2 a3)
 (hk:T.kindOf (an x)=some .local\/(T.kindOf (an x)=some .cell/\(T.cells.lookup<|an x).isSome))
 (K:∀a1,t O w U Y J h a1.heap->aM U T J (bX b x a2) a1.heap->y (SN T [x]) J J s a1->L () a1):wpAny M A (storeName T (an x) a3) L n s:=by
 rcases hk with k|⟨k,i⟩
 ·refine bS N.ns λm Z F=>?_;refine wpAny_storeName_local k Z (λh' C j=>?_) (by rw[N.kind];rfl);have d:=j.extBut;have D:=cO d<|N.kS<|.inl z;refine K _ (X.ext d D (.inl N.e9.1) N.e9.2<|Nat.le_of_eq j.1.symm) ?_<|dS d D (.inr<|.inl<|.inl z) (Nat.le_of_eq j.1.symm)<|eP z rfl rfl;clear X K j;refine⟨N.kind,N.globals,N.builtins,N.e9,(a_ _ C<|Di F D<|I.mono D),λp G e B=>?_,λv a F=>?_,N.apart⟩;clear C I
  ·unfold bX at e;by_cases H:p=x;·clear e;subst H;rcases B with B|B<;>rw[k] at B<;>cases B
   ·rw[if_neg H] at e;exact jn (N.cells p G e B) λa r f g l=>(kH a r f (Heap.IsCell.one g λo e=>d a o (N.each _ _<|mem_of_lookup f).2.2.1 e)<|l.mono D)
  ·refine oU (N.each v a F) ?_;rintro jP g l W;refine oE jP λr f=>?_;clear jP;exact(hV ⟨r,Heap.IsCell.one f λo e=>d a o l e⟩ g l W)
 ·refine(Option.isSome_iff_exists.mp i).elim λc i=>?_;have E:=mem_of_lookup i;refine oU (N.each _ _ E) ?_;rintro nR S P R;refine oE nR λaaf V=>?_;clear nR;refine wpAny_storeName_cell N.kind k i V λh' C j=>?_;clear V;have d:=j.extBut;have D:=cO d<|N.kS<|.inr ⟨_,E⟩;refine K _ (X.ext d D (.inl S) R<|Nat.le_of_eq j.1.symm) ?_<|dS d D (.inr<|.inl<|.inr<|g6 x q k i) (Nat.le_of_eq j.1.symm)<|eP z rfl rfl;clear X R S K j;refine bS N.ns λm Z F=>⟨N.kind,N.globals,N.builtins,N.e9,(a_ m (Heap.Ns.one Z λo e=>d _ o (Ne.symm P) e) λp G e B=>?_),λp G e B=>?_,λv a Q=>?_,N.apart⟩
  ·unfold bX at e;by_cases H:p=x;·clear E e i;subst H;rw[k] at B;cases B
   ·rw[if_neg H] at e;exact bS (F p G e B) λz' f g=>(a_ z' f<|g.mono D)
  ·unfold bX at e;by_cases H:p=x;·clear E k;subst H;rw[if_pos z] at e;cases e;exact(kH c a3 i C<|I.mono D)
   ·rw[if_neg H] at e;refine jn (N.cells p G e B) λa r f g l=>?_;have ne:a≠c:=λe=>H<|jc _ _<|N.apart _ _ _ f<|e▸i;exact(kH a r f (Heap.IsCell.one g λo e=>d a o ne e)<|l.mono D)
  ·by_cases H:a=c;·clear i P E d;subst H;exact⟨⟨_,C⟩,(N.each v a Q).2⟩
   ·refine oU (N.each v a Q) ?_;rintro sF g l W;refine oE sF λr f=>?_;clear sF;exact(hV ⟨r,Heap.IsCell.one f λo e=>d a o H e⟩ g l W)
end
section
variable{O:Program}{w:World}{U:Heap}{Y:Cl->Addr}{A:Around}{n:f9}{s:Shared}{T:Env}{J:cr}{b:aV}{h:Hp}{L:Kn}
theorem BL(K:eK T L)(a:Mn L c):T.kindOf (an c)=some .local\/(T.kindOf (an c)=some .cell/\(T.cells.lookup<|an c).isSome):=by unfold Mn at a;rw[Bool.or_eq_true,decide_eq_true_eq,decide_eq_true_eq] at a;exact a.imp (K.kind _ _) λk=>⟨K.kind _ _ k,K.cells _<|.inl k⟩
theorem sT(K:eK T L)(e:Mn L r)(N:aM U T J b s.heap)(X:t O w U Y J h s.heap)(d:aL (u J s.heap) j x)
 (c:∀a,t O w U Y J h a.heap->aM U T J (bX b r j) a.heap->y (SN T [r]) J J s a->g () a):wpAny (model O w) A (assign (.Name (an r) i) T x) g n s:=
 wpAny_assign_Name<|xB N X d (BL K e) c
theorem xC:∀{xs:List Expr},(assignEach (h_ a xs) T).length=a.length/\(assignEach (h_ a xs) T).findIdx? (·.1)=none:=by
 induction a with
 |nil=>exact⟨z,z⟩
 |cons y a c=>intro xs;haveI d:assignEach (h_ (y::a) xs) T=(false,assign (qM y<|eF rM xs 0) T)::assignEach (h_ a<|xs.drop 1) T:=z;rw[d,jM,List.findIdx?_cons,(c (xs:=xs.drop 1)).1,(c (xs:=xs.drop 1)).2];exact⟨z,z⟩
theorem Ao:∀{xs:List Expr}{e:List V}{g:List Value}{b:aV}{s:Shared}{Q:Unit->Shared->Prop}(_K:eK T L)(_hx:c.all<|Mn L)(_N:aM U T J b s.heap)(_X:t O w U Y J h s.heap)
 (_hv:aC (u J s.heap) e g) (_hl:c.length=e.length)
 (_hq:∀d,t O w U Y J h d.heap->aM U T J ((c.zip e).foldl (λb F=>bX b F.1 F.2) b) d.heap->y (SN T c) J J s d->Q () d),
 wpAny (model O w) A (assignInOrder ((assignEach (h_ c xs) T).map (·.2)) g) Q n s:=by
 induction c with
 |nil=>
  intro xs e g b s Q K k B X j f i;induction j using aC.casesOn with
  |nil=>exact cw<|i s X B<|y.refl _ _ _
  |cons=>cases f
 |cons I c C=>
  intro xs e g b s Q K k B X j f i;induction j using aC.casesOn with
  |nil=>cases f
  |cons v x=>exact o<|wpAny_holding<|sT K (p k).1 B X v λd r E m=>C (xs:=xs.drop 1) K (p k).2 E r (x.mono m.aF) (Nat.succ.inj f) λD q G H=>i D q G<|(m.weaken λa h=>h.more λz l=>((eL.mp l)▸.head _)).trans<|H.weaken λa h=>h.more λz l=>N l
theorem BM(a:Tg)(x:Expr):qL<|Ai a x:=by
 induction a using Tg.casesOn with
 |one y=>exact .inl<|H3 _ _ z
 |many c=>exact .inr<|MC _ _ _ z
theorem zf(c:dA (.many i) j b=some g):∃a,j=.aF a/\i.length=a.length/\(i.zip a).foldl (λb p=>bX b p.1 p.2) b=g:=by refine oB c λa f e=>?_;clear c;exact(g6 a (V.Dk f) ((hM e).1)<|(hM e).2)
theorem uO(Z:A.handled=none)(K:eK T L)(H:pS L g)(N:aM U T J b s.heap)(X:t O w U Y J h s.heap)(k:aL (u J s.heap) a3 a4)
 (D:dA g a3 b=some a2)(r:∀a,t O w U Y J h a.heap->aM U T J a2 a.heap->y (SN T g.names) J J s a->a1 () a):wpAny (model O w) A (assign (Ai g x) T a4) a1 n s:=by
 induction g using Tg.casesOn with
 |one I=>cases D;exact sT K H N X k r
 |many m=>refine(zf D).elim λV a4=>?_;haveI l:=a4.1;haveI q:=a4.2.1;haveI R:=a4.2.2;clear a4;subst l;subst R;refine(k.fz).elim λE a4=>a4.elim λS a4=>a4.elim λv a4=>?_;haveI l:=a4.1;haveI M:=a4.2.1;haveI C:=a4.2.2.1;clear a4;clear a4;clear k a4;subst l;haveI W:=IsT.kh M.uw;show wpAny (model O w) A (assign (.Tuple (h_ m<|im x) (I6 x) x.pos) T<|.ref E) a1 n s;rw[arm_assign_Tuple];refine o<|wpAny_standAt ?_;unfold unpack;rw[show(assignEach (h_ m<|im x) T).length=S.toArray.size by rw[xC.1,q,C.length];simp,xC.2];refine o<|wpAny_holding<|bW<|PySem.wpAny_unpackItems_tuple Z W λf j c=>?_;haveI c:=c;haveI i:bC (u J s.heap)<|u J f:=cO j λB e=>absurd (ip e)<|Nat.lt_irrefl _;haveI d:y (SN T m) J J s {s with heap:=f}:=dS j i (.inr<|.inr<|ct _) c<|eP z rfl rfl;haveI Q:y pZ J J s {s with heap:=f}:=dS j i (.inr<|.inr<|ct _) c<|eP z rfl rfl;exact Ao (s:={s with heap:=f}) K (p H).1 (N.later Q) (X.ext j i (.inl<|X.fresh<|ct _) X.size c) (C.mono i) q λa G F P=>r a G F<|d.trans P
end
theorem gK(y:Vr):∀c:List (Vr×NK),(c.map λp=>(an p.1,tP p.2)).lookup (an y)=(c.lookup y).map tP:=λa=>by
 induction a with
 |nil=>exact z
 |cons i r h=>
  obtain⟨d,k⟩:=i;rw[pc,ii,ii,h];by_cases q:y=d;·subst q;simp
  ·haveI b:(an y==an d)=false:=by rw[nz];exactλe=>q<|jc _ _ e
   haveI g:(y==d)=false:=by rw[nz];exact q
   rw[b,g]
theorem cQ{a b:Type}[BEq a][LawfulBEq a]{l:List (a×b)}{k:a}{v:b}(e:l.lookup k=some v):(k,v)∈l:=by
 induction l with
 |nil=>cases e
 |cons p r g=>
  obtain⟨h,i⟩:=p;rw[ii] at e;cases q:k==h with
  |true=>rw[q] at e;clear g;cases e;rw[beq_iff_eq.mp q];exact pt
  |false=>rw[q] at e;exact List.mem_cons_of_mem _<|g e
section
variable{T:Env}{L:Kn}{c:List (Vr×NK)}{f:Tg}{Y:Scope}
theorem iY(h:eT L c f){b:Vr×NK}(a:b∈c):(b.2=.e9/\(b.1∈f.names\/b.1=.fO))\/(b.2=.iH/\(L b.1=some .mM\/L b.1=some .iH))\/b.2=.bK:=by
 have:=sS.mp (p h).1 b a;clear a;obtain⟨y,k⟩:=b;cases k with
 |e9=>exact .inl ⟨z,(Bool.or_eq_true_iff.mp this).imp List.contains_iff_mem.mp of_decide_eq_true⟩
 |mM=>exact Kv this
 |iH=>exact .inr<|.inl ⟨z,(Bool.or_eq_true_iff.mp this).imp of_decide_eq_true of_decide_eq_true⟩
 |bK=>exact .inr<|.inr z
theorem tS(h:eT L c f){y:Vr}(a:y∈f.names):c.lookup y=some .e9:=of_decide_eq_true<|sS.mp (p (p h).2).1 y a
theorem yE(h:eT L c f):c.lookup .fO=some .e9\/c.lookup .fO=none:=(Bool.or_eq_true_iff.mp (p (p h).2).2).imp of_decide_eq_true of_decide_eq_true
theorem rX(K:eK T L)(e:T.scope.kind=.function)(b:eT L c f):(relabel (dc c Y) T).names=(e8 L c).map λp=>(an p.1,tP p.2):=by
 show(c.map λp=>(an p.1,tP p.2)).map _=_;unfold e8;rw[List.map_map,List.map_map];refine List.map_congr_left λp g=>?_;obtain⟨y,k⟩:=p;dsimp only[Function.comp];haveI a:(T.scope.kind==ScopeKind.function):=by rw[e];rfl
 rcases iY b g with⟨rfl,_⟩|⟨rfl,h|h⟩|rfl
 ·rw[show(if NK.e9=.iH/\L y=some .mM then(y,NK.mM) else(y,NK.e9))=(y,NK.e9) from if_neg λq=>nomatch q.1];rfl
 ·haveI i:T.kindOf (an y)=some NameKind.cell:=K.kind _ _ h;have:(NameKind.free==NameKind.free&&T.scope.kind==ScopeKind.function&&T.kindOf (an y)==some NameKind.cell):=by rw[a,i];rfl
  rw[if_pos (by exact this),if_pos ⟨z,h⟩];rfl
 ·haveI i:T.kindOf (an y)=some NameKind.free:=K.kind _ _ h;have:¬((NameKind.free==NameKind.free&&T.scope.kind==ScopeKind.function&&T.kindOf (an y)==some NameKind.cell)):=by rw[a,i];decide
  rw[if_neg (by exact this),if_neg λq=>by have d:=h.symm.trans q.2;cases me d]
 ·rw[show(if NK.bK=.iH/\L y=some .mM then(y,NK.mM) else(y,NK.bK))=(y,NK.bK) from if_neg λq=>nomatch q.1];rfl
theorem xD(b:eT L c f){y:Vr}{k:NK}(m:(y,k)∈e8 L c):(k=.e9/\(y∈f.names\/y=.fO))\/((k=.mM\/k=.iH)/\(y,NK.iH)∈c/\(L y=some .mM\/L y=some .iH))\/k=.bK:=by
 refine bS (List.mem_map.mp m) λp a e=>?_;clear m;obtain⟨d,j⟩:=p;by_cases q:j=.iH/\L d=some .mM;·rw[if_pos q] at e;cases e;exact .inr<|.inl<|eP (.inl z) (q.1▸a)<|.inl q.2
 ·rw[if_neg q] at e;cases e;rcases iY b a with⟨rfl,h⟩|⟨rfl,h⟩|rfl
  ·exact .inl ⟨z,h⟩
  ·exact .inr<|.inl<|eP (.inr z) a h
  ·exact .inr<|.inr z
theorem GC:∀(A:List<|Str×NameKind)(b:List<|Str×Addr),(∀n,(n,NameKind.free)∈A->(T.cells.lookup n).isSome)->
 ∃C,(forIn A b λx t=>if (x.2==NameKind.free) then do let a<-cellOf T x.1;pure (ForInStep.yield<|(x.1,a)::t) else pure<|ForInStep.yield t)=(pure C:Sem<|List<|Str×Addr)/\
  (∀p∈C,p∈b\/T.cells.lookup p.1=some p.2)/\(∀n,(n,NameKind.free)∈A->∃a,(n,a)∈C)/\∀p∈b,p∈C:=λw=>by
 induction w with
 |nil=>intro b _;exact(rV b z (λp i=>.inl i) (λ_ h=>absurd h i3) λp i=>i)
 |cons y r v=>
  obtain⟨n,k⟩:=y;intro b h;by_cases d:k=NameKind.free
  ·subst d;refine(Option.isSome_iff_exists.mp<|h n q).elim λa u=>(v ((n,a)::b) λm g=>h m<|N g).elim λC B=>?_;haveI e:=B.1;haveI o:=B.2.1;haveI s:=B.2.2.1;haveI j:=B.2.2.2;refine(rV C ?_ (λp i=>?_) (λm g=>?_) λp i=>j p<|N i)
   ·rw[List.forIn_cons];have:cellOf T n=pure a:=by unfold cellOf;rw[u]
    rw[if_pos<|show(NameKind.free==NameKind.free)=true from rfl];dsimp only;rw[this,pure_bind,pure_bind];exact e
   ·refine db (o p i) (λh=>?_) λh=>?_
    ·clear i;refine db (ew.mp h) ?_ ?_;·rintro rfl;exact .inr u
     ·intro h;exact .inl h
    ·exact .inr h
   ·refine db (ew.mp g) (λl=>?_) λg=>?_;·clear g;cases l;exact⟨a,j _ q⟩
    ·exact s m g
  ·refine(v b λm g=>h m<|N g).elim λC B=>?_;haveI e:=B.1;haveI o:=B.2.1;haveI s:=B.2.2.1;haveI j:=B.2.2.2;clear B;refine(rV C ?_ o (λm g=>?_) j);·rw[List.forIn_cons];rw[if_neg (by simpa using d),pure_bind];exact e
   ·refine db (ew.mp g) (λl=>?_) λg=>?_;·clear h g;cases l;exact absurd z d
    ·exact s m g
structure Na(T:Env)(scope:Scope)(cl:List<|Str×Addr):Prop where
 run:closureFor scope T=pure cl
 sub:∀b∈cl,T.cells.lookup b.1=some b.2
 all:∀n,(n,NameKind.free)∈scope.names->∃a,cl.lookup n=some a
theorem sU{g:Type}{l:List (Str×g)}{n:Str}{a:g}(h:(n,a)∈l):∃b,l.lookup n=some b:=by
 induction l with
 |nil=>cases h
 |cons p r i=>
  obtain⟨m,b⟩:=p;rw[ii];cases q:n==m with
  |true=>exact⟨b,z⟩
  |false=>
   refine db (ew.mp h) (λe=>?_) λh=>?_;·clear h;cases e;simp at q
   ·exact i h
theorem Nb(K:eK T L)(s:eT L c f):∃u,Na T (dc c Y) u:=by
 have t:∀n,(n,NameKind.free)∈(dc c Y).names->(T.cells.lookup n).isSome:=λn i=>by
  refine(List.mem_map.mp i).elim λp z=>?_;haveI j:=z.1;haveI e:=z.2;clear z;obtain⟨y,k⟩:=p;have v:an y=n:=congrArg Prod.fst e;have d:tP k=.free:=congrArg Prod.snd e;rw[<-v];rcases iY s j with⟨q,_⟩|⟨_,h⟩|q
  ·rw[show k=.e9 from q] at d;cases d
  ·exact K.cells y h
  ·rw[show k=.bK from q] at d;cases d
 refine(GC (T:=T) (dc c Y).names [] t).elim λu z=>?_;haveI e:=z.1;haveI l:=z.2.1;haveI m:=z.2.2.1;refine⟨u,?_,λp j=>(l p j).resolve_left nofun,λn i=>?_⟩
 ·unfold closureFor;show(forIn (dc c Y).names [] _>>=_)=_;have:(λ(x:Str×NameKind)(g:List<|Str×Addr)=>if (x.2==NameKind.free) then do let a<-cellOf T x.1;pure (ForInStep.yield<|(x.1,a)::g) else pure<|ForInStep.yield g)=(λ(x:Str×NameKind)(r:List<|Str×Addr)=>match x with|(name,b)=>if (b==NameKind.free) then do let a<-cellOf T name;pure (ForInStep.yield<|(name,a)::r) else pure (ForInStep.yield r):Str×NameKind->List (Str×Addr)->Sem (ForInStep<|List<|Str×Addr)):=by funext x g;rfl
  rw[this] at e;first
   |(rw[e];rfl)
   |(erw [e];rfl)
 ·exact(m n i).elim λa o=>sU o
theorem Nd(K:eK T L)(j:T.scope.kind=.function)(g:eT L c f)(b:Na T (dc c Y) cl):eK (compEnvC (dc c Y) cl n T)<|jJ<|e8 L c:=by
 refine⟨λy k e=>?_,λy e=>?_⟩;·show(relabel (dc c Y) T).names.lookup (an y)=_;rw[rX K j g,gK,show(e8 L c).lookup y=some k from e];rfl
 ·have l:(y,NK.iH)∈c:=by
   refine db e ?_ ?_<;>clear e<;>intro e
   ·rcases xD g (cQ e) with⟨q,_⟩|⟨_,h,_⟩|q
    ·cases q
    ·exact h
    ·cases q
   ·rcases xD g (cQ e) with⟨q,_⟩|⟨_,h,_⟩|q
    ·cases q
    ·exact h
    ·cases q
  refine(b.all (an y)<|List.mem_map.mpr<|a_ _ l z).elim λa i=>?_;show(cl.lookup<|an y).isSome=true;rw[i];rfl
set_option tactic.hygienic true in
theorem tT(e:gW f a x=some b):x∉f.names/\x≠.fO/\a x=some b:=by
 unfold gW at e;split at e;·cases e
 ·rename_i q;rw[Bool.or_eq_true,decide_eq_true_eq] at q;exact(eP (λh=>q<|.inl<|by simpa using h) (λh=>q<|.inr h) e)
theorem Ji{o:Heap}{B:List (Str×Addr)}{C:Addr}{t:cr}{i:aV}{g:Heap}(K:eK T L)(F:eT L c f)(j:Na T (dc c Y) B)(N:aM o T t i g)
 (d:t C=none/\o.objs.size<=C)(U:g.Ns C λ_=>none)(X:∀n a,(n,a)∈T.cells->a≠C):aM o (compEnvC (dc c Y) B C T) t (gW f i) g:=by
 have Z:∀y,(compEnvC (dc c Y) B C T).kindOf (an y)=((e8 L c).lookup y).map tP:=λy=>by show(relabel (dc c Y) T).names.lookup (an y)=_;rw[rX K N.kind F,gK]
 haveI E:∀y k,(e8 L c).lookup y=some k->(k=.e9/\(y∈f.names\/y=.fO))\/((k=.mM\/k=.iH)/\(y,NK.iH)∈c/\(L y=some .mM\/L y=some .iH))\/k=.bK:=λy k e=>xD F<|cQ e;refine⟨z,N.globals,N.builtins,d,(a_ _ U λx v e q=>?_),λx v e q=>?_,λn a s=>?_,λn m a p r=>N.apart n m a (j.sub _<|mem_of_lookup p)<|j.sub _<|mem_of_lookup r⟩
 ·haveI D:=tT e;haveI p:=D.1;haveI r:=D.2.1;rw[Z x] at q;cases l:(e8 L c).lookup x with
  |none=>rw[l] at q;cases q
  |some k=>
   rw[l] at q;rcases E x k l with⟨_,h|h⟩|⟨h|h,_⟩|h
   ·exact absurd h p
   ·exact absurd h r
   ·clear l;subst h;cases q
   ·clear l;subst h;cases q
   ·clear l;subst h;cases q
 ·haveI D:=tT e;haveI w:=D.2.2;clear D;rw[Z x] at q;cases l:(e8 L c).lookup x with
  |none=>rw[l] at q;(refine db q ?_ ?_<;>clear q<;>intro q)<;>cases q
  |some k=>
   rw[l] at q;rcases E x k l with⟨h,_⟩|⟨_,s,G⟩|h
   ·clear l;subst h;(refine db q ?_ ?_<;>clear q<;>intro q)<;>cases q
   ·haveI W:T.kindOf (an x)=some .cell\/T.kindOf (an x)=some .free:=G.imp (λh=>K.kind _ _ h) λh=>K.kind _ _ h;refine(N.cells x v w W).elim λa D=>D.elim λy D=>?_;haveI M:=D.1;haveI O:=D.2.1;haveI Q:=D.2.2;clear D;refine oE (j.all (an x)<|List.mem_map.mpr<|a_ _ s z) λb A=>?_;have:b=a:=by have:=j.sub _<|mem_of_lookup A;rw[M] at this;cases this;rfl
    exact(kH a y (by rw[<-this];exact A) O Q)
   ·clear l;subst h;(refine db q ?_ ?_<;>clear q<;>intro q)<;>cases q
 ·haveI u:=mem_of_lookup<|j.sub _ s;haveI D:=N.each n a u;haveI p:=D.1;haveI r:=D.2.1;haveI w:=D.2.2.1;haveI J:=D.2.2.2;clear D;exact(hV p r (X n a u) J)
end
section
variable(O:Program)(w:World)(U:Heap)(Y:Cl->Addr)
inductive mP(a:Env)(J:cr)(s:Shared)(Q:V->St->Prop)(x:Value)(s':Shared):Prop
 |mk (v:V) (σ:St) (bZ:cr) (hq:Q v σ) (hv:aL (u bZ s'.heap) v x) (X:t O w U Y bZ σ.h s'.heap) (b:aM U a bZ σ.ρ s'.heap) (c:y pZ J bZ s s'):mP a J s Q x s'
inductive vA(a:Env)(J:cr)(s:Shared)(Q:Bool->St->Prop)(b:Bool)(s':Shared):Prop
 |mk (σ:St) (bZ:cr) (hq:Q b σ) (X:t O w U Y bZ σ.h s'.heap) (c:aM U a bZ σ.ρ s'.heap) (e:y pZ J bZ s s'):vA a J s Q b s'
def f_(A:Around)(H:Env)(W:(V->St->Prop)->St->Prop)(x:Expr):Prop:=∀(s:Shared)(J:cr)(a:St)(Q:V->St->Prop),
 t O w U Y J a.h s.heap->aM U H J a.ρ s.heap->W Q a->wpAny (model O w) A (eval x H) (mP O w U Y H J s Q) dk s
def vU(A:Around)(H:Env)(W:(Bool->St->Prop)->St->Prop)(x:Expr):Prop:=∀(s:Shared)(J:cr)(a:St)(Q:Bool->St->Prop),
 t O w U Y J a.h s.heap->aM U H J a.ρ s.heap->W Q a->wpAny (model O w) A (isTrue x H<|eval x H) (vA O w U Y H J s Q) dk s
def GD(A:Around)(H:Env)(W:(Bool->St->Prop)->St->Prop)(d:List Expr):Prop:=∀(s:Shared)(J:cr)(a:St)(Q:Bool->St->Prop),
 t O w U Y J a.h s.heap->aM U H J a.ρ s.heap->W Q a->
  wpAny (model O w) A (forIn d true λc r=>if r then do let b<-isTrue c H (eval c H);pure (ForInStep.yield b) else pure<|ForInStep.yield r) (vA O w U Y H J s Q) dk s
end
section
variable{O:Program}{w:World}{K:Frag}{Y:Cl->Addr}{v:Fn->Addr}{U:Heap}{g n:Str->Option Value}{A:Around}{s:Shared}{J:cr}{h:Hp}{T j:Env}{f:aV}{L:Kn}
theorem o6.later(e:o6 U J c)(d:∀b∈c,b<s.heap.objs.size)(l:y F J i s r):o6 U i c:=λb a=>by refine⟨?_,(e b a).2⟩;have:=(e b a).1;unfold oc at this⊢;exact(l.own b<|d b a)▸this
def CF(j:Env)(b:List Addr)(S:Addr):Addr->Prop:=λa=>a=j.locals\/a∈b\/a=S
structure T6(O:Program)(w:World)(U:Heap)(Y:Cl->Addr)(j:Env)(fp:List Addr)(S:Addr)(It:Nat->cr->Heap->Prop)(ow₀:cr)(s₀:Shared)(i:Nat)(σ:St)(accv:List V)(J:cr)(s:Shared):Prop where
 rel:t O w U Y J σ.h s.heap
 env:aM U j J σ.ρ s.heap
 it:It i J s.heap
 GF:o6 U J fp
 lt:∀b∈fp,b<s.heap.objs.size
 own:J S=none
 list:∃acc:List Value,∃k,IsL s.heap S acc.toArray k/\aC (u J s.heap) accv acc
 later:y (CF j fp S) ow₀ J s₀ s
theorem aM.GG(N:aM U j J f s.heap)(l:y F J b s i)(c:∀a,ce j a->¬F a):aM U j b f i.heap:=
 N.move (λa _ h e=>l.keep a _ e (.inl<|N.own h)<|c a h) l.aF l.own
theorem GH{H:List V}{It:Nat->cr->Heap->Prop}{Z:Tg}{A4 iter rN:Expr}{ifs:List Expr}{k:Scope}{pos:Pos}{R:Result->Shared->Prop}{S:Addr}
 {Jj:(V->St->Prop)->St->Prop}{Wc:(Bool->St->Prop)->St->Prop}{Qr:List V->St->Prop}{G:cr}{I:Shared}
 (hh:A.handled=none)(Fd:yz O w U Y A it a2 c H It)(kc:eK j L)(E3:pS L Z)(An:∀a6∈Z.names,j.kindOf (an a6)=some .local)
 (yF:f_ O w U Y A j Jj rN)(yG:GD O w U Y A j Wc ifs)(DC:S∉a2)(MZ:U.objs.size<=S)(Pp:∀a,ce j a->a≠S)(Pq:∀a,ce j a->a∉a2)(gS:H.length<=1000000)
 (hR:∀a5 bZ a1 accv,(t O w U Y bZ a1.h a5.heap/\aM U j bZ a1.ρ a5.heap/\bZ S=none/\(∃a4:List Value,∃a3,IsL a5.heap S a4.toArray a3/\aC (u bZ a5.heap) accv a4)/\y (CF j a2 S) G bZ I a5)->
  Qr accv a1->ch c a1.h->accv.length<=H.length->R (.ok .next) a5)
 {i:Nat}{a1:St}{accv:List V}(hi:i<=H.length)(Pr:accv.length<=i)(C:T6 O w U Y j a2 S It G I i a1 accv J s)(X:kC c (dA Z) Wc Jj Qr (H.drop i) accv a1):
 codeAny (model O w) A (.compLoop (.ListComp rN [⟨Ai Z A4,iter,ifs,0⟩] k pos) 0 it (.ref S) j) R s:=by
 refine codeAny_loop z (λq s=>∃i a1 accv J,i<=H.length/\q=H.length+1-i/\accv.length<=i/\T6 O w U Y j a2 S It G I i a1 accv J s/\kC c (dA Z) Wc Jj Qr (H.drop i) accv a1) ?_ _ ⟨i,a1,accv,J,hi,z,Pr,C,X⟩;rintro q s jP;refine ri jP ?_;clear jP;rintro i a1 accv J hi rfl Pr C X;show wpAny _ A ((compTurn (.ListComp rN [⟨Ai Z A4,iter,ifs,0⟩] k pos) 0 it (.ref S) j).onRaise (λx=>do noteFrame x j;theTreesLotGoes x)) _ _ s;refine wpAny_noted ?_;rw[compTurn_list];refine o (wpAny_standAt (o<|iB C.list λa4 a3 p r=>?_));rcases Nat.lt_or_ge i H.length with P|Xr
 ·have ed:H.drop i=H[i]::H.drop (i+1):=List.drop_eq_getElem_cons P;rw[ed] at X;obtain⟨hs,aI,F,X⟩:=X;refine d (Fd.item i J a1.h s (λr a5=>∃a6,r=some a6/\t O w U Y J a1.h a5.heap/\y (·∈a2) J J s a5/\aL (u J a5.heap) H[i] a6/\It (i+1) J a5.heap) H[i] (sB P) C.rel hs C.it C.GF λa6 a5 X' l D m=>(oV a6 z X' l D m)) (λD N M=>?_) λ_ _ e=>e.elim;refine qF M ?_;clear M;rintro a6 rfl bQ E hy QR;dsimp only;refine o (d (Fd.go (Ai Z A4) (i+1) a6 J a1.h N (λ_ a5=>t O w U Y J a1.h a5.heap/\y (·∈a2) J J N a5/\It (i+1) J a5.heap) (BM Z A4) bQ QR C.GF λa5 X' l m=>(eP X' l m)) (λ_ Q M=>?_) λ_ _ e=>e.elim);refine F5 M λeM l₂ QS=>?_;clear M;have rC:=E.trans l₂;have gq:aM U j J a1.ρ Q.heap:=C.env.GG rC Pq;refine o (d (uO (n:=dk) hh kc E3 gq eM (hy.mono l₂.aF) F (a1:=λ_ a5=>t O w U Y J a1.h a5.heap/\aM U j J aI a5.heap/\y (SN j Z.names) J J Q a5) λa5 X' N' l=>(eP X' N' l)) (λ_ g7 M=>?_) λ_ _ e=>e.elim);refine F5 M λnP vV j7=>?_;clear M;have zg:y (·=j.locals) J J Q g7:=j7.weaken λa h=>by
   rcases h with h|⟨a6,hy,hk,_⟩
   ·exact h
   ·rw[An a6 hy] at hk;cases hk
  have QT:It (i+1) J g7.heap:=Fd.keep _ _ _ _ Q g7 QS zg C.GF λb F=>by have F:b=j.locals:=F;exact F▸⟨gq.e9.1,Pq _ (.inl z)⟩
  have rD:y (CF j a2 S) J J s g7:=(rC.weaken λa W=>.inr (.inl W)).trans (zg.weaken λa W=>.inl W);have T7:IsL g7.heap S a4.toArray a3:=zg.keep S _ (rC.keep S _ p (.inl C.own) DC) (.inl C.own) λe=>Pp _ (.inl z) e.symm;refine o (d (yG g7 J ⟨aI,a1.h⟩ _ nP vV X) (λok kT M=>?_) λ_ _ e=>e.elim);obtain⟨zh,pU,hq,xE,yH,sV⟩:=M;have BN:∀b∈a2,b<g7.heap.objs.size:=λb F=>ci (C.lt b F) rD.size;have ly:o6 U pU a2:=C.GF.later BN sV;have Jk:∀b∈a2,b<kT.heap.objs.size:=λb F=>ci (BN b F) sV.size;have T8:It (i+1) pU kT.heap:=Fd.keep _ _ _ _ g7 kT QT sV C.GF (λ_=>False.elim);have QU:IsL kT.heap S a4.toArray a3:=sV.keep S _ T7 (.inl C.own) id;have QV:pU S=none:=(sV.own S (ip T7)).trans C.own;have T9:aC (u pU kT.heap) accv a4:=r.mono (rD.aF.trans sV.aF);have Jl:y (CF j a2 S) G pU I kT:=C.later.trans (rD.trans (sV.weaken (λ_=>False.elim)));induction ok using ff with
  |false=>simp only[Bool.false_eq_true,if_false] at hq⊢;exact cw ⟨z,_,by exact jQ 0x1c301d062101d05211c301d061c201d001d0a111011c001d061 z (hB (n:=H.length+1) (m:=i+1) (aG 0x1011c001d06011c101d061c001d061 z P)) (hB (n:=H.length+1) (m:=i) (aG 0x1011c001d06011c101d060011 z P)),i+1,zh,accv,pU,P,z,by exact aG 0x101001011c101d060011 z Pr,⟨xE,yH,T8,ly,Jk,QV,(fJ a4 a3 QU T9),Jl⟩,hq⟩
  |true=>
   simp only[if_true] at hq⊢;refine o (o (d (yF kT pU zh _ xE yH hq) (λx Ap M=>?_) λ_ _ e=>e.elim));obtain⟨D,T_,zi,hq,hx,Xs,Xu,DN⟩:=M;have BO:o6 U zi a2:=ly.later Jk DN;have Ua:∀b∈a2,b<Ap.heap.objs.size:=λb F=>ci (Jk b F) DN.size;have Xv:It (i+1) zi Ap.heap:=Fd.keep _ _ _ _ kT Ap T8 DN ly (λ_=>False.elim);have Ub:IsL Ap.heap S a4.toArray a3:=DN.keep S _ QU (.inl QV) id;have QW:zi S=none:=(DN.own S (ip QU)).trans QV;have Xw:aC (u zi Ap.heap) accv a4:=T9.mono DN.aF;have hl:=r.length;refine o (wpAny_list_append_plain (l:=S) (items:=a4.toArray) ⟨a3,Ub⟩ (λh' hp hs=>cw (cw ⟨z,_,by exact jQ 0x1c301d062101d05211c301d061c201d001d0a111011c001d061 z (hB (n:=H.length+1) (m:=i+1) (aG 0x1011c001d06011c101d061c001d061 z P)) (hB (n:=H.length+1) (m:=i) (aG 0x1011c001d06011c101d060011 z P)),i+1,T_,accv++[D],zi,P,z,by simp;exact aG 72339138019393553 z Pr,?_,hq⟩)) (by simp [sizeLine];exact jQ 0x1201211011c301d060130120101f4240c06101011000000c080011 z gS Pr P hl));have SW:o6 U zi [S]:=λb F=>by rw[eL.mp F];exact⟨.inl QW,MZ⟩
   refine oA (fK (j:={Ap with heap:=h'}) Xs SW pt (λB e=>.inr (IsL.kS Ub B e)) hs.extBut (Nat.le_of_eq hs.1.symm) (eP z rfl rfl)) λXx Jm=>?_;refine oE hp λk' Uc=>?_;clear hp;haveI ea:a4.toArray.push x=(a4++[x]).toArray:=by simp
   rw[ea] at Uc;refine⟨Xx,Xu.GG Jm λa W F=>Pp a W (eL.mp F),Fd.keep _ _ _ _ Ap {Ap with heap:=h'} Xv Jm BO λb F=>by rw[eL.mp F];exact⟨QW,DC⟩,BO,λb F=>ci (Ua b F) Jm.size,QW,
    (fJ (a4++[x]) k' Uc ((Xw.snoc hx).mono Jm.aF)),Jl.trans ((DN.weaken (λ_=>False.elim)).trans (Jm.weaken λa W=>.inr (.inr (eL.mp W))))⟩
 ·haveI ei:i=H.length:=ng (aG 72339138019393553 z hi) (aG 72339138019393553 z Xr);subst ei;rw[List.drop_length] at X;refine oA X λhs hq=>?_;clear X;refine d (Fd.done J a1.h s (λr a5=>r=none/\t O w U Y J a1.h a5.heap/\y (·∈a2) J J s a5) C.rel hs C.it C.GF λa5 X' l=>(eP z X' l)) (λD N M=>?_) λ_ _ e=>e.elim;refine F5 M ?_;clear M;rintro rfl bQ E;dsimp only;exact cw (hR N J a1 accv ((EP bQ (C.env.GG E Pq) C.own (fJ a4 a3 (E.keep S _ p (.inl C.own) DC) (r.mono E.aF)) (C.later.trans (E.weaken λa W=>.inr (.inl W))))) hq hs Pr)
end
section
variable{O:Program}{w:World}{K:Frag}{Y:Cl->Addr}{j:Fn->Addr}{U:Heap}{v G:Str->Option Value}{A:Around}{s:Shared}{J:cr}{h:Hp}{r x:Env}{f:aV}{L:Kn}
theorem t.QX{S:Addr}(X:t O w U Y J h g)(i:J S=none)(a:U.objs.size<=S):h S=none:=by
 cases e:h S with
 |none=>rfl
 |some c=>
  have y:=X.cell S c e;have k:∀b,J S≠some b:=λb=>by rw[i];exact Ku
  clear e;induction c using kI with
  |list d=>exact absurd y.1<|k _
  |ro d=>exact absurd y.1.1<|Nat.not_lt.mpr a
  |dict lk l=>exact absurd y.1<|k _
  |dg l=>exact absurd y.1<|k _
  |inst c m=>exact absurd y.1<|k _
structure BP(O:Program)(w:World)(U:Heap)(Y:Cl->Addr)(r:Env)(J:cr)(s:Shared)(Q:V->St->Prop)(S C:Addr)(bZ:cr)(σ:St)(s':Shared):Prop where
 post:Q (.ref S) σ
 rel:t O w U Y bZ σ.h s'.heap
 env:aM U r bZ σ.ρ s'.heap
 later:y pZ J bZ s s'
 own:bZ C=none
 big:s.heap.objs.size<=C
 ns:∃a,s'.heap.Ns C a
theorem BP.drop{b i:Shared}{Q:V->St->Prop}{S C:Addr}{σ:St}{d:Heap}{F:Addr->Prop}(M:t O w U Y c h b.heap)(m:b.heap.objs.size<=C)(rL:∀a,ce r a->a≠C)
 (X:t O w U Y g σ.h i.heap)(N:aM U r g σ.ρ i.heap)(l:y F c g b i)(P:g C=none)(I:∃a1,i.heap.Ns C a1)(p:Heap.SameBut C i.heap d)(_:Q (.ref S) σ):
 t O w U Y g σ.h d/\aM U r g σ.ρ d/\y F c g b {i with heap:=d}:=by
 refine kf λGz W=>I.elim λa1 E=>E.elim λo' E=>E.elim λes E=>E.elim λep E=>?_;haveI T:=E.1;haveI q:=E.2.1;clear E;refine W ?_;haveI R:∀o,i.heap.get? C=some o->g C≠none\/¬fU o:=λo e=>.inr λE=>vP E.2 λH n Z=>by rw[T] at e;cases e;rw[Z] at q;cases q
 haveI u:=cO p.extBut R;haveI B:=Nat.le_of_eq p.1.symm;haveI D:y (·=C) g g i {i with heap:=d}:=dS p.extBut u (.inr<|.inl z) B<|eP z rfl rfl;exact(eP (X.ext p.extBut u (.inl P) (eJ M.size m) B) (N.GG D rL)
  (((l.weaken λa k=>(.inl k:F a\/a=C)).trans<|D.weaken λa k=>.inr k).fresh λa k=>k.imp id λe=>by rw[e];exact m))
theorem Jn{W:List Expr}
 (hh:A.handled=none)(kk:eK r L)(CY:eT L T tg)(i:Na r (dc T tU) cl)(E3:pS (jJ<|e8 L T) tg)
 (yF:∀x,eK x (jJ<|e8 L T)->f_ O w U Y A x Jj rN)(yG:∀x,eK x (jJ<|e8 L T)->GD O w U Y A x Wc W)
 (BQ:t O w U Y J h a6.heap)(Jo:aM U r J f a6.heap)(ei:gO a4 vs h=some (xs,c))(gS:xs.length<=1000000)
 (hc:kC c (dA tg) Wc Jj (λres a3=>∀a,a3.h a=none->a2 (.ref a) ⟨f,h9 (dK (a9 a4 vs h) false a3.h) a<|.list res⟩) xs [] ⟨gW tg f,dK (a9 a4 vs h) true h⟩)
 (a7:mR O w U Y A (qO (a9 a4 vs h) J) (dK (a9 a4 vs h) true h) a6 c xs it a5)
 (QY:∀S a1 bZ g a3,BP O w U Y r J a6 a2 S a1 bZ g a3->aL (u bZ a3.heap) (.ref S) (.ref S)->(∀a,ce r a->a≠a1)->compPost (model O w) A dk use Qv (.ref S) a1 (.ok .next) a3):
 wpAny (model O w) A (newList []) (λE g7=>wpAny (model O w) A (newFunctionEnv (dc T tU) r.globals cl [] r.qual none .none<|some r) (λx X=>codeAny (model O w) A (.compStart (.ListComp rN [⟨Ai tg A4,iter,W,0⟩] (dc T tU) pos) 0 it E {x with scope:=relabel (dc T tU) r}) (compPost (model O w) A dk use Qv E x.locals) X) dk g7) dk a5:=by
 obtain⟨dM,fp,It,Fd,h0,hf,Nf,eM,Z⟩:=a7;have Ud:∀B∈(dc T tU).names,B.2≠.cell:=λB hx=>by refine bS (List.mem_map.mp hx) λp hp y1=>?_;clear hx;subst y1;obtain⟨C,k⟩:=p;rcases iY CY hp with⟨q,_⟩|⟨q,_⟩|q<;>dsimp only at q<;>(clear hp;subst q)<;>exact nofun
 refine wpAny_newObj_type<|wpAny_newFunctionEnv Ud (by intro C hy;simp at hy) (λbh sW H=>?_) rfl;dsimp only at sW H⊢;generalize Xy:a5.heap.push {cls:=.type "list",dict:=none,data:=.seq ([]:List Value).toArray}=H2 at sW H⊢;have hC:H2.objs.size=a5.heap.objs.size+1:=by rw[<-Xy,pu]
 generalize Wv:H2.objs.size=a1 at sW H hC⊢;generalize Q:a5.heap.objs.size=S at hC⊢;have I:S<a1:=by rw[hC];exact Nat.lt_succ_self _
 clear hC;have Pp:=Nat.ne_of_lt I;have old:∀b o,a5.heap.get? b=some o->bh.get? b=some o:=λb o e=>by have hb:=ip e;refine H.extBut b o (by rw[Q] at hb;exact Nat.ne_of_lt<|f6 hb I)<|mj _<|Xy▸mj _ e
 have hz:a5.heap.objs.size<=bh.objs.size:=by have:=H.1;rw[pu] at this;exact L1 [_,_,_,_,_] 0x1c201d06101213011c401d060140100111301201211010011 z Wv Q I this
 have Ue:IsL bh S ([]:List Value).toArray 0:=by refine H.extBut S _ Pp<|mj _ ?_;rw[<-Xy,<-Q];exact sK _ z
 generalize mn:({a5 with heap:=bh,toks:=a5.toks+([]:List<|Str×Value).length}:Shared)=X;have tV:y pZ dM dM a5 X:=by rw[<-mn];exact jd old hz<|eP z rfl rfl
 have xE:t O w U Y dM (dK (a9 a4 vs h) true h) X.heap:=by rw[<-mn];exact eM.grow old hz
 have N:=Q▸Z.size;have P:=eJ N<|Nat.le_of_lt I;have nS:=eM.fresh<|Nat.le_of_eq Q;have nC:=eM.fresh<|Q▸Nat.le_of_lt I;clear eM;have yH:=((Jo.lock BQ).later Z).later tV;have DO:∀n a,(n,a)∈r.cells->a<a6.heap.objs.size:=λn a F=>(Jo.each n a F).1.elim λC hy=>hy.lt;have Nc:aM U (compEnvC (dc T tU) cl a1 r) dM (gW tg f) X.heap:=by refine Ji kk CY i yH ⟨nC,eJ BQ.size P⟩ ?_ λn a F=>Nat.ne_of_lt<|ci (DO n a F) P;rw[<-mn];exact sW
 have Ug:=Jo.ns.elim λ_ D=>D.1.lt;have QZ:∀a,ce r a->a<a6.heap.objs.size:=λa M=>by
  refine db M ?_ ?_;·clear M;rintro rfl;exact Ug
  ·clear M;rintro⟨n,F⟩;exact DO n a F
 have fc:∀a,ce (compEnvC (dc T tU) cl a1 r) a->a=a1\/a<a6.heap.objs.size:=λa M=>by
  clear Wv sW H Nc Pp I P nC;refine db M ?_ ?_;·clear M;rintro rfl;exact .inl z
  ·clear M;rintro⟨n,F⟩;exact .inr<|DO n a<|mem_of_lookup<|i.sub _ F
 have kc:=Nd (n:=a1) kk Jo.kind CY i;clear i kk;have R:codeAny (model O w) A (.compLoop (.ListComp rN [⟨Ai tg A4,iter,W,0⟩] (dc T tU) pos) 0 it (.ref S)<|compEnvC (dc T tU) cl a1 r) (compPost (model O w) A dk use Qv (.ref S) a1) X:=by
  refine GH (G:=dM) (I:=X) (i:=0) (a1:=⟨gW tg f,dK (a9 a4 vs h) true h⟩) (accv:=[]) hh Fd kc E3 (λC hy=>?_) (yF _ kc) (yG _ kc) (λF=>absurd (Q▸(Nf S F).2)<|Nat.lt_irrefl _) (eJ BQ.size N)
   (λa M=>?_) (λa M F=>?_) gS (λa3 bZ g accv hd hq I3 Pr=>?_) (Nat.zero_le _) (Nat.zero_le _)
   ⟨xE,Nc,Fd.keep _ _ _ _ a5 X h0 tV hf λ_=>False.elim,hf,λb hb=>ci (Nf b hb).2 (mn▸hz),nS,(fJ ([]) 0 (by rw[<-mn];exact Ue) .nil),y.refl _ _ _⟩ hc
  ·have V:=tS CY hy;show(relabel (dc T tU) r).names.lookup (an C)=_;refine lookup_relabel_local ?_;show(T.map λp=>(an p.1,tP p.2)).lookup _=_;rw[gK,V];rfl
  ·clear Wv sW H kc Nc I P nC;refine db (fc a M) ?_ ?_;·rintro rfl;exact Ne.symm Pp
   ·intro q;exact Nat.ne_of_lt<|ci q N
  ·clear Wv sW H kc Nc Pp P nC;refine db (fc a M) ?_ ?_;·rintro rfl;exact absurd (f6 (Q▸(Nf _ F).2) I)<|Nat.lt_irrefl _
   ·intro q;have:=(Nf _ F).1;exact absurd (ci q this)<|Nat.lt_irrefl _
  ·refine EO hd ?_;clear hd;rintro X' N' n' jP l';refine iB jP λE e p l=>?_;clear jP;have lA:y pZ (qO (a9 a4 vs h) J) bZ a6 a3:=(((Z.trans tV).weaken λ_=>False.elim).trans l').fresh λa M=>by
    rcases M with V|V|V
    ·exact .inr<|V▸P
    ·exact .inr (Nf a V).1
    ·exact .inr<|V▸N
   refine oU (xy BQ ei X' I3 lA) λX5 l5 Ww Xz=>?_;have hSn:=X'.QX n'<|eJ BQ.size N;have n5:=(Ww S).mpr n';have t5:=rz (J:=xx (a9 a4 vs h) bZ)<|IsL.kS p;have k8:=ip p;have l6:=l5.adopt N<|IsL.kS p;refine QY S a1 _ ⟨f,_⟩ a3 ⟨hq S hSn,X5.adopt n5 (eJ BQ.size N) k8 (IsL.kS p)<|wN (if_pos z) (aG 0x10100101f4240c0610101f4240c060011 z gS Pr) E e p<|by rw[<-Xz] at l;exact l.mono t5,Jo.later l6,l6,?_,P,?_⟩ (.ref S) λa M=>Nat.ne_of_lt<|ci (QZ a M) P;·show(if a1=S then some S else _)=none;rw[if_neg<|Ne.symm Pp];refine(Ww a1).mpr<|(l'.own a1 ?_).trans nC;exact bS Nc.ns λm F _=>F.lt
   ·exact bS N'.ns λm F _=>⟨m,F⟩
 refine codeAny_compStart_list R<|d (Fd.aq 0 dM X (λZt a3=>Zt=it/\a3=X) (Fd.keep _ _ _ _ a5 X h0 tV hf λ_=>False.elim) ⟨rfl,rfl⟩) (λZt a3 hv=>?_) λ_ _ e=>e.elim;refine oA hv ?_;clear hv Fd Nc yH xE mn tV;rintro rfl rfl;exact R
end
structure p_(K:Frag)(Y:Cl->Addr)(a:Fn->Addr):Prop where
 Pu:∀f,keepIn K (.ref<|a f)=true
 Uh:∀c,keepIn K (.ref<|Y c)=true
 isF:∀f,typeIn K (.ref<|a f)=some (.type "function")
 makes:∀c,makesIn K (Y c)=true
 init:∀c f,uI c=some f->findIn K (.ref<|Y c) "__init__"=some (some<|.ref<|a f)
structure g9(a n:Nat)(A:Around):Prop where
 handled:A.handled=none
 depth:A.depth+4*n<=900+a
 units:A.units+10*n+800<=9900+a
def je(O:Program)(w:World)(U:Heap)(Y:Cl->Addr)(g:Fn->Addr)(T:Sp)(n:Nat):Prop:=
 ∀(f:Fn)(d:List V)(Q:dC)(h:Hp),T f d Q h->∀(A:Around)(s:Shared)(J:cr)(e:List Value)(R:Result->Shared->Prop),g9 3 n A->t O w U Y J h s.heap->aC (u J s.heap) d e->
  (∀i a v c b,Q v c->aL (u b a.heap) v i->t O w U Y b c a.heap->y pZ J b s a->R (.ok<|.ret i) a)->codeAny (model O w) A (.call (.ref<|g f) ⟨e,[]⟩) R s
section
variable{O:Program}{w:World}{K:Frag}{Y:Cl->Addr}{g:Fn->Addr}{U:Heap}{i j:Str->Option Value}{A:Around}{s:Shared}{J:cr}{h:Hp}{C:Env}{k:aV}{L:Kn}{T:Sp}{n:Nat}
theorem g9.line(r:g9 b n A)(a:b<=3):A.units+700<cLine:=by have:=r.units;have:cLine=9900:=z;lia
theorem g9.three(r:g9 0 n A):g9 3 n A:=⟨r.handled,by have:=r.depth;exact eJ ‹_› m,by have:=r.units;exact ci ‹_› m⟩
noncomputable def Jp(J:cr)(d a:Addr):cr:=λx=>if x=a\/x=d then some a else J x
theorem xL(X:t O w U Y J h<|Shared.heap ⟨s.heap,a2,a1,a4,a3⟩):
 t O w U Y (Jp J s.heap.objs.size<|s.heap.objs.size+1) (h9 h (s.heap.objs.size+1)<|.inst c []) ((s.heap.push emptyDict).push<|instObj (Y c) s.heap.objs.size)/\
  y pZ J (Jp J s.heap.objs.size<|s.heap.objs.size+1) s {s with heap:=(s.heap.push emptyDict).push (instObj (Y c) s.heap.objs.size)}:=by
 have X:t O w U Y J h s.heap:=X;generalize m:(s.heap.push emptyDict).push (instObj (Y c) s.heap.objs.size)=l;have p:l.objs.size=s.heap.objs.size+2:=by rw[<-m,pu,pu]
 have a:∀b a3,s.heap.get? b=some a3->l.get? b=some a3:=λb a3 e=>by rw[<-m];exact mj _<|mj _ e
 have D:l.get? (s.heap.objs.size+1)=some (instObj (Y c) s.heap.objs.size):=by rw[<-m];have:=sK (s.heap.push emptyDict) (o:=instObj (Y c) s.heap.objs.size) z;rwa [pu] at this
 have E:l.get? s.heap.objs.size=some emptyDict:=by rw[<-m];exact mj _<|sK _ z
 have F:∀{x:Addr},x<s.heap.objs.size->¬(x=s.heap.objs.size+1\/x=s.heap.objs.size):=λr q=>by
  rcases q with q|q<;>rw[q] at r
  ·exact absurd (f6 (Nat.lt_succ_self _) r)<|Nat.lt_irrefl _
  ·exact Nat.lt_irrefl _ r
 have f:∀o,o<s.heap.objs.size->Jp J s.heap.objs.size (s.heap.objs.size+1) o=J o:=λo d=>if_neg<|F d;have v:bC (u J s.heap)<|u (Jp J s.heap.objs.size<|s.heap.objs.size+1) l:=λx a3 e _=>by rw[bV] at e⊢;exact⟨(f x<|ip e.2).trans e.1,a x a3 e.2⟩
 refine⟨⟨λb a3 e=>a b a3<|X.base b a3 e,X.big,by rw[p];have:=X.size;exact aG 0x101001012c101d060011 z this,λo b e=>?_,λb B e=>?_⟩,⟨by rw[p];exact ox _ _,f,λx a3 e _ _=>a x a3 e,v,z,z,z⟩⟩
 ·unfold Jp at e;by_cases q:o=s.heap.objs.size+1\/o=s.heap.objs.size
  ·have:=X.size;rcases q with q|q<;>rw[p,q]
   ·exact⟨Nat.le_succ_of_le this,Nat.lt_succ_self _⟩
   ·exact⟨this,ci (Nat.lt_succ_self _)<|Nat.le_succ _⟩
  ·rw[if_neg q] at e;exact⟨(X.owned o b e).1,by rw[p];exact ci (X.owned o b e).2 (ox _ _)⟩
 ·unfold h9 at e;by_cases q:b=s.heap.objs.size+1;·rw[if_pos q] at e;cases e;subst q;exact⟨if_pos<|.inl z,s.heap.objs.size,[],0,⟨if_pos<|.inr z,Nat.ne_of_lt<|Nat.lt_succ_self _⟩,D,E,.nil,List.nodup_nil,λ_ h=>absurd h i3⟩
  ·rw[if_neg q] at e;exact(X.cell b B e).z7 (λb a3 _ e=>a b a3 e) v f
set_option backward.match.sparseCases true in
theorem Jq(G:p8 w K Y g U i j)(f:p_ K Y g)(N:aM U C J k s.heap)(X:t O w U Y J h s.heap)(d:eK C L)
 (x:Bf a3=some a7)(o:KD L a7)(b:xs.all cx)
 (q:mC (model O w) A C xs (λa4 a=>(∃J h,t O w U Y J h a.heap)/\codeAny (model O w) A (.call (.ref<|g a3) ⟨a4,[]⟩) (λr a2=>match r with|.ok (.ret a6)=>a1 a6 a2|.ok _=>False|.error e=>dk e a2) a) s):
 wpAny (model O w) A (eval (.Call (.Name (an a7) a5) xs [] pos) C) a1 dk s:=by
 refine uN<|tR G N X d o (G.fn a3 a7 x) ?_;refine callWith_of (P:=K.In) (by rw[mD b];rfl) (keeps_K<|f.Pu a3)<|j6 b<|cE q λa4 a l=>?_;refine oA l λc m=>?_;refine vP c λJ h X=>?_;clear c;exact⟨X.in G,wpAny_call m⟩
set_option backward.match.sparseCases true in
theorem Jr(G:p8 w K Y g U i j)(p:p_ K Y g)(N:aM U C J k s.heap)(X:t O w U Y J h s.heap)(f:eK C L)
 (o:KD L<|yv c)(b:xs.all cx)
 (q:mC (model O w) A C xs (λa2 a=>(∃J h,t O w U Y J h a.heap)/\codeAny (model O w) A (.call (.ref<|Y c) ⟨a2,[]⟩) (λr a1=>match r with|.ok (.ret a4)=>x a4 a1|.ok _=>False|.error e=>dk e a1) a) s):
 wpAny (model O w) A (eval (.Call (.Name (an<|yv c) a3) xs [] pos) C) x dk s:=by
 refine uN<|tR G N X f o (G.cl c) ?_;refine callWith_of (P:=K.In) (by rw[mD b];rfl) (keeps_K<|p.Uh c)<|j6 b<|cE q λa2 a l=>?_;refine oA l λd m=>?_;refine vP d λJ h X=>?_;clear d;exact⟨X.in G,wpAny_call m⟩
theorem DP(r:g9 0 n A):g9 3 n<|A.under<|.builtin "type.__call__" ⟨.ref c::rest,[]⟩:=by
 refine⟨r.handled,?_,?_⟩
 ·have:Code.weight (.builtin "type.__call__" ⟨.ref c::rest,[]⟩)<=1:=by
   show Code.frames _+(if Code.isCreation _ then 1 else 0)+(if Code.isGuard _ then 1 else 0)+(if Code.isCaller _ then claimMargin else 0)<=1;haveI a:Code.frames (.builtin "type.__call__" ⟨.ref c::rest,[]⟩)=0:=by rfl
   haveI b:Code.isCreation<|.builtin "type.__call__" ⟨.ref c::rest,[]⟩:=by rfl
   haveI d:Code.isGuard (.builtin "type.__call__" ⟨.ref c::rest,[]⟩)=false:=by rfl
   haveI e:Code.isCaller (.builtin "type.__call__" ⟨.ref c::rest,[]⟩)=false:=by rfl
   rw[a,b,d,e];decide
  show A.depth+Code.weight _+4*n<=900+3;have:=r.depth;lia
 ·have:Code.cUnits (.builtin "type.__call__" ⟨.ref c::rest,[]⟩)=1:=by rfl
  show A.units+Code.cUnits _+10*n+800<=9900+3;rw[this];have:=r.units;exact aG 0xc26acc05d09320c1a01e001d09d10013c26acc05d0a320c1a01e1c001d06d0ed151 z this
theorem Ng{R:Result->Shared->Prop}(G:p8 w K Y g U i j)(E:p_ K Y g)(D:je O w U Y g T n)(r:g9 0 n A)(X:t O w U Y J a.h s.heap)
 (Z:aC (u J s.heap) vs xs)(m:Mz T c vs a1 a)
 (M:∀a4 b a3 a2 e,a1 a3 ⟨a.ρ,a2⟩->aL (u e b.heap) a3 a4->t O w U Y e a2 b.heap->y pZ J e s b->R (.ok<|.ret a4) b):
 codeAny (model O w) A (.call (.ref<|Y c) ⟨xs,[]⟩) R s:=by
 refine bS m λf N m=>?_;haveI W:=E.init c f N;haveI m:=m (s.heap.objs.size+1)<|X.oX<|Nat.le_succ _;obtain⟨x,v,d,B,H⟩:=s;haveI q:=X.in (s:=⟨x,v,d,B,H⟩) G;refine make_core (makes_of q<|E.makes c) (looks_findIn q W) (λI=>bind_fn q I<|E.isF f) (.inl z)<|(xL (s:=⟨x,v,d,B,H⟩) (c:=c) (a2:=v) (a1:=d) (a4:=B) (a3:=H) X).elim λF l=>D f _ _ _ m _ _ _ _ _ (DP r) F (.cons (.ref _)<|Z.mono l.aF) λa4 b a3 a2 e p P o Q=>?_;refine oA p ?_;clear p;rintro rfl p;obtain rfl:=P.none_inv;exact⟨z,M _ b _ a2 e p (.ref _) o<|l.trans Q⟩
end
section
variable(O:Program)(w:World)(U:Heap)(Y:Cl->Addr)
inductive DQ(a:Env)(J:cr)(s:Shared)(Q:List V->St->Prop)(ys:List Value)(s':Shared):Prop
 |mk (vs:List V) (σ:St) (bZ:cr) (hq:Q vs σ) (hv:aC (u bZ s'.heap) vs ys) (X:t O w U Y bZ σ.h s'.heap) (b:aM U a bZ σ.ρ s'.heap) (c:y pZ J bZ s s'):DQ a J s Q ys s'
def m8(A:Around)(H:Env)(W:(List V->St->Prop)->St->Prop)(b:List Expr):Prop:=∀(s:Shared)(J:cr)(a:St)(Q:List V->St->Prop),
 t O w U Y J a.h s.heap->aM U H J a.ρ s.heap->W Q a->mC (model O w) A H b (DQ O w U Y H J s Q) s
end
section
variable{O:Program}{w:World}{K:Frag}{Y:Cl->Addr}{v:Fn->Addr}{U:Heap}{x j:Str->Option Value}{A:Around}{s:Shared}{J:cr}{h:Hp}{C:Env}{k:aV}{L:Kn}{T:Sp}{n:Nat}
theorem mP.later(l:y pZ J c s b)(p:mP O w U Y C c b r a2 a1):mP O w U Y C J s r a2 a1:=by obtain⟨d,a,e,f,g,X,N,i⟩:=p;exact⟨d,a,e,f,g,X,N,l.trans i⟩
theorem vA.later(l:y pZ J c s b)(p:vA O w U Y C c b r a1 i):vA O w U Y C J s r a1 i:=by obtain⟨a,e,f,X,N,g⟩:=p;exact⟨a,e,f,X,N,l.trans g⟩
theorem l.o8{r:R}{g:cr}{e o:Shared}{b:St}{Q:V->St->Prop}{z:Value}(N:aM U C g b.ρ e.heap)(d:y pZ J g s e)(m:nF r Q b)(p:l O w U Y g b.h e r z o):mP O w U Y C J s Q z o:=by
 induction r using R.casesOn with
 |val u=>refine F5 p λi X f=>?_;exact⟨u,b,g,m,i,X,N.later f,d.trans f⟩
 |new c=>refine zR p ?_;clear p;rintro a q rfl t X f;exact⟨.ref a,_,q,m a t,.ref a,X,N.later f,d.trans f⟩
 |upd a c u=>refine F5 p λi X f=>?_;exact⟨u,_,g,m,i,X,N.later f,d.trans f⟩
theorem GJ(g:Pk r):f_ O w U Y A C (gg T<|.hD r)<|I7 r a1:=by
 intro s J a Q X N f;haveI e:∀y t,aL (u J s.heap) r y->mP O w U Y C J s Q y {s with toks:=t}:=λy t l=>⟨r,a,J,f,l,X,N,oY s t⟩;clear f;induction r using gQ with
 |none=>exact wpAny_Constant_none<|e _ s.toks .none
 |bool b=>exact wpAny_Constant_bool<|e _ s.toks<|.bool _
 |int i=>exact j5 λc t=>e _ t<|.int _ c
 |str t=>exact wpAny_Constant_str<|e _ _<|.str _ _
 |aF _=>cases g
 |ref _=>cases g
theorem Js(G:p8 w K Y v U x j)(l:eK C L)(i:KD L<|F0 g):f_ O w U Y A C (gg T<|.fS g)<|.Name (an<|F0 g) r:=by intro s J a Q X N f;refine iB (G.gl g) λt b e c=>?_;exact tR G N X l i c ⟨SP g,a,J,f,by rw[e];exact .str b t,X,N,y.refl _ _ _⟩
theorem Nh(g:eK C L)(e:L6 L r):f_ O w U Y A C (gg T<|.ai r)<|.Name (an r) i:=by intro s J a Q X N b;exact bS b λd c b=>I9 N g e c λz f=>⟨d,a,J,b,f,X,N,y.refl _ _ _⟩
theorem E4{s:Shared}(i:DQ O w U Y C J s (λe s=>∃r,ay a2 e s.h=some r/\nF r a1 s) a3 a):
 sR O w U Y C a2 (mP O w U Y C J s a1) a3 a:=by
 refine kf λp g=>?_;obtain⟨e,t,q,c,m,f,b,d⟩:=i;refine bS c λr u o=>?_;clear c;exact g<|⟨f,b,m,u,λy z a2=>l.o8 b d o a2⟩
theorem Jt(G:p8 w K Y v U x j)(r:g9 0 n A)(i:eK C L)(b:xs.all cx)(o:Ah L a1 xs)(g:m8 O w U Y A C (ju T e) xs):f_ O w U Y A C (gg T<|.ay a1 e)<|E0 a1 xs a2:=by intro s J a Q X N f;exact Gy r.handled (r.line<|L1 [] 1006813201 z) G N X i b o<|cE (g s J a _ X N f) λl c b=>E4 b
theorem GK(B:xs.all cx)(R:xo a3 xs.length a4)(P:QK a2 xs.length)(o:f_ O w U Y A C (gg T a1) a3)(I:m8 O w U Y A C (ju T es) xs):
 f_ O w U Y A C (gg T<|.iT a2 a1 es)<|BD (Xj a2) a3 xs a4:=by
 intro s J a Q X N g;refine DK (U:=U) (Y:=Y) B R P<|d (o s J a _ X N g) (λov f M=>?_) λ_ _ y=>y;obtain⟨t,b,G,q,E,p,Z,c⟩:=M;refine bS q λkd i g=>?_;clear q;refine⟨p,E,i.1,i.2,cE (I f G b _ p Z g) λys z W=>?_⟩;obtain⟨vs,f7,dM,S,V,u,m,e⟩:=W;obtain⟨F,r,D,H⟩:=S;exact⟨u,m,V,F,D,λy s' a2=>mP.later c<|l.o8 m e H a2⟩
theorem Ju(G:p8 w K Y v U x j)(B:p_ K Y v)(W:je O w U Y v T n)(r:g9 0 n A)(t:xs.all cx)(z:xo o' xs.length a3)
 (Z:f_ O w U Y A C (gg T a2) o')(ih:m8 O w U Y A C (ju T es) xs):f_ O w U Y A C (gg T<|.cz a2 a1 es)<|BD (dx a1) o' xs a3:=by
 intro s J b Q X N g;refine ze (p (p z).1).1 (p (p z).1).2 (Nat.le_of_ble_eq_true (p z).2) t (d (Z s J b _ X N g) (λov o E pl=>?_) λ_ _ y=>y);obtain⟨u,e,D,⟨a,c,fs,f,rfl,R,hf,g⟩,hv,m,P,i⟩:=E;obtain rfl:=hv.cq;refine Je G m R hf ?_;refine callWith_of (P:=K.In) (by rw[mD t];rfl) (keeps_K<|B.Pu f)<|j6 t<|cE (ih o D e _ m P g) λys q H=>?_;obtain⟨vs,S,I,g,vT,F,V,l⟩:=H;refine⟨F.in G,wpAny_call ?_⟩;exact W f _ _ _ g A q I (.ref a::ys) _ r.three F (.cons (.ref a) vT) λy g7 u h' qH hQ hy nP M=>⟨u,⟨S.ρ,h'⟩,qH,hQ,hy,nP,V.later M,i.trans<|l.trans M⟩
theorem Jv(G:p8 w K Y v U x j)(u:p_ K Y v)(l:je O w U Y v T n)(r:g9 0 n A)(Z:eK C L)(q:Bf a1=some a4)(F:KD L a4)(M:xs.all cx)
 (W:m8 O w U Y A C (ju T a3) xs):f_ O w U Y A C (gg T<|.call a1 a3)<|.Call (.Name (an a4) a2) xs [] pos:=by
 intro s J a Q X N e;refine Jq G u N X Z q F M<|cE (W s J a _ X N e) λE c m=>?_;obtain⟨I,t,o,e,D,g,p,b⟩:=m;exact⟨(H3 _ _ g),l a1 _ _ _ e A c o E _ r.three g D λa4 H f z B d q y i=>⟨f,⟨t.ρ,z⟩,B,d,q,y,p.later i,b.trans i⟩⟩
theorem Ni(G:p8 w K Y v U x j)(u:p_ K Y v)(l:je O w U Y v T n)(r:g9 0 n A)(W:eK C L)(d:KD L<|yv c)(F:xs.all cx)
 (M:m8 O w U Y A C (ju T a1) xs):f_ O w U Y A C (gg T<|.new c a1)<|.Call (.Name (an<|yv c) a2) xs [] pos:=by
 intro s J a Q X N e;refine Jr G u N X W d F<|cE (M s J a _ X N e) λR i m=>?_;obtain⟨P,q,H,e,E,f,t,b⟩:=m;exact⟨(H3 _ _ f),Ng (g:=v) G u l r f E e λy I o p D z B Z g=>⟨o,⟨q.ρ,p⟩,D,z,B,Z,t.later g,b.trans g⟩⟩
theorem Nj(t:vU O w U Y A C (qh T c) a3)(G:f_ O w U Y A C (gg T a2) a1)(F:f_ O w U Y A C (gg T e) a4):f_ O w U Y A C (gg T<|.ite c a2 e)<|.IfExp a3 a1 a4 pos:=by
 intro s J a Q X N m;refine wpAny_IfExp<|d (t s J a _ X N m) (λb i u=>?_) λ_ _ y=>y;obtain⟨f,p,m,q,r,g⟩:=u;induction b using ff with
 |true=>exact d (G i p f _ q r<|m) (λy l o=>o.later g) λ_ _ y=>y
 |false=>exact d (F i p f _ q r<|m) (λy l o=>o.later g) λ_ _ y=>y
theorem E5{H i:St}{f e:Shared}(r:g9 0 n A)(N:aL (u a5 f.heap) a4 a)(g:y pZ a5 a3 f e){c:V}(M:aL (u a3 e.heap) c b)(m:t O w U Y a3 i.h e.heap)(F:aM U C a3 i.ρ e.heap)(o:y pZ J a5 s f)
 (q:(∃a2,ga i.h a4 (.list a2)/\ga i.h c (.list a2)/\jb a2<=500)/\a1 (.bool false) i)(_:H=H):wpAny (model O w) A (compareOp .NotEq a b) (mP O w U Y C J s a1) dk e:=by
 refine oA q λE q=>?_;refine iK E λa2 B W G=>?_;clear E;exact d (Gr m B W G (N.mono g.aF) M (by have:=r.line<|L1 [] 1006813201 z;exact aG 0x1011c2bcc001d08d0d011011c258c001d08d0d1 z this)) (λD X p=>l.o8 (r:=.val<|.bool false) F (o.trans g) q p) λ_ _ D=>D
theorem Jw(r:g9 0 n A)(G:(!behindInMarks .NotEq a2))(t:f_ O w U Y A C (gg T a) a1)(u:f_ O w U Y A C (gg T b) a2):f_ O w U Y A C (gg T<|.jE a b)<|.Compare a1 [.NotEq] [a2] a3:=by intro s J c Q X N g;refine wpAny_Compare1 (d (t s J c _ X N g) (λy m M=>?_) λ_ _ y=>y)<|Bool.not_eq_true' _▸G;obtain⟨p,f,o,g,I,F,Z,i⟩:=M;refine d (u m o f _ F Z g) (λB q W=>?_) λ_ _ y=>y;obtain⟨e,R,P,g,H,D,E,l⟩:=W;exact E5 (H:=f) r I l H D E i g z
theorem xF{m:Sem Value}{Q:Bool->St->Prop}{b:Bool}{a:St}{p:Value}{c:Shared}{e:cr}{o:V}(_:m=m)(X:t O w U Y e a.h c.heap)(N:aM U C e a.ρ c.heap)(l:y pZ J e s c)(i:aL (u e c.heap) o p)
 (g:Mine.Internal.rn o a.h=some b)(f:Q b a):wpAny (model O w) A (PySem.truthy p) (vA O w U Y C J s Q) dk c:=
 y_ X g i λd=>⟨a,e,f,X,N,l.trans<|oY c d⟩
theorem GN(p:∀a1,isTrue a4 C a1=(do let a2<-a1;standAt a4.pos;holding [a2] (PySem.truthy a2)))(t:f_ O w U Y A C (gg T a3) a4):vU O w U Y A C (qh T<|.e a3) a4:=by intro s J a Q X N e;refine wpAny_isTrue_value (d (t s J a _ X N e) (λy i m=>?_) λ_ _ a4=>a4)<|p _;obtain⟨a2,f,u,g,r,l,o,c⟩:=m;refine bS g λb q e=>?_;clear g;exact xF (m:=pure y) z l o c r q e
theorem yI(r:g9 0 n A)(g:Ah L (.eW a1) xs)(W:m8 O w U Y A C (ju T a2) xs):vU O w U Y A C (qh T<|.e<|.ay (.eW a1) a2)<|E0 (.eW a1) xs a3:=by intro s J c Q X N e;refine vP (M_ (p (p g).1).1) ?_;rintro a b rfl;have o:=(p g).2;refine wpAny_isTrue_Compare1 (d (W s J c _ X N e) (λa i m=>d m (λb l q=>?_) λ_ _ y=>y) λ_ _ y=>y)<|Bool.not_eq_true' _▸o;refine d (Ja (r.line<|L1 [] 1006813201 z)<|E4 (s:=s) (J:=J) q) (λB I M=>?_) λ_ _ y=>y;obtain⟨u,H,P,f,G,D,E,Z⟩:=M;refine bS f λt F e=>?_;clear f;exact xF (m:=pure B) z D E Z G F e
theorem xG(r:g9 0 n A)(P:(!behindInMarks .NotEq a3))(F:f_ O w U Y A C (gg T a) a1)(G:f_ O w U Y A C (gg T b) a3):vU O w U Y A C (qh T<|.e<|.jE a b)<|.Compare a1 [.NotEq] [a3] a2:=by intro s J c Q X N g;refine wpAny_isTrue_Compare1 (d (F s J c _ X N g) (λy m D=>?_) λ_ _ y=>y)<|Bool.not_eq_true' _▸P;obtain⟨u,f,W,g,o,Z,H,i⟩:=D;refine d (G m W f _ Z H g) (λB p E=>?_) λ_ _ y=>y;obtain⟨e,f7,dM,g,S,I,M,l⟩:=E;refine d (E5 (a1:=λu s=>∃b,Mine.Internal.rn u s.h=some b/\Q b s) (H:=f) r o l S I M i g rfl) (λB g7 V=>?_) λ_ _ y=>y;obtain⟨u,Pw,qH,q,o,nP,vV,j7⟩:=V;refine bS q λt R g=>?_;clear q;exact xF (m:=pure B) z nP vV j7 o R g
theorem Nk(p:vU O w U Y A C (qh T b) r):vU O w U Y A C (qh T<|.not b)<|.UnaryOp .Not r pos:=by intro s J a Q X N f;exact wpAny_isTrue_Not<|d (p s J a _ X N f) (λz g m=>by obtain⟨c,i,f,l,o,e⟩:=m;exact⟨c,i,f,l,o,e⟩) λ_ _ r=>r
theorem Nl:m8 O w U Y A C (ju T .nil) []:=by intro s J a Q X N b;exact⟨[],a,J,b,.nil,X,N,y.refl _ _ _⟩
theorem Jx(G:f_ O w U Y A C (gg T e) a1)(M:m8 O w U Y A C (ju T a2) xs):m8 O w U Y A C (ju T<|.cons e a2)<|a1::xs:=by intro s J a Q X N f;refine d (G s J a _ X N f) (λy i l=>?_) λ_ _ y=>y;obtain⟨z,c,o,f,W,p,r,g⟩:=l;refine cE (M i o c _ p r f) λD m l=>?_;obtain⟨B,u,q,f,Z,t,F,b⟩:=l;exact⟨z::B,u,q,f,.cons (W.mono b.aF) Z,t,F,g.trans b⟩
end
section
variable(O:Program)(w:World)(U:Heap)(Y:Cl->Addr)
def Q2(a:BoolOp)(b:Bool):Prop:=(a=.And/\b)\/(a=.Or/\b=false)
def Jy(A:Around)(H:Env)(b:Bool)(W:(V->St->Prop)->St->Prop)(i:List Expr):Prop:=∀(e:BoolOp)(c:Pos)(s:Shared)(J:cr)(a:St)(Q:V->St->Prop),Q2 e b->
 t O w U Y J a.h s.heap->aM U H J a.ρ s.heap->W Q a->wpAny (model O w) A (boolOp c e<|evalEach i H) (mP O w U Y H J s Q) dk s
def E6(A:Around)(H:Env)(b:Bool)(W:(Bool->St->Prop)->St->Prop)(e:List Expr):Prop:=∀(c:BoolOp)(s:Shared)(J:cr)(a:St)(Q:Bool->St->Prop),Q2 c b->
 t O w U Y J a.h s.heap->aM U H J a.ρ s.heap->W Q a->wpAny (model O w) A (allTrue c e H) (vA O w U Y H J s Q) dk s
end
section
variable{O:Program}{w:World}{K:Frag}{Y:Cl->Addr}{v:Fn->Addr}{U:Heap}{r f:Str->Option Value}{A:Around}{s:Shared}{J:cr}{h:Hp}{C:Env}{g:aV}{L:Kn}{T:Sp}{n:Nat}
theorem GO:Jy O w U Y A C b (Ii T b .nil) xs:=by intro j i s J a Q e X N c;exact c.elim
theorem GP(c:f_ O w U Y A C (gg T e) x):Jy O w U Y A C b (Ii T b<|.cons e .nil) [x]:=by intro l k s J a Q j X N i;exact c s J a Q X N i
set_option backward.match.sparseCases true in
theorem DR{x F:Expr}(Z:f_ O w U Y A C (gg T e) x)(G:Jy O w U Y A C b (Ii T b<|.cons e' es)<|F::xs):
 Jy O w U Y A C b (Ii T b<|.cons e<|.cons e' es)<|x::F::xs:=by
 intro P I s J a Q R X N m;show wpAny (model O w) A (do
  let E<-eval x C
  standAt I
  let t<-holding [E] (PySem.truthy E);match P,t with
  |.And,false=>pure E
  |.Or,true=>pure E
  |_,_=>boolOp I P<|evalEach (F::xs) C) _ dk s
 refine o<|d (Z s J a _ X N m) (λy j S=>o<|wpAny_standAt<|o<|wpAny_holding ?_) λ_ _ y=>y;obtain⟨E,c,p,W,H,l,q,k⟩:=S;refine bS W λt M m=>?_;clear W;refine y_ l M H λu=>?_;clear M;haveI V:=l;haveI i:=k.trans<|oY j u;clear k;rcases R with⟨rfl,rfl⟩|⟨rfl,rfl⟩<;>induction t using ff
 ·exact cw ⟨E,c,p,by simpa using m,H,l,q,i⟩
 ·exact d (G .And I {j with toks:=u} p c Q (.inl ⟨z,z⟩) l q<|m) (λy B D=>D.later i) λ_ _ y=>y
 ·exact d (G .Or I {j with toks:=u} p c Q (.inr ⟨z,z⟩) l q<|m) (λy B D=>D.later i) λ_ _ y=>y
 ·exact cw ⟨E,c,p,by simpa using m,H,l,q,i⟩
theorem DS:E6 O w U Y A C b (Bh T b .nil) []:=by
 intro i s J a Q c X N e;refine db c ?_ ?_;·clear c;rintro⟨rfl,rfl⟩;exact wpAny_allTrue_And_nil ⟨a,J,e,X,N,y.refl _ _ _⟩
 ·clear c;rintro⟨rfl,rfl⟩;exact wpAny_allTrue_Or_nil ⟨a,J,e,X,N,y.refl _ _ _⟩
theorem BV(D:vU O w U Y A C (qh T b) x)(q:E6 O w U Y A C a2 (Bh T a2 a1) xs):E6 O w U Y A C a2 (Bh T a2<|.cons b a1)<|x::xs:=by
 intro F s J a Q u X N j;refine db u ?_ ?_
 ·clear u;rintro⟨rfl,rfl⟩;refine wpAny_allTrue_And_cons<|d (D s J a _ X N j) (λt i B=>?_) λ_ _ y=>y;obtain⟨c,k,j,l,m,e⟩:=B;induction t using ff;·exact⟨c,k,by simpa using j,l,m,e⟩
  ·exact d (q .And i k c Q (.inl ⟨z,z⟩) l m<|j) (λy o p=>p.later e) λ_ _ y=>y
 ·clear u;rintro⟨rfl,rfl⟩;refine wpAny_allTrue_Or_cons<|d (D s J a _ X N j) (λt i B=>?_) λ_ _ y=>y;obtain⟨c,k,j,l,m,e⟩:=B;induction t using ff;·exact d (q .Or i k c Q (.inr ⟨z,z⟩) l m<|j) (λy o p=>p.later e) λ_ _ y=>y
  ·exact⟨c,k,by simpa using j,l,m,e⟩
theorem tW:∀(a:List V)(i:Nat),(fk i a).length=a.length
 |[],_=>rfl
 |_::b,i=>by rw[fk,jM,jM,tW b]
theorem Jz(X:t O w U Y J h s.heap)(i:aC (u J s.heap) a2 a3)(e:gO a1 a2 h=some (xs,c)):xs.length<=1000000:=by
 induction a1 using CV.casesOn with
 |it=>
  obtain⟨j,y⟩:=p9 i e;clear e;cases rm y with
  |aF=>exact j.fz.elim λ_ z=>z.elim λ_ z=>z.elim λ_ z=>z.2.2.2
  |list b=>exact(X.list b).2.1
  |ro b=>exact(show eQ O w U Y J s.heap _ (.ro _) from X.cell _ _ b).2.1
  |dict b=>rw[fZ];exact(X.dict b).2.1
 |range=>refine bS (wh e) λk l y=>?_;subst l;refine oB y λn o B=>?_;clear y o;refine oA (hM B) λq z=>?_;clear B;cases z;have:=Jh q;simp [bY];lia
 |zip=>obtain⟨j,p,y⟩:=I_ i e;clear e p i;refine oB y λd b B=>?_;clear y;refine oM B λx m z=>?_;clear B;cases z;have:=(w' X b j).1;simp [bn];lia
 |uz=>refine bS (wh e) λk l y=>?_;clear i;subst l;refine oB y λa b B=>?_;clear y b;refine oM B λd m z=>?_;clear B;cases z;rw[tW];exact(X.list<|fW m).2.1
theorem zj(h:cx a)(C:Env)(x:Value):foldedSetIterable a C x=pure x:=by cases a<;>first|rfl|cases h
theorem BW(i:eT L a a1):∀x∈(dc a c).names,x.2=.local->(dc a c).names.lookup x.1=some .local:=by
 intro x o l;show(a.map λp=>(an p.1,tP p.2)).lookup x.1=_;refine bS (List.mem_map.mp o) λp m d=>?_;subst d;obtain⟨y,k⟩:=p;dsimp only at l⊢;rw[gK];rcases iY i m with⟨q,h|h⟩|⟨q,_⟩|q<;>dsimp only at q<;>subst q
 ·rw[tS i h];rfl
 ·dsimp only at h;subst h;rcases yE i with h|h
  ·rw[h];rfl
  ·have:∃b,a.lookup .fO=some b:=by
    clear h l o i;induction a with
    |nil=>cases m
    |cons p u B=>
     obtain⟨D,j⟩:=p;rw[ii];cases q:Nm.fO==D with
     |true=>exact⟨j,z⟩
     |false=>
      rcases ew.mp m with e|e
      ·clear m;cases e;simp at q
      ·exact B e
   refine this.elim λb t=>?_;clear this;rw[t] at h;cases h
 ·cases l
 ·cases l
theorem BX{H:Es}{p:B}{rN P m:Expr}{q:List Expr}{j:Scope}{E:Pos}{l:List Expr}(G:p8 w K Y v U r f)(k:g9 0 n A)(Z:eK C L)
 (W:l.all cx)(he:vv L a2 l.length)(o:eT L a3 x)(Mp:cx<|sP a2 l m)(E3:pS (jJ<|e8 L a3) x)
 (BY:m8 O w U Y A C (ju T H) l)(yF:∀a4,eK a4 (jJ<|e8 L a3)->f_ O w U Y A a4 (gg T jv) rN)(yG:∀a4,eK a4 (jJ<|e8 L a3)->GD O w U Y A a4 (qh T p) q)
 {use:Option (Value->Sem Unit)}{s:Shared}{J:cr}{b:St}{Q:V->St->Prop}{R:f9}(X:t O w U Y J b.h s.heap)(N:aM U C J b.ρ s.heap)(hq:gg T (.comp jv x a2 H p a3) Q b)
 (QY:∀S a1 a6 a7 a5,BP O w U Y C J s Q S a1 a6 a7 a5->aL (u a6 a5.heap) (.ref S) (.ref S)->(∀a,ce C a->a≠a1)->compPost (model O w) A dk use R (.ref S) a1 (.ok .next) a5):
 wpAny (model O w) A (comprehension (.ListComp rN [⟨Ai x P,sP a2 l m,q,0⟩] (dc a3 j) E) (dc a3 j) C (firstIterPos [⟨Ai x P,sP a2 l m,q,0⟩] E) (newList []) false (eval (sP a2 l m) C) use) R dk s:=by
 obtain⟨cl,e⟩:=Nb Z o;refine wpAny_comprehension_free (use:=use) z (zj Mp C) e.run z (BW o)<|BJ k.handled G N X Z W he<|cE (BY s J b _ X N hq) λys s₁ W=>?_;obtain⟨vs,I,aN,nR,vT,F,dp,i⟩:=W;refine iB nR λxs c M hc=>?_;clear nR;refine⟨F,dp,vT,M,λy s₂ hw=>d hw (λitv g7 St=>?_) λ_ _ y=>y⟩;exact Jn k.handled Z o e E3 yF yG F dp M (Jz F vT M) hc St λS a1 a6 a7 a5 D hv hf=>QY S a1 a6 a7 a5 ⟨D.post,D.rel,D.env,i.trans D.later,D.own,eJ i.size D.big,D.ns⟩ hv hf
theorem zk{I:Es}{E:B}{m o l:Expr}{H:List Expr}{i:Scope}{P:Pos}{c:List Expr}(G:p8 w K Y v U r f)(k:g9 0 n A)(kk:eK C L)
 (R:c.all cx)(W:vv L a1 c.length)(t:eT L e j)(x:cx<|sP a1 c l)(u:pS (jJ<|e8 L e) j)
 (q:m8 O w U Y A C (ju T I) c)(yF:∀b,eK b (jJ<|e8 L e)->f_ O w U Y A b (gg T jv) m)(yG:∀b,eK b (jJ<|e8 L e)->GD O w U Y A b (qh T E) H):
 f_ O w U Y A C (gg T<|.comp jv j a1 I E e)<|.ListComp m [⟨Ai j o,sP a1 c l,H,0⟩] (dc e i) P:=by
 intro s J a Q X N V;rw[eval_ListComp];refine BX (use:=none) G k kk R W t x u q yF yG X N V λS d M p s' D hv Z=>(a_ _ D.ns.choose_spec λh' hs=>?_);haveI z:=BP.drop X D.big Z D.rel D.env D.later D.own D.ns hs D.post;haveI F:=z.1;haveI y:=z.2.1;haveI l':=z.2.2;exact⟨.ref S,p,M,D.post,.ref S,F,y,l'⟩
end
theorem zl(e:E)(x:Expr):cx<|o8 e x:=by
 induction e using E.casesOn with
 |hD v=>induction v using gQ with
  |int i=>show cx (if _ then _ else _)=true;split<;>rfl
  |_=>rfl
 |ay p a=>induction p using P.casesOn<;>rfl
 |_=>rfl
theorem gL:∀(a:Es)(b:List Expr),(nO a b).all cx=true
 |.nil,_=>rfl
 |.cons e a,_=>nl.mpr ⟨zl e _,gL a _⟩
theorem sX(o:vv b c (nO a xs).length):cx<|sP c (nO a xs) x:=by
 induction c using CV.casesOn with
 |it=>induction a using Es.casesOn with
  |nil=>cases o
  |cons e a=>exact zl e _
 |_=>rfl
section
variable{O:Program}{w:World}{K:Frag}{Y:Cl->Addr}{v:Fn->Addr}{U:Heap}{L j:Str->Option Value}{T:Sp}{n:Nat}
theorem JA(b:Bool):Q2 (SY b) b:=by cases b;exact .inr ⟨z,z⟩;exact .inl ⟨z,z⟩
theorem zm{c:B}(h:M8 c=false->vU O w U Y A b (qh T c) g):GD O w U Y A b (qh T c) (if M8 c then[] else[g]):=by
 cases c with
 |tt=>exactλs f a Q X N e=>wpAny_tests_nil ⟨a,f,e,X,N,y.refl _ _ _⟩
 |_=>exactλs f a Q X N e=>wpAny_tests_one<|h z s f a Q X N e
theorem BZ(h:xp x)(a:Env):∀b,isTrue x a b=(do let c<-b;standAt x.pos;holding [c] (PySem.truthy c)):=by intro b;cases x<;>first|rfl|cases h
mutual
theorem kM(G:p8 w K Y v U L j)(D:p_ K Y v)(z:je O w U Y v T n)(e:E):∀{x:Expr}{M:Kn}{F:Env}{A:Around},g9 0 n A->eK F M->xr M e x->f_ O w U Y A F (gg T e) (o8 e x):=by
 intro x M F A r l;match e with
 |.hD B=>exactλh=>GJ h
 |.fS g=>exactλh=>Js G l h
 |.ai y=>exactλh=>Nh l h
 |.ay u C=>exactλh=>Jt G r l (gL C _) (p h).2 (rY G D z C r l (p h).1)
 |.lS b C=>intro h s ow i Q X N hq;show wpAny _ _ (eval (.BoolOp (SY b) (nO C<|im x) x.pos) F) _ _ _;rw[arm_eval_BoolOp];exact Ui G D z C r l h b (SY b) x.pos s ow i Q (JA b) X N hq
 |.ite c t e=>exactλh=>Nj (DT G D z c r l (p h).1) (kM G D z t r l (p (p h).2).1)<|kM G D z e r l (p (p h).2).2
 |.comp jv tg k P I sc=>intro h;haveI J:=p (p h).1;haveI W:=p (p h).2;haveI Z:=p W.2;haveI S:=p Z.2;exact zk G r l (gL P _) J.2 W.1 (sX J.2) Z.1 (rY G D z P r l J.1) (λV d=>kM G D z jv r d S.1) λV d=>zm λq=>DT G D z I r d<|(Bool.or_eq_true_iff.mp S.2).resolve_left<|q▸Bool.false_ne_true
 |.call f C=>
  intro h;haveI H:=(p h).1;haveI ih:=rY G D z C r l (p h).2;show f_ _ _ _ _ _ _ _ (hZ ((Bf f).getD .aq) _ _);cases R:Bf f with
  |none=>rw[R] at H;exact Kv H
  |some y=>rw[R] at H;exact Jv G D z r l R H (gL C _) ih
 |.new c C=>exactλh=>Ni G D z r l (p h).1 (gL C _) (rY G D z C r l (p h).2)
 |.cz o m C=>exactλh=>Ju G D z r (gL C _) (p h).2 (kM G D z o r l (p (p h).1).1) (rY G D z C r l (p (p h).1).2)
 |.jE a b=>exactλh=>Jw r (p h).2 (kM G D z a r l (p (p h).1).1) (kM G D z b r l (p (p h).1).2)
 |.iT u o C=>exactλh=>GK (gL C _) (p (p h).2).1 (p (p h).2).2 (kM G D z o r l (p (p h).1).1) (rY G D z C r l (p (p h).1).2)
termination_by structural e
theorem rY(G:p8 w K Y v U L j)(d:p_ K Y v)(f:je O w U Y v T n)(b:Es):∀{i:List Expr}{c:Kn}{a:Env}{A:Around},g9 0 n A->eK a c->xt c b i->m8 O w U Y A a (ju T b) (nO b i):=by
 intro i c a A r g;match b with
 |.nil=>exactλ_=>Nl
 |.cons e b=>exactλh=>Jx (kM G d f e r g (p h).1)<|rY G d f b r g (p h).2
termination_by structural b
theorem Ui(G:p8 w K Y v U L j)(d:p_ K Y v)(f:je O w U Y v T n)(c:Es):∀{l:List Expr}{i:Kn}{a:Env}{A:Around},g9 0 n A->eK a i->xt i c l->∀b,Jy O w U Y A a b (Ii T b c) (nO c l):=by
 intro l i a A r g;match c with
 |.nil=>exactλ_ _=>GO
 |.cons e .nil=>exactλh _=>GP<|kM G d f e r g (p h).1
 |.cons e (.cons k c)=>exactλh b=>DR (kM G d f e r g (p h).1)<|Ui G d f (.cons k c) r g (p h).2 b
termination_by structural c
theorem DT(G:p8 w K Y v U L j)(d:p_ K Y v)(e:je O w U Y v T n)(b:B):∀{x:Expr}{i:Kn}{c:Env}{A:Around},g9 0 n A->eK c i->QN i b x->vU O w U Y A c (qh T b) (QL b x):=by
 intro x i c A r f;match b with
 |.tt=>exactλh=>Kv h
 |.e y=>
  intro h;cases k:Aj y with
  |true=>exact XC G d e y r f (p h).1 k
  |false=>exact GN (BZ ((Bool.or_eq_true_iff.mp (p h).2).resolve_left<|k▸Bool.false_ne_true) c)<|kM G d e y r f (p h).1
 |.not b=>exactλh=>Nk<|DT G d e b r f h
 |.op g l=>exactλh s o a Q X N m=>wpAny_isTrue_BoolOp<|Px G d e l r f h g (SY g) s o a Q (JA g) X N m
termination_by structural b
theorem XC(G:p8 w K Y v U L j)(m:p_ K Y v)(e:je O w U Y v T n)(y:E):∀{x:Expr}{g:Kn}{c:Env}{A:Around},g9 0 n A->eK c g->xr g y x->Aj y->vU O w U Y A c (qh T<|.e y) (o8 y x):=by
 intro x g c A r f;match y with
 |.ay d i=>
  intro h k;haveI l:=rY G m e i r f (p h).1;induction d using P.casesOn with
  |eW o=>exact yI r (p h).2 l
  |_=>exact Kv k
 |.jE a b=>exactλh _=>xG r (p h).2 (kM G m e a r f (p (p h).1).1) (kM G m e b r f (p (p h).1).2)
 |.hD _=>exactλ_ h=>Kv h
 |.fS _=>exactλ_ h=>Kv h
 |.ai _=>exactλ_ h=>Kv h
 |.lS _ _=>exactλ_ h=>Kv h
 |.ite _ _ _=>exactλ_ h=>Kv h
 |.comp _ _ _ _ _ _=>exactλ_ h=>Kv h
 |.call _ _=>exactλ_ h=>Kv h
 |.new _ _=>exactλ_ h=>Kv h
 |.cz _ _ _=>exactλ_ h=>Kv h
 |.iT _ _ _=>exactλ_ h=>Kv h
termination_by structural y
theorem Px(G:p8 w K Y v U L j)(d:p_ K Y v)(g:je O w U Y v T n)(a:Ix):∀{k:List Expr}{f:Kn}{c:Env}{A:Around},g9 0 n A->eK c f->QO f a k->∀e,E6 O w U Y A c e (Bh T e a) (QM a k):=by
 intro k f c A r i;match a with
 |.nil=>exactλ_ _=>DS
 |.cons b a=>exactλh e=>BV (DT G d g b r i (p h).1)<|Px G d g a r i (p h).2 e
termination_by structural a
end
end
def Py(g:zT)(a:Fl)(f:Flow):Prop:=match a with
 |.next=>f=.next
 |.ret v=>∃x,f=.ret x/\aL g v x
section
variable(O:Program)(w:World)(U:Heap)(Y:Cl->Addr)
inductive rZ(a:Env)(J:cr)(s:Shared)(Q:Fl->St->Prop)(f:Flow)(s':Shared):Prop
 |mk (fl:Fl) (σ:St) (bZ:cr) (hq:Q fl σ) (hf:Py (u bZ s'.heap) fl f) (X:t O w U Y bZ σ.h s'.heap) (b:aM U a bZ σ.ρ s'.heap) (c:y (ce a) J bZ s s'):rZ a J s Q f s'
def tX(A:Around)(H:Env)(W:(Fl->St->Prop)->St->Prop)(x:Stmt):Prop:=∀(s:Shared)(J:cr)(a:St)(Q:Fl->St->Prop),
 t O w U Y J a.h s.heap->aM U H J a.ρ s.heap->W Q a->wpAny (model O w) A (exec x H) (rZ O w U Y H J s Q) dk s
def r6(A:Around)(H:Env)(W:(Fl->St->Prop)->St->Prop)(b:List Stmt):Prop:=∀(s:Shared)(J:cr)(a:St)(Q:Fl->St->Prop),
 t O w U Y J a.h s.heap->aM U H J a.ρ s.heap->W Q a->wpAny (model O w) A (execs b H) (rZ O w U Y H J s Q) dk s
end
section
variable{O:Program}{w:World}{K:Frag}{Y:Cl->Addr}{e:Fn->Addr}{U:Heap}{c i:Str->Option Value}{A:Around}{s:Shared}{J:cr}{h:Hp}{C:Env}{r:aV}{L:Kn}{T:Sp}{n:Nat}
theorem rZ.later(l:y (ce C) J a2 s b)(p:rZ O w U Y C a2 b a1 x a3):rZ O w U Y C J s a1 x a3:=by obtain⟨v,a,f,g,j,X,N,k⟩:=p;exact⟨v,a,f,g,j,X,N,l.trans k⟩
theorem mE(l:y pZ J a s b):y F J a s b:=l.weaken λ_=>False.elim
theorem Q3:r6 O w U Y A C (gp T .nil) []:=by intro s J a Q X N b;exact wpAny_execs_nil ⟨.next,a,J,b,z,X,N,y.refl _ _ _⟩
theorem Nn(u:tX O w U Y A C (u8 T x) a2)(F:r6 O w U Y A C (gp T a1) ys):r6 O w U Y A C (gp T<|.cons x a1)<|a2::ys:=by
 intro s J a Q X N j;refine wpAny_execs_cons<|d (u s J a _ X N j) (λf g l=>?_) λ_ _ a2=>a2;obtain⟨t,b,m,j,k,o,p,y⟩:=l;induction t using Fl.casesOn with
 |next=>cases k;exact d (F g m b Q o p j) (λf q l=>l.later y) λ_ _ a2=>a2
 |ret v=>refine k.elim λx B=>?_;clear k;haveI M:=B.1;haveI G:=B.2;clear B;subst M;exact⟨.ret v,b,m,j,(a_ x z G),o,p,y⟩
theorem GQ(N:aM U C J r s.heap):interactive C=false:=by unfold interactive;rw[N.kind];rfl
theorem lz(h:lq b)(t:Option Expr)(a:Nat)(C:Env):swapsWith b t a C=pure false:=by cases b<;>first|rfl|cases h
theorem Np(v:lq a2)(u:f_ O w U Y A C (gg T a1) a2):tX O w U Y A C (u8 T<|.expr a1)<|.Expr a2 pos:=by
 intro s J a Q X N l;refine wpAny_Expr (d (u s J a _ X N l) (λx j t=>?_) λ_ _ y=>y) (GQ N)<|lz v _ _ _;obtain⟨b,f,m,⟨q,l⟩,B,o,p,g⟩:=t;have k:rZ O w U Y C J s Q .next j:=⟨.next,f,m,l,z,o,p,mE g⟩
 cases B<;>first|exact k|cases q
theorem Q4(t:f_ O w U Y A C (gg T a1) a2):tX O w U Y A C (u8 T<|.ret a1)<|.Return (some a2) pos:=by intro s J a Q X N j;refine wpAny_Return_some<|d (t s J a _ X N j) (λx k p=>?_) λ_ _ y=>y;obtain⟨b,f,l,j,q,m,o,g⟩:=p;exact⟨.ret b,f,l,j,(a_ x z q),m,o,mE g⟩
theorem zo(y:eK C L)(G:Mn L a4)(M:swapsWith a3 (some<|.Name (an a4) a2) pos.line C=pure false)(Z:f_ O w U Y A C (gg T a1) a3):
 tX O w U Y A C (u8 T<|.d_ a4 a1)<|.Assign [.Name (an a4) a2] a3 pos:=by
 intro s J b Q X N k;refine wpAny_Assign_Name (d (Z s J b _ X N k) (λx m t=>?_) λ_ _ a4=>a4) M;obtain⟨f,l,q,k,W,u,v,g⟩:=t;exact xB v u W (BL y G) λo p F j=>⟨.next,_,q,k,z,p,F,(mE g).trans<|j.weaken λa=>SN.frame⟩
theorem xH{y:Vr}{jv:E}{x:Tg}{k:CV}{V:Es}{P:B}{j:List (Vr×NK)}{rN A4 it:Expr}{R:List Expr}{l:Scope}{p pos Uj:Pos}{t:List Expr}(G:p8 w K Y e U c i)(I:g9 0 n A)(W:eK C L)
 (hy:Mn L y)(hp:t.all cx)(he:vv L k t.length)(CY:eT L j x)(Mp:cx<|sP k t it)(E3:pS (jJ<|e8 L j) x)
 (BY:m8 O w U Y A C (ju T V) t)(yF:∀a1,eK a1 (jJ<|e8 L j)->f_ O w U Y A a1 (gg T jv) rN)(yG:∀a1,eK a1 (jJ<|e8 L j)->GD O w U Y A a1 (qh T P) R):
 tX O w U Y A C (u8 T<|.d_ y<|.comp jv x k V P j)<|.Assign [.Name (an y) p] (.ListComp rN [⟨Ai x A4,sP k t it,R,0⟩] (dc j l) Uj) pos:=by
 haveI M:∃b,swapsWith (.ListComp rN [⟨Ai x A4,sP k t it,R,0⟩] (dc j l) Uj) (some<|.Name (an y) p) pos.line C=pure b:=⟨_,z⟩;refine M.elim λb M=>?_;induction b using ff with
 |false=>exact zo W hy M<|zk G I W hp he CY Mp E3 BY yF yG
 |true=>
  intro s J f Q X N hq;replace hq:gg T (.comp jv x k V P j) (λv s=>Q .next ⟨bX s.ρ y v,s.h⟩) f:=hq;rw[exec_Assign_Name_used _ _ _ _ M];refine o<|wpAny_standAt<|o ?_;refine o<|BX (use:=some<|assign (.Name (an y) p) C) (R:=λ_ s'=>wpAny (model O w) A (pure ()) (λ_ Mo=>wpAny (model O w) A (pure Flow.next) (rZ O w U Y C J s Q) dk Mo) dk s') G I W hp he CY Mp E3 BY yF yG X N hq λS d bZ BU s' D hv hf=>sT (g:=λ_ Mo=>_) W hy D.env D.rel hv λF eM gq g=>?_;have Z:∃m,F.heap.Ns d m:=by exact(D.ns).elim λm hm=>⟨m,Heap.Ns.one hm λH u=>g.keep d H u (.inl D.own) λq=>hf d (SN.frame q) z⟩
  haveI hC:=D.own;exact(a_ Z.choose Z.choose_spec λh' hs=>cw<|cw<|F5 (BP.drop (F:=ce C) (S:=0) (Q:=λ_ _=>True) (σ:=⟨bX BU.ρ y<|.ref S,BU.h⟩) X D.big hf eM gq ((mE D.later).trans<|g.weaken λa=>SN.frame) hC Z hs trivial) λnP vV j7=>⟨.next,_,bZ,D.post,z,nP,vV,j7⟩)
end
section
variable{O:Program}{w:World}{K:Frag}{Y:Cl->Addr}{f:Fn->Addr}{U:Heap}{k j:Str->Option Value}{A:Around}{s:Shared}{J:cr}{h:Hp}{C:Env}{b:aV}{L:Kn}{T:Sp}{n:Nat}
theorem m9(i:swapsWith a2 (some a1) pos.line C=pure false)
 (h:wpAny (model O w) A (eval a2 C) (λx a=>∃c,swappedStores [a1] a2 C=pure c/\wpAny (model O w) A (assignStores C x c<|(assignEach [a1] C).map (·.2)) r dk a) dk s):
 wpAny (model O w) A (exec (.Assign [a1] a2 pos) C) r dk s:=by
 rw[arm_exec_Assign];refine o<|wpAny_standAt ?_;show wpAny (model O w) A (swapsWith a2 (some a1) pos.line C>>=_) _ _ s;rw[i];refine o<|cw ?_;rw[if_neg Bool.false_ne_true];refine o<|d h (λx a l=>?_) λ_ _ y=>y;refine bS l λc e g=>?_;clear l;exact o<|wpAny_of_eq e g
theorem m_(h:wpAny (model O w) A (assign g C x) (λ_=>c .next) dk s)(a:cx g):wpAny (model O w) A (assignStores C x none<|(assignEach [g] C).map (·.2)) c dk s:=by
 haveI e:(assignEach [g] C).map (·.2)=[assign g C]:=by cases g<;>first|rfl|cases a
 rw[e];exact o<|d h (λ_ _ q=>cw q) λ_ _ y=>y
theorem GR{n:Str}:swapsWith e (some<|.Attribute a n c) line C=pure false:=by induction e using Expr.casesOn<;>rfl
theorem JB:swapsWith e (some<|.Subscript a i c) line C=pure false:=by induction e using Expr.casesOn<;>rfl
theorem DV(G:p8 w K Y f U k j)(W:f_ O w U Y A C (gg T a2) o')(V:f_ O w U Y A C (gg T e) a4):tX O w U Y A C (u8 T<|.ar a2 a1 e)<|.Assign [.Attribute o' (dx a1) a3] a4 pos:=by intro s J g Q X N m;refine m9 GR<|d (V s J g _ X N m) (λx r D=>(a_ none (by rfl)<|m_ ?_ z)) λ_ _ y=>y;obtain⟨i,l,Z,m,S,B,I,q⟩:=D;rw[arm_assign_Attribute];refine o<|wpAny_holding<|d (W r Z l _ B I m) (λy F E=>?_) λ_ _ y=>y;obtain⟨ov,f7,H,p,R,v,P,u⟩:=E;refine iB p λa c M m=>?_;clear p;refine o<|wpAny_standAt<|o<|wpAny_holding<|d (sH (v.in G) G.cls v M R<|S.mono u.aF) (λ_ g7 t=>wpAny_release ?_) λ_ _ y=>y;exact⟨.next,_,H,m,z,t.1,P.later t.2,mE<|q.trans<|u.trans t.2⟩
theorem DW(r:g9 0 n A)(D:f_ O w U Y A C (gg T a1) o')(F:f_ O w U Y A C (gg T i) i')(ih:f_ O w U Y A C (gg T e) a3):
 tX O w U Y A C (u8 T<|.bR a1 i e)<|.Assign [.Subscript o' i' a2] a3 pos:=by
 intro s J u Q X N l;refine m9 JB<|d (ih s J u _ X N l) (λx t I=>(a_ none (by rfl)<|m_ ?_ z)) λ_ _ y=>y;obtain⟨g,m,E,l,hv,H,S,q⟩:=I;rw[arm_assign_Subscript];refine o<|wpAny_holding<|d (D t E m _ H S l) (λy p P=>?_) λ_ _ y=>y;obtain⟨ov,f7,R,l,ho,V,gq,v⟩:=P;refine o<|wpAny_holding<|d (F p R f7 _ V gq l) (λB g7 iL=>?_) λ_ _ y=>y;obtain⟨iv,Pw,qH,W,hi,nP,vV,G⟩:=iL;refine iB W λa c Z l=>?_;clear W;haveI hu:A.units+10<cLine:=by have:=r.line<|L1 [] 1006813201 z;exact aG 0x1011c2bcc001d08d0d011011cac001d06d0b1 z this
 refine o<|wpAny_standAt<|o<|wpAny_holding<|d (Dp nP Z (ho.mono G.aF) hi (hv.mono<|v.aF.trans G.aF) hu) (λ_ kT M=>wpAny_release ?_) λ_ _ y=>y;exact⟨.next,_,qH,l,z,M.1,vV.later M.2,mE<|q.trans<|v.trans<|G.trans M.2⟩
theorem GS(h:x≠i):bX (bX b x g) i a=bX (bX b i a) x g:=by
 funext d;unfold bX;by_cases e:d=i;·subst e;rw[if_pos z,if_neg<|Ne.symm h,if_pos z]
 ·rw[if_neg e];by_cases c:d=x;·rw[if_pos c,if_pos c]
  ·rw[if_neg c,if_neg c,if_neg e]
theorem DX:∀{l:List (Vr×V)}{b:aV},x∉l.map (·.1)->l.foldl (λb p=>bX b p.1 p.2) (bX b x a1)=bX (l.foldl (λb p=>bX b p.1 p.2) b) x a1:=λ{c}=>by
 induction c with
 |nil=>intro _ _;exact z
 |cons i r g=>obtain⟨y,a⟩:=i;intro b h;rw[List.foldl_cons,List.foldl_cons];haveI d:x≠y:=λe=>h<|e▸pt;rw[GS d,g λm=>h<|List.mem_cons_of_mem _ m]
theorem wT:∀{l:List (Vr×V)}{b:aV},(l.map (·.1)).Nodup->l.reverse.foldl (λb p=>bX b p.1 p.2) b=l.foldl (λb p=>bX b p.1 p.2) b:=λ{c}=>by
 induction c with
 |nil=>intro _ _;exact z
 |cons d r e=>obtain⟨y,a⟩:=d;intro b h;rw[pc,List.nodup_cons] at h;rw[List.reverse_cons,List.foldl_append,e h.2];exact(DX h.1).symm
theorem vB:∀{a:List Vr},wg a->a.Nodup:=λ{c}=>by
 induction c with
 |nil=>intro _;exact List.nodup_nil
 |cons y r e=>intro h;replace h:=nl.mp h;refine List.nodup_cons.mpr ⟨λm=>?_,e h.2⟩;have:=h.1;simp at this;exact this m
theorem Aq:∀{c:List (Vr×V)}{D:List Value}{b:aV}{s:Shared}{Q:Unit->Shared->Prop}(_hk:∀p∈c,C.kindOf (an p.1)=some .local)(_N:aM U C J b s.heap)(_X:t O w U Y J h s.heap)
 (_hv:aC (u J s.heap) (c.map (·.2)) D)
 (_hq:∀e,t O w U Y J h e.heap->aM U C J (c.foldl (λb p=>bX b p.1 p.2) b) e.heap->y (ce C) J J s e->Q () e),
 wpAny (model O w) A (assignInOrder (c.map λp=>bindName C<|an p.1) D) Q dk s:=λ{z}=>by
 induction z with
 |nil=>intro D b s Q _ B X i g;cases i;exact cw<|g s X B<|y.refl _ _ _
 |cons W c M=>
  obtain⟨R,v⟩:=W;intro D b s Q E B X i g;cases i with
  |cons d F=>exact o<|wpAny_holding<|wpAny_bindName<|xB B X d (.inl<|E _ q) λe r H l=>M (λp G=>E p<|N G) H r (F.mono l.aF) λm I P x=>g m I P<|(l.weaken λa=>SN.frame).trans x
theorem JD(t:Nat)(m:∀id a1,x (.Name id a1)=if C.kindOf id==some .local&&a1.line==t then some id else none){a:List Vr}:∀{r:List Expr},
 ((h_ a r).filterMap x).length=(h_ a r).length->(h_ a r).filterMap x=a.map an/\∀y∈a,C.kindOf (an y)=some .local:=by
 induction a with
 |nil=>exactλ_=>⟨z,λ_ h=>absurd h i3⟩
 |cons y a u=>
  intro r c;haveI g:=m (an y) (eF rM r 0).pos;haveI i:h_ (y::a) r=.Name (an y) (eF rM r 0).pos::h_ a (r.drop 1):=z;haveI B:=List.length_filterMap_le x<|h_ a<|r.drop 1;rw[i] at c⊢;cases q:(C.kindOf (an y)==some NameKind.local&&(eF rM r 0).pos.line==t) with
  |true=>rw[q,if_pos z] at g;rw[List.filterMap_cons_some g] at c⊢;refine oA (u<|Nat.succ.inj c) λd l=>?_;exact⟨by rw[d];rfl,λv o=>(ew.mp o).elim (λe=>by rw[e];exact eq_of_beq (p q).1)<|l v⟩
  |false=>rw[q,if_neg Kv] at g;rw[List.filterMap_cons_none g] at c;rw[c] at B;exact absurd B<|Nat.not_succ_le_self _
set_option tactic.hygienic true in
theorem Ar{q:Nat}{v:Expr}(i:oo v):
 ∃a,swappedStores [.Tuple (h_ ys xs) q a1] v C=pure a/\(a=none\/(a=some (ys.map an)/\∀y∈ys,C.kindOf (an y)=some .local)):=by
 induction v using Expr.casesOn<;>try exact(a_ none rfl<|.inl z)
 rename_i r o t;unfold swappedStores;dsimp only;split;·exact(a_ none rfl<|.inl z)
 split;·exact(a_ none rfl<|.inl z)
 split;·exact(a_ none rfl<|.inl z)
 rename_i e;split;·exact(a_ none rfl<|.inl z)
 rename_i l;split
 ·rename_i m;refine db (Bool.or_eq_true_iff.mp (p i).2) (λh=>?_) λh=>?_;·rw[m] at h;cases h
  ·exact absurd h l
 ·rw[Bool.or_eq_true,not_or] at e;refine oA (JD ((Option.map (λx=>x.pos.line) (h_ ys xs).head?).getD 0) (λ_ _=>rfl) (by haveI c:=e.1;rw[Bool.not_eq_true,bne_eq_false_iff_eq] at c;exact c)) λd g=>?_;exact(a_ _ z<|.inr ⟨congrArg some d,g⟩)
theorem GU(r:g9 0 n A)(kk:eK C L)(W:pS L<|.many i)(hn:lq a1)(hc:oo a1)(ih:f_ O w U Y A C (gg T e) a1):
 tX O w U Y A C (u8 T<|.unpack i e)<|.Assign [Ai (.many i) x] a1 pos:=by
 intro s J c Q X N Z;refine bS (Ar (ys:=i) (xs:=im x) (q:=I6 x) (a1:=x.pos) (C:=C) hc) λsw Wx Uk=>m9 (lz hn _ _ _)<|d (ih s J c _ X N Z) (λI g bh=>(a_ sw Wx ?_)) λ_ _ I=>I;obtain⟨B,σ₁,q,sF,hv,F,dp,l⟩:=bh;refine bS sF λaI hb Z=>?_;clear sF Wx;rcases Uk with rfl|⟨rfl,An⟩
 ·refine m_ ?_ z;exact uO r.handled kk W dp F hv hb λv V G D=>⟨.next,_,q,Z,z,V,G,(mE l).trans<|D.weaken λa=>SN.frame⟩
 ·refine iK (zf hb) ?_;clear hb;rintro P rfl hl rfl;refine dB hv.fz ?_;clear hv;rintro t zs m rfl ht vT _;have hT:g.heap.IsTuple t zs.toArray:=IsT.kh ht.uw;show wpAny (model O w) A (rule _>>=λ_=>unpackItems (.ref t) (i.map an).length none>>=λR=>assignInOrder ((i.map an).reverse.map λn=>bindName C n) R.reverse>>=λ_=>pure Flow.next) _ dk g;rw[show(i.map an).length=zs.toArray.size by rw[fZ,hl,vT.length];simp];refine o<|wpAny_rule<|o<|bW<|PySem.wpAny_unpackItems_tuple r.handled hT λM vR S=>?_;have S:g.heap.objs.size<=M.objs.size:=S;have tk:bC (u q g.heap)<|u q M:=cO vR λE e=>absurd (ip e)<|Nat.lt_irrefl _;have lN:y pZ q q g {g with heap:=M}:=dS vR tk (.inr<|.inr<|ct _) S<|eP z rfl rfl;have hk:((i.zip P).map (·.1))=i:=by rw[List.map_fst_zip];exact aG 72339142314360849 z hl
  have JE:((i.zip P).map (·.2))=P:=by rw[List.map_snd_zip];exact aG 299144757444625 z hl
  have e1:((i.map an).reverse.map λn=>bindName C n)=(i.zip P).reverse.map λH=>bindName C<|an H.1:=by
   have:i.map an=(i.zip P).map λH=>an H.1:=by
    conv=>lhs;rw[<-hk]
    rw[List.map_map];rfl
   rw[this,<-List.map_reverse,List.map_map];rfl
  rw[e1];refine o<|Aq (s:={g with heap:=M}) (λH W=>An _ ?_) (dp.later lN) (F.ext vR tk (.inl<|F.fresh<|ct _) F.size S) ?_ λv V G D=>cw ?_;·have:H.1∈(i.zip P).map (·.1):=List.mem_map_of_mem<|List.mem_reverse.mp W;rwa [hk] at this
  ·rw[List.map_reverse,JE];exact(vT.mono tk).reverse
  ·rw[wT<|by rw[hk];exact vB (p W).2] at G;exact⟨.next,_,q,Z,z,V,G,(mE<|l.trans lN).trans D⟩
theorem aC.two(r:aC g [i,a] e):∃x y,e=[x,y]/\aL g i x/\aL g a y:=by cases r with|cons h r=>cases r with|cons c r=>cases r;exact(kH _ _ z h c)
theorem B4{W Z v:Expr}{q q1 q2 pos:Pos}(G:p8 w K Y f U k j)(r:g9 0 n A)(hn:lq v)(hc:oo v)(ih1:f_ O w U Y A C (gg T o1) W)(ih2:f_ O w U Y A C (gg T o2) Z)(ih:f_ O w U Y A C (gg T e) v):
 tX O w U Y A C (u8 T<|.lT o1 f1 o2 f2 e)<|.Assign [.Tuple [.Attribute W (dx f1) q1,.Attribute Z (dx f2) q2] a1 q] v pos:=by
 intro s J D Q X N P;have Wx:swappedStores [.Tuple [.Attribute W (dx f1) q1,.Attribute Z (dx f2) q2] a1 q] v C=pure none:=by
  induction v using Expr.casesOn<;>try rfl
  unfold swappedStores;dsimp only;split;·rfl
  split;·rfl
  rfl
 refine m9 (lz hn _ _ _)<|d (ih s J D _ X N P) (λx i bh=>(a_ none Wx<|m_ ?_ z)) λ_ _ I=>I;obtain⟨g,p,B,A3,hv,bQ,dp,M⟩:=bh;refine iB A3 ?_;clear A3;rintro v1 v2 rfl P;refine dB hv.fz ?_;clear hv;rintro H zs m rfl ht vT _;refine jn vT.two ?_;clear vT;rintro z1 z2 rfl MW W4;have hT:i.heap.IsTuple H [z1,z2].toArray:=IsT.kh ht.uw;rw[arm_assign_Tuple];refine o<|wpAny_standAt ?_;unfold unpack;show wpAny (model O w) A (holding [.ref H] (unpackItems (.ref H) [z1,z2].toArray.size none)>>=λR=>assignInOrder [assign (.Attribute W (dx f1) q1) C,assign (.Attribute Z (dx f2) q2) C] R) _ dk i;refine o<|wpAny_holding<|bW<|PySem.wpAny_unpackItems_tuple r.handled hT λF vR S=>?_;have S:i.heap.objs.size<=F.objs.size:=S;have tk:bC (u B i.heap)<|u B F:=cO vR λE e=>absurd (ip e)<|Nat.lt_irrefl _;have lN:y pZ B B i {i with heap:=F}:=dS vR tk (.inr<|.inr<|ct _) S<|eP z rfl rfl;have Ul:t O w U Y B p.h ({i with heap:=F}:Shared).heap:=bQ.ext vR tk (.inl<|bQ.fresh<|ct _) bQ.size S;show wpAny (model O w) A (holding [z2] (assign (.Attribute W (dx f1) q1) C z1)>>=λ_=>(holding [] (assign (.Attribute Z (dx f2) q2) C z2)>>=λ_=>pure ())) _ dk {i with heap:=F};refine o<|wpAny_holding ?_;rw[arm_assign_Attribute];refine o<|wpAny_holding<|d (ih1 _ B p _ Ul (dp.later lN) P) (λI s₂ cf=>?_) λ_ _ I=>I;obtain⟨ov,f7,dM,yo,ho,eM,gq,l⟩:=cf;refine iB yo λa c JC P=>?_;clear yo;refine o<|wpAny_standAt<|o<|wpAny_holding<|d (sH (eM.in G) G.cls eM JC ho<|MW.mono<|tk.trans l.aF) (λ_ g7 V=>wpAny_release<|o<|wpAny_holding ?_) λ_ _ I=>I;rw[arm_assign_Attribute];refine o<|wpAny_holding<|d (ih2 g7 dM ⟨f7.ρ,h9 f7.h a c⟩ _ V.1 (gq.later V.2) P) (λI kT nN=>?_) λ_ _ I=>I;obtain⟨ov',zh,pU,Mm,sJ,xE,yH,sV⟩:=nN;refine iB Mm λa' c' Um P=>?_;clear Mm;refine o<|wpAny_standAt<|o<|wpAny_holding<|d (sH (xE.in G) G.cls xE Um sJ<|W4.mono<|tk.trans<|l.aF.trans<|V.2.aF.trans sV.aF) (λ_ Ap jR=>wpAny_release<|cw ?_) λ_ _ I=>I;exact⟨.next,_,pU,P,z,jR.1,yH.later jR.2,mE<|M.trans<|lN.trans<|l.trans<|V.2.trans<|sV.trans jR.2⟩
end
section
variable{O:Program}{w:World}{K:Frag}{Y:Cl->Addr}{v:Fn->Addr}{U:Heap}{f g:Str->Option Value}{A:Around}{s:Shared}{J:cr}{h:Hp}{x:Env}{c:aV}{L:Kn}{T:Sp}{n:Nat}
theorem Q5(C:vU O w U Y A x (qh T a2) a4)(G:r6 O w U Y A x (gp T a3) a1)(F:r6 O w U Y A x (gp T e) a5):tX O w U Y A x (u8 T<|.ifs a2 a3 e)<|.If a4 a1 a5 pos:=by
 intro s J a Q X N l;refine wpAny_If<|d (C s J a _ X N l) (λb j t=>?_) λ_ _ y=>y;obtain⟨p,o,l,q,r,i⟩:=t;induction b using ff with
 |true=>exact d (G j o p Q q r<|l) (λy k m=>m.later<|mE i) λ_ _ y=>y
 |false=>exact d (F j o p Q q r<|l) (λy k m=>m.later<|mE i) λ_ _ y=>y
theorem JF(hc:vU O w U Y A x (qh T a1) c')(hb:r6 O w U Y A x (gp T b) b'):tX O w U Y A x (u8 T<|.iI a1 b)<|.While c' b' [] pos:=by
 intro s J a Q X N i;refine i.elim λk i=>?_;refine wpAny_While<|codeAny_mono (codeAny_whileLoop (R:=λr m=>match r with|.ok p=>rZ O w U Y x J s Q p m|.error _=>False)
  (λk m=>∃o q,uB (qh T a1) (gp T b) Q k o/\t O w U Y q o.h m.heap/\aM U x q o.ρ m.heap/\y (ce x) J q s m) ?_ k<|l7 a J i X N<|y.refl _ _ _) λr m S=>?_
 ·rintro k m jP;refine zR jP λo q i X' N' l'=>?_;clear jP;induction k using wQ with
  |zero=>exact i.elim
  |succ k=>
   refine d (hc m q o _ X' N' i) (λu C bh=>?_) λ_ _ E=>E.elim;obtain⟨j,G,i,M,Z,l⟩:=bh;induction u using ff with
   |true=>
    simp only[if_true] at i⊢;refine d (hb C G j _ M Z i) (λp s₂ cf=>?_) λ_ _ E=>E.elim;obtain⟨fl,P,W,i,F,I,R,H⟩:=cf;have V:=l'.trans<|(mE l).trans H;induction fl using Fl.casesOn with
    |next=>cases F;exact⟨k,Nat.lt_succ_self _,P,W,i,I,R,V⟩
    |ret B=>refine bS F ?_;clear F;rintro D rfl hv;exact⟨.ret B,P,W,i,(a_ D z hv),I,R,V⟩
   |false=>simp only[Bool.false_eq_true,if_false] at i⊢;exact wpAny_execs_nil ⟨.next,j,G,i,z,M,Z,l'.trans<|mE l⟩
 ·cases r with
  |ok p=>exact S
  |error e=>exact S.elim
structure Uo(O:Program)(w:World)(U:Heap)(Y:Cl->Addr)(x:Env)(fp:List Addr)(It:Nat->cr->Heap->Prop)(ow₀:cr)(s₀:Shared)(i:Nat)(σ:St)(J:cr)(s:Shared):Prop where
 rel:t O w U Y J σ.h s.heap
 nv:aM U x J σ.ρ s.heap
 it:It i J s.heap
 GF:o6 U J fp
 lt:∀b∈fp,b<s.heap.objs.size
 later:y (λa=>ce x a\/a∈fp) ow₀ J s₀ s
theorem JG{R:Result->Shared->Prop}
 (hh:A.handled=none)(G:yz O w U Y A it a2 a3 xs It)(kk:eK x L)(E3:pS L tg)(k:r6 O w U Y A x Wb body)(Z:∀a,ce x a->a∉a2)
 (hR:∀a5 bZ a1 fl a4,t O w U Y bZ a1.h a5.heap->aM U x bZ a1.ρ a5.heap->y (λa=>ce x a\/a∈a2) ow₀ bZ s₀ a5->Py (u bZ a5.heap) fl a4->Qf fl a1->ch a3 a1.h->R (.ok a4) a5)
 (hi:i<=xs.length)(C:Uo O w U Y x a2 It ow₀ s₀ i a1 J s)(E:mA a3 (dA tg) Wb Qf (xs.drop i) a1):
 codeAny (model O w) A (.forLoop (Ai tg A4) it body [] x) R s:=by
 refine codeAny_forLoop_any (λn s=>∃i a1 J,i<=xs.length/\n=xs.length+1-i/\Uo O w U Y x a2 It ow₀ s₀ i a1 J s/\mA a3 (dA tg) Wb Qf (xs.drop i) a1) ?_ _<|oW i a1 J hi z C E;rintro n s nR;refine dB nR ?_;clear nR;rintro i a1 J hi rfl C E;rcases Nat.lt_or_ge i xs.length with H|Xr
 ·have ed:=List.drop_eq_getElem_cons H;rw[ed] at E;obtain⟨I,aI,V,E⟩:=E;refine d (G.item i J a1.h s (λr a5=>∃D,r=some D/\t O w U Y J a1.h a5.heap/\y (·∈a2) J J s a5/\aL (u J a5.heap) xs[i] D/\It (i+1) J a5.heap) xs[i] (sB H) C.rel I C.it C.GF λD a5 N l p j=>(oV D z N l p j)) (λp q m=>?_) λ_ _ e=>e.elim;refine qF m ?_;clear m;rintro D rfl S o hy QR;dsimp only;refine d (G.go (Ai tg A4) (i+1) D J a1.h q (λ_ a5=>t O w U Y J a1.h a5.heap/\y (·∈a2) J J q a5/\It (i+1) J a5.heap) (BM tg A4) S QR C.GF λa5 N l j=>(eP N l j)) (λ_ M m=>?_) λ_ _ e=>e.elim;haveI eM:=m.1;haveI F:=m.2.1;haveI QS:=m.2.2;have rC:=o.trans F;have gq:=C.nv.GG rC Z;refine d (uO (n:=dk) hh kk E3 gq eM (hy.mono F.aF) V (a1:=λ_ a5=>t O w U Y J a1.h a5.heap/\aM U x J aI a5.heap/\y (SN x tg.names) J J M a5) λa5 N N' l=>(eP N N' l)) (λ_ W m=>?_) λ_ _ e=>e.elim;haveI nP:=m.1;haveI vV:=m.2.1;haveI j7:=m.2.2;have zg:=j7.weaken λa=>SN.frame;have QT:=G.keep _ _ _ _ M W QS zg C.GF λb k=>⟨gq.own k,Z b k⟩;have rD:y (λa=>ce x a\/a∈a2) J J s W:=(rC.weaken λa Q=>.inr Q).trans<|zg.weaken λa Q=>.inl Q;have BN:∀b∈a2,b<W.heap.objs.size:=λb k=>ci (C.lt b k) rD.size;refine d (k W J ⟨aI,a1.h⟩ _ nP vV E) (λa4 kT nN=>?_) λ_ _ e=>e.elim;obtain⟨fl,zh,pU,X,hf,xE,yH,P⟩:=nN;have Jl:=C.later.trans<|rD.trans<|P.weaken λa Q=>.inl Q;induction fl using Fl.casesOn with
  |next=>cases hf;exact⟨_,by exact jQ 0x1c301d062101d05211c301d061c201d001d0a111011c001d061 z (hB (n:=xs.length+1) (m:=i+1)<|aG 0x1011c001d06011c101d061c001d061 z H)<|hB (n:=xs.length+1) (m:=i)<|aG 0x1011c001d06011c101d060011 z H,i+1,zh,pU,H,z,⟨xE,yH,G.keep _ _ _ _ W kT QT P C.GF λb k=>⟨vV.own k,Z b k⟩,C.GF.later BN P,λb k=>ci (BN b k) P.size,Jl⟩,X⟩
  |ret p=>refine bS hf ?_;clear hf;rintro B rfl m;exact hR kT pU zh (.ret p) _ xE yH Jl (a_ B z m) X.2 X.1
 ·have ei:i=xs.length:=ng (aG 72339138019393553 z hi)<|aG 72339138019393553 z Xr;subst ei;rw[List.drop_length] at E;haveI I:=E.1;haveI X:=E.2;clear E;refine d (G.done J a1.h s (λr a5=>r=none/\t O w U Y J a1.h a5.heap/\y (·∈a2) J J s a5) C.rel I C.it C.GF λa5 N l=>(eP z N l)) (λp q m=>?_) λ_ _ e=>e.elim;haveI y0:=m.1;haveI S:=m.2.1;haveI o:=m.2.2;clear m;subst y0;dsimp only;exact wpAny_execs_nil<|hR q J a1 .next .next S (C.nv.GG o Z) (C.later.trans<|o.weaken λa Q=>.inr Q) rfl X I
theorem Q6{D:Es}(G:p8 w K Y v U f g)(r:g9 0 n A)(P:eK x L)(E3:pS L tg)(W:a2.all cx)(he:vv L a1 a2.length)(Mp:cx<|sP a1 a2 it)
 (BY:m8 O w U Y A x (ju T D) a2)(ib:r6 O w U Y A x (gp T b) b'):tX O w U Y A x (u8 T<|.du tg a1 D b)<|.For (Ai tg A4) (sP a1 a2 it) b' [] pos:=by
 intro s J i Q X N Z;refine wpAny_For (BJ r.handled G N X P W he<|cE (BY s J i _ X N Z) λys t W=>?_)<|zj Mp x;obtain⟨vs,j,aN,R,vT,F,u,q⟩:=W;refine iB R λxs k H hc=>?_;clear R;refine⟨F,u,vT,H,λB S hw=>d hw (λitv g7 a3=>?_) λ_ _ B=>B⟩;obtain⟨dM,fp,It,Fd,h0,hf,C,eM,l⟩:=a3;have QZ:∀a,ce x a->a<t.heap.objs.size:=λa m=>by
  refine db m ?_ ?_;·clear m;rintro rfl;exact u.ns.elim λ_ z=>z.1.lt
  ·rintro⟨n,o⟩;exact(u.each n a o).1.elim λB hy=>hy.lt
 refine codeAny_mono (JG (ow₀:=dM) (s₀:=g7) (i:=0) (a1:=⟨j.ρ,dK (a9 a1 vs j.h) true j.h⟩) (R:=λr E=>match r with|.ok p=>rZ O w U Y x J s Q p E|.error _=>False) r.handled Fd P E3 ib
  (λa m o=>absurd (ci (QZ a m) (C a o).1)<|Nat.lt_irrefl _) (λE bZ V fl p X' N' l' M Z I3=>?_) (Nat.zero_le _) ⟨eM,(u.lock F).later l,h0,hf,λb hb=>(C b hb).2,y.refl _ _ _⟩ hc) λr E I=>?_
 ·haveI lA:=((mE l:y (λa=>ce x a\/a∈fp) _ _ _ _).trans l').fresh λa m=>m.imp id λo=>(C a o).1;refine oU (xy F H X' I3 lA) λX5 l5 Ww Xz=>⟨fl,⟨V.ρ,_⟩,_,Z,?_,X5,N'.O7 Ww,(mE q).trans l5⟩;exact Xz▸M
 ·cases r with
  |ok p=>exact I
  |error e=>exact I.elim
theorem Q7(l:r6 O w U Y A x (gp T b) j):tX O w U Y A x (u8 T<|.zN b)<|.Try j r [] [] pos:=by
 intro s J a Q X N k;rw[arm_exec_Try];refine o<|wpAny_standAt ?_;unfold tryStmt;dsimp only;rw[if_pos<|by rfl];refine o<|wpAny_attempt<|d (l s J a Q X N k) (λp i m=>?_) λ_ _ e=>e.elim;cases p with
 |next=>exact wpAny_execs_nil m
 |cont=>exact cw m
 |brk=>exact cw m
 |ret q=>exact cw m
mutual
theorem XD(G:p8 w K Y v U f g)(E:p_ K Y v)(j:je O w U Y v T n)(P:S):∀{D:Stmt}{L:Kn}{x:Env}{A:Around},g9 0 n A->eK x L->Zq L P D->tX O w U Y A x (u8 T P) (Fa P D):=by
 intro D L x A r a;match P with
 |.expr e=>exactλh=>Np (p h).2 (kM G E j e r a (p h).1)
 |.ret e=>exactλh=>Q4<|kM G E j e r a h
 |.d_ y e=>
  intro h;haveI F:=(p h).1;haveI z:=p (p h).2;cases C:lq (o8 e<|M2 D 0) with
  |true=>exact zo a z.1 (lz C _ _ _)<|kM G E j e r a F
  |false=>
   haveI W:=(Bool.or_eq_true_iff.mp z.2).resolve_right<|C▸Bool.false_ne_true;clear C h;cases e with
   |comp X V k H I sc=>haveI l:=p (p F).1;haveI m:=p (p F).2;haveI B:=p m.2;haveI N:=p B.2;exact xH G r a z.1 (gL H _) l.2 m.1 (sX l.2) B.1 (rY G E j H r a l.1) (λQ M=>kM G E j X r M N.1) λQ M=>zm λq=>DT G E j I r M<|(Bool.or_eq_true_iff.mp N.2).resolve_left<|q▸Bool.false_ne_true
   |_=>exact Kv W
 |.unpack ys e=>exactλh=>GU r a (p (p h).2).1 (p (p (p h).2).2).1 (p (p (p h).2).2).2 (kM G E j e r a (p h).1)
 |.ar o u e=>exactλh=>DV G (kM G E j o r a (p h).2)<|kM G E j e r a (p h).1
 |.lT Z f1 R f2 e=>intro h;haveI l:=p (p h).2;haveI m:=p l.2;haveI B:=p m.2;exact B4 G r B.1 B.2 (kM G E j Z r a l.1) (kM G E j R r a m.1)<|kM G E j e r a (p h).1
 |.bR o i e=>exactλh=>DW r (kM G E j o r a (p (p h).2).1) (kM G E j i r a (p (p h).2).2)<|kM G E j e r a (p h).1
 |.ifs d t e=>exactλh=>Q5 (DT G E j d r a (p h).1) (vC G E j t r a (p (p h).2).1)<|vC G E j e r a (p (p h).2).2
 |.iI d b=>exactλh=>JF (DT G E j d r a (p h).1)<|vC G E j b r a (p h).2
 |.du V k H b=>intro h;haveI l:=p (p h).2;haveI m:=p l.2;exact Q6 G r a (p h).1 (gL H _) m.1 (sX m.1) (rY G E j H r a l.1) (vC G E j b r a m.2)
 |.zN b=>exactλh=>Q7<|vC G E j b r a h
termination_by structural P
theorem vC(G:p8 w K Y v U f g)(i:p_ K Y v)(b:je O w U Y v T n)(a:Ss):∀{e:List Stmt}{L:Kn}{x:Env}{A:Around},g9 0 n A->eK x L->yC L a e->r6 O w U Y A x (gp T a) (yB a e):=by
 intro e L x A r d;match a with
 |.nil=>exactλ_=>Q3
 |.cons j a=>exactλh=>Nn (XD G i b j r d (p h).1)<|vC G i b a r d (p h).2
termination_by structural a
end
end
theorem DY:∀{a:List Str}{d:List Value},a.length=d.length->∀n∈a,((a.zip d).lookup n).isSome:=λ{a}=>by
 induction a with
 |nil=>exactλ_ _ h=>absurd h i3
 |cons m a c=>
  intro d b n h;induction d using da with
  |nil=>exact absurd b<|Nat.succ_ne_zero _
  |cons v d=>
   rw[List.zip_cons_cons,ii];cases q:n==m with
   |true=>rfl
   |false=>
    refine db (ew.mp h) (λe=>?_) λh=>?_;·exact absurd e<|ne_of_beq_false q
    ·exact c (Nat.succ.inj b) n h
theorem xI{b c:Type}{f g:b->Option c}:∀{l:List b},(∀k∈l,f k=g k)->l.filterMap f=l.filterMap g:=λ{e}=>by
 induction e with
 |nil=>intro _;exact z
 |cons a l j=>intro h;rw[List.filterMap_cons,List.filterMap_cons,h a q,j λk i=>h k<|N i]
theorem JH:∀{a:List Str}{d:List Value},a.length=d.length->a.Nodup->(a.filterMap λn=>((a.zip d).lookup n).map (n,·))=a.zip d:=λ{a}=>by
 induction a with
 |nil=>exactλ_ _=>rfl
 |cons m a g=>
  intro d c b;induction d using da with
  |nil=>exact absurd c<|Nat.succ_ne_zero _
  |cons v d=>rw[List.nodup_cons] at b;rw[List.zip_cons_cons,List.filterMap_cons,ii,beq_self_eq_true];refine congrArg (List.cons (m,v))<|Eq.trans (xI λn f=>?_)<|g (Nat.succ.inj c) b.2;rw[ii,nz.mpr λe:n=m=>b.1<|e▸f]
theorem DZ{d:List Value}(g:b.params.posonlyargs=[])(e:b.params.kwonlyargs=[])(i:b.params.vararg=none)(f:b.params.kwarg=none)(m:b.defaults=.none)
 (k:b.params.args.map (·.arg)=a)(j:a.Nodup)(c:a.length=d.length):bindArgs b ⟨d,[]⟩=pure (a.zip d):=by
 have r:seqItems? Value.none=pure none:=by rfl
 have l:(List.filter (λn=>(List.lookup n<|a.zip d).isNone) a)=[]:=by
  rw[List.filter_eq_nil_iff];intro n o;have:=DY c n o;cases h:List.lookup n (a.zip d) with
  |none=>rw[h] at this;cases this
  |some v=>simp
 have p:List.take d.length a=a:=by rw[<-c,List.take_length]
 have q:List.drop d.length a=[]:=by rw[<-c,List.drop_length]
 unfold bindArgs;simp only[p,q,g,e,i,f,m,k,List.map_nil,List.nil_append,j0,List.forIn_nil,pure_bind,r,Option.getD_none,Array.toList_empty,List.length_nil,Nat.zero_sub,List.drop_nil,Nat.sub_zero,l,c,
  List.zip_nil_left,List.isEmpty_nil,Bool.not_true,Bool.false_eq_true,if_false,gt_iff_lt,Nat.lt_irrefl,decide_false,Bool.false_and,JH c j]
def Nq(b:List<|Vr×NK)(s:Scope):Prop:=∃a,s=dc b a
theorem Nq.inv(h:Nq a s):s.names=a.map (λp=>(an p.1,tP p.2))/\s.kind=.function/\s.isCoroutine=false/\s.isGenerator=false:=by refine oE h ?_;rintro _ rfl;exact(hV z rfl rfl rfl)
structure JI(U:Heap)(f:Fn)(fd:FuncData):Prop where
 body:∃b,fd.body=.stmts (yB (h8 f) b)/\yC (jJ<|fm f) (h8 f) b=true
 scope:Nq (fm f) fd.scope
 closure:fd.closure=[]
 globals:fd.globals=mainGlobals
 builtins:fd.builtins=builtinsNs
 defaults:fd.defaults=.none
 po:fd.params.posonlyargs=[]
 ko:fd.params.kwonlyargs=[]
 va:fd.params.vararg=none
 kw:fd.params.kwarg=none
 names:fd.params.args.map (·.arg)=(ft f).map an
 nodup:(ft f).Nodup
 kinds:∀a∈ft f,jJ (fm f) a=some .e9\/jJ (fm f) a=some .mM
 JJ:∀c∈fm f,c.2≠.iH
 cells:((cellsFrom 0 fd.scope.names []).map (·.1)).Nodup
 code:U.CodeRec fd.code fd.qualname
def Nr(K:Frag)(u:Fn->Addr)(U:Heap):Prop:=∀f,∃b a,K.lookup (u f)=some b/\b.data=.func a/\JI U f a
set_option tactic.hygienic true in
theorem km:∀(c:List<|Str×NameKind)(n:Nat)(a:List<|Str×Addr)(x:Str),((x,NameKind.cell)∈c\/(a.lookup x).isSome=true)->((cellsFrom n c a).lookup x).isSome=true
 |[],n,a,x,h=>by refine db h ?_ ?_<;>clear h<;>intro h;·cases h
                 ·exact h
 |(m,k)::r,n,a,x,h=>by
  unfold cellsFrom;split
  ·refine km r _ _ x ?_;refine db h ?_ ?_<;>clear h<;>intro h
   ·refine db (ew.mp h) (λe=>?_) λh=>?_;·clear h;cases e;exact .inr (by rw[ii,beq_self_eq_true];rfl)
    ·exact .inl h
   ·refine .inr ?_;rw[ii];cases x==m<;>first|rfl|exact h
  ·rename_i b;refine km r _ _ x ?_;refine db h ?_ ?_<;>clear h<;>intro h
   ·refine db (ew.mp h) (λe=>?_) λh=>?_;·clear h;cases e;exact absurd z b
    ·exact .inl h
   ·exact .inr h
theorem JK:∀{n:List Vr}{b:List V}{t:List Value}{ρ:aV}{m cm:Str->Option Value},aC g b t->n.length=b.length->
 (∀y v,ρ y=some v->kind (an y)=some .local->∃d,m (an y)=some d/\aL g v d)->(∀y v,ρ y=some v->kind (an y)=some .cell->∃d,cm (an y)=some d/\aL g v d)->
 (∀y v,iU n b ρ y=some v->kind (an y)=some .local->∃d,bindL kind ((n.map an).zip t) m (an y)=some d/\aL g v d)/\
  ∀y v,iU n b ρ y=some v->kind (an y)=some .cell->∃d,bindC kind ((n.map an).zip t) cm (an y)=some d/\aL g v d:=λ{o}=>by
 induction o with
 |nil=>
  intro b t ρ m cm f c i j;induction f using aC.casesOn with
  |nil=>exact⟨i,j⟩
  |cons=>cases c
 |cons p n r=>
  intro b t ρ m cm f c i j;induction f using aC.casesOn with
  |nil=>cases c
  |@cons v x b t f s=>
   refine r (ρ:=bX ρ p v) (m:=if kind (an p)=some .local thenλy=>if y=an p then some x else m y else m)
    (cm:=if kind (an p)=some .local then cm elseλy=>if y=an p then some x else cm y) s (Nat.succ.inj c) (λy a e k=>?_) λy a e k=>?_
   ·unfold bX at e;by_cases q:y=p;·clear c;subst q;rw[if_pos z] at e;cases e;rw[if_pos k];exact(a_ x (if_pos z) f)
    ·rw[if_neg q] at e;refine bS (i y a e k) λd h l=>(a_ d ?_ l);split;·exact(if_neg λd=>q<|jc _ _ d).trans h
     ·exact h
   ·unfold bX at e;by_cases q:y=p;·clear c;subst q;rw[if_pos z] at e;cases e;rw[if_neg<|by rw[k];decide];exact(a_ x (if_pos z) f)
    ·rw[if_neg q] at e;refine bS (j y a e k) λd h l=>(a_ d ?_ l);split;·exact h
     ·exact(if_neg λd=>q<|jc _ _ d).trans h
section
variable{O:Program}{w:World}{K:Frag}{Y:Cl->Addr}{L:Fn->Addr}{U:Heap}{A C:Str->Option Value}{T:Sp}{n:Nat}
theorem uP:∀{l:List Vr},l.Nodup->(l.map an).Nodup:=λ{a}=>by
 induction a with
 |nil=>intro _;exact List.nodup_nil
 |cons y r f=>intro h;rw[List.nodup_cons] at h;rw[pc,List.nodup_cons];refine⟨λb=>?_,f h.2⟩;exact bS (List.mem_map.mp b) λz c e=>h.1<|jc _ _ e▸c
theorem g9.deeper(r:g9 3 (n+1) a):g9 0 n<|a.deeper b:=by
 refine⟨r.handled,?_,?_⟩;·have:=r.depth;exact aG 0x3c384c04d091c101d401e001d0e01c384c04d081401e1c001d06d0e1 z this
 ·have:=r.units;exact aG 0x3c26acc05d0a320c1c101da01e001d0ed1501c26acc05d09320c1a01e3c001d06d0ed151 z this
theorem Nt(G:p8 w K Y L U A C)(CG:p_ K Y L)(FG:Nr K L U)(CT:je O w U Y L T n):je O w U Y L (Ik T)<|n+1:=by
 intro f vs Q h hq B s J xs R r X hv hR;refine oA hq λgS hq=>(FG f).elim λfo I=>I.elim λp I=>I.elim λhl I=>I.elim λhd m=>bS m.body λb hb hok=>oU m.scope.inv λXE Zv W9 hsg=>?_;have ho:=X.in G _ _ hl;have Up:s.heap.CodeRec p.code p.qualname:=by refine(m.code).elim λc I=>I.elim λo I=>I.elim λvs I=>I.elim λt I=>?_;haveI W:=I.1;haveI Z:=I.2.1;haveI h3:=I.2.2.1;haveI h4:=I.2.2.2;exact(wO c o vs t W (X.base _ _ Z) h3 h4)
 have Uq:=DZ m.po m.ko m.va m.kw m.defaults m.names (uP m.nodup) (by rw[fZ,gS,hv.length]);have Ur:B.depth<recursionLimit:=by have:=r.depth;show B.depth<1000;exact aG 0x3c384c04d091c101d401e001d0e013e8c041c001d061 z this
 have T5:∀E,p.scope.names.lookup (an E)=(jJ (fm f) E).map tP:=λE=>by rw[XE,gK];rfl
 refine codeAny_call_function Ur ho hd W9 hsg hb Up<|wpAny_of_eq Uq ?_;rw[m.closure];refine bW<|wpAny_newFunctionEnv_cells Zv (λx hx=>?_) λl he V x=>?_
 ·obtain⟨i,hi,e⟩:=List.mem_iff_getElem.mp hx;have M:x.1∈(ft f).map an:=by have:x∈((ft f).map an).zip xs:=hx;exact(List.of_mem_zip this).1
  refine bS (List.mem_map.mp M) λE hy e=>?_;rw[<-e];rcases m.kinds E hy with k|k
  ·exact .inl (by rw[T5,k];rfl)
  ·refine .inr ⟨by rw[T5,k];rfl,km _ _ _ _<|.inl ?_⟩;rw[XE];exact List.mem_map.mpr<|a_ (E,.mM) (cQ k) z
 ·intro hz;subst he;have JL:=x.toInCall.keep;refine iB x.done λbh tk fq _=>?_;have bQ:=X.grow JL hz;have H:y pZ J J s V:=jd JL hz<|fq▸(eP z rfl rfl);refine⟨(G.lim.keeps X.base).keeps JL,?_⟩;generalize P:newEnv p.scope s.heap.objs.size p.globals (cellsFrom (s.heap.objs.size+1) p.scope.names []) (p.qualname++".<locals>.") (some<|L f) p.code none p.builtins=l at x;haveI D:l.locals=s.heap.objs.size:=by rw[<-P];rfl
  haveI eC:l.cells=cellsFrom (s.heap.objs.size+1) p.scope.names []:=by rw[<-P];rfl
  haveI eS:l.scope=p.scope:=by rw[<-P];rfl
  haveI eG:l.globals=mainGlobals:=by rw[<-P];exact m.globals
  haveI eB:l.builtins=builtinsNs:=by rw[<-P];exact m.builtins
  have kd:∀E,l.kindOf (an E)=(jJ (fm f) E).map tP:=λE=>by show l.scope.names.lookup _=_;exact eS▸T5 E
  haveI nd:(l.cells.map (·.1)).Nodup:=by rw[eC];exact cellsFrom_names p.scope.names 0 (s.heap.objs.size+1) [] [] z▸m.cells
  have kk:eK l<|jJ<|fm f:=by
   refine⟨λE k e=>by rw[kd,e];rfl,λE e=>?_⟩;rcases e with e|e
   ·rw[eC];refine km _ _ _ _<|.inl ?_;rw[XE];exact List.mem_map.mpr<|a_ (E,.mM) (cQ e) z
   ·exact absurd z<|m.JJ _<|cQ e
  refine oA (JK (kind:=l.kindOf) (g:=u J V.heap) (n:=ft f) (ρ:=λ_=>none) (m:=λ_=>none) (cm:=λ_=>none) (hv.mono H.aF) gS (λ_ _ e=>by cases e) λ_ _ e=>by cases e) λbl bc=>?_;have dp:aM U l J (iU (ft f) vs λ_=>none) V.heap:=by
   refine⟨by rw[eS];exact Zv,eG,eB,⟨by rw[D];exact X.fresh<|ct _,by rw[D];exact X.size⟩,(a_ _ x.toInCall.ns bl),λE v e k=>?_,λnm a M=>?_,λa b c W Z=>name_of_addr x.apart (mem_of_lookup W)<|mem_of_lookup Z⟩
   ·rcases k with k|k
    ·refine bS (bc E v e k) λI W Z=>?_;have hc:(l.cells.lookup<|an E).isSome:=by
      refine kk.cells E<|.inl ?_;rw[kd] at k;cases q:jJ (fm f) E with
      |none=>rw[q] at k;cases k
      |some j=>rw[q] at k;(clear q;cases j)<;>first|rfl|cases k
     exact oE (Option.isSome_iff_exists.mp hc) λc hc=>(kH c I hc (W▸x.cell _ c hc) Z)
    ·rw[kd] at k;cases q:jJ (fm f) E with
     |none=>rw[q] at k;cases k
     |some j=>
      rw[q] at k;cases j<;>first|(cases k;done)|skip
      exact absurd z<|m.JJ _<|cQ q
   ·have hla:=lookup_of_mem_nodup nd M;have N:=x.above nm a M;rw[D] at N;refine(hV ⟨_,x.cell nm a hla⟩ (X.fresh<|Nat.le_of_lt N) (λe=>?_)<|eJ X.size<|Nat.le_of_lt N);rw[e,D] at N;exact Nat.lt_irrefl _ N
  refine codeAny_func<|d (vC G CG CT (h8 f) (r.deeper (b:=l)) kk hok V J ⟨iU (ft f) vs λ_=>none,h⟩ _ bQ dp hq) (λfl F hp=>?_) λ_ _ e=>e.elim;obtain⟨g,f7,dM,hQ,hf,eM,gq,S⟩:=hp;have lA:y pZ J dM s F:=(((H.weaken (λ_=>False.elim):y (ce l) J J s V)).trans S).fresh λa ha=>.inr (by
   rcases ha with rfl|⟨nm,M⟩
   ·exact D▸ct _
   ·have:=x.above nm a M;rw[D] at this;exact Nat.le_of_lt this)
  induction g using Fl.casesOn with
  |next=>cases hf;exact hR .none F .none f7.h dM hQ .none eM lA
  |ret v=>refine bS hf ?_;clear hf;rintro E rfl hy;exact hR E F v f7.h dM hQ hy eM lA
theorem JM(G:p8 w K Y L U A C)(d:p_ K Y L)(a:Nr K L U):∀n,je O w U Y L (Tn n) n:=λb=>by
 induction b with
 |zero=>exactλ_ _ _ _ c=>c.elim
 |succ n e=>exact Nt G d a<|e
end
theorem JN{b:List Value}{a:List Int}(h:IntsAre b a):aC g (a.map V.int) b:=by
 induction h with
 |nil=>exact .nil
 |cons _ _ _ i=>exact .cons (.int _ _) i
section
variable{O:Program}{w:World}{K:Frag}{Y:Cl->Addr}{n:Fn->Addr}{g j:Str->Option Value}
theorem Ey{h:Shared}{tk:Nat}{i:Env}{I s:List Stmt}{a:Addr}{E:List Value}{P:List Int}{A:Around}{u:Str->Option Value}(G:p8 w K Y n h.heap g j)(R:p_ K Y n)(FG:Nr K n h.heap)(r:g9 0 10 A)
 (hb:yC (jJ<|fm .A2) (h8 .A2) I)(he:s=yB (h8 .A2) I)(hs:Nq (fm .A2) i.scope)(hg:i.globals=mainGlobals)(Pf:i.builtins=builtinsNs)(S:i.cells=[])(W:i.locals=h.heap.objs.size)
 (Q:∀a1∈fm .A2,a1.2≠.mM/\a1.2≠.iH)(U:h.heap.IsList a E.toArray)(hI:IntsAre E P)(gS:P.length<=63)(F:Fr h.heap h.heap.objs.size a2 u)(C:u (an .nD)=some (.ref a))(T:1<h.heap.objs.size)
 (hz:h.heap.objs.size<=a2.objs.size)(H:v7):
 wpAny (model O w) A (execs s i) (λf L=>f=.ret (.bool true)/\(∀b o,h.heap.get? b=some o->L.heap.get? b=some o)/\L.gens=h.gens/\L.os=h.os) dk {h with heap:=a2,toks:=tk}:=by
 subst he;haveI k8:a<h.heap.objs.size:=let ⟨_,e,_⟩:=U;ip e;haveI Uu:a2.IsList a E.toArray:=let ⟨o,e,r⟩:=U;(a_ o (F.keep a o e) r);have X:t O w h.heap Y (λ_=>none) (h9 (λ_=>none) a<|.ro<|P.map V.int) a2:=by
  refine⟨F.keep,T,hz,λ_ _ e=>(by cases e),λb c e=>?_⟩;unfold h9 at e;by_cases q:b=a;·rw[if_pos q] at e;cases e;clear U C;subst q;exact(vm ⟨k8,z⟩ (by rw[fZ];exact eJ ‹_› m) E Uu<|JN hI)
  ·rw[if_neg q] at e;cases e
 have N:aM h.heap i (λ_=>none) (bX (λ_=>none) .nD<|.ref a) a2:=by
  haveI M:=hs.inv;refine⟨M.2.1,hg,Pf,⟨z,by rw[W];exact ct _⟩,(a_ u (by rw[W];exact F.ns) λx v e _=>?_),λx v _ q=>?_,λB c C=>(by rw[S] at C;cases C),λB u c Z _=>(by rw[S] at Z;cases Z)⟩
  ·unfold bX at e;by_cases q:x=.nD;·rw[if_pos q] at e;cases e;subst q;exact(a_ (.ref a) C<|.ref a)
   ·rw[if_neg q] at e;cases e
  ·have kd:i.kindOf (an x)=((fm .A2).lookup x).map tP:=by show i.scope.names.lookup _=_;rw[M.1,gK]
   rw[kd] at q;cases J:(fm .A2).lookup x with
   |none=>rw[J] at q;rcases q with q|q<;>cases q
   |some k=>
    rw[J] at q;refine(Q _<|cQ J).elim λn1 n2=>?_
    (clear J;cases k)<;>first|exact absurd z n1|exact absurd z n2|(rcases q with q|q<;>cases q)
 have kk:eK i<|jJ<|fm .A2:=by
  haveI M:=hs.inv;refine⟨λy k e=>?_,λy e=>?_⟩;·show i.scope.names.lookup _=_;rw[M.1,gK,show(fm .A2).lookup y=some k from e];rfl
  ·rcases e with e|e
   ·exact absurd z (Q _<|cQ e).1
   ·exact absurd z (Q _<|cQ e).2
 refine d (vC G R (JM G R FG 10) (h8 .A2) r kk hb {h with heap:=a2,toks:=tk} (λ_=>none) ⟨_,_⟩ _ X N<|H P gS a) (λf L hp=>?_) λ_ _ e=>e;obtain⟨fl,p,bZ,rfl,hf,X',N',l⟩:=hp;refine hf.elim λx D=>?_;clear hf;haveI y0:=D.1;haveI hx:=D.2;clear D;subst y0;obtain rfl:=hx.bool_inv;exact(hV z X'.base l.rest.1 l.rest.2.2)
end
def GV(c:Cl):Addr:=eF 0 [52,73,111,132,153,174,202,251,324,465,512,594,693,740,761,782,803,824] c.i_.val
def JO(f:Fn):Addr:=eF 0 [49,70,84,89,94,108,129,150,171,192,199,213,220,234,241,248,269,276,283,290,297,302,309,314,321,335,342,349,354,361,368,375,382,389,396,403,410,417,424,429,434,448,455,476,483,490,495,509,523,530,537,544,558,563,570,577,584,591,605,610,617,622,627,641,648,655,662,669,676,683,690,704,711,718,723,737,758,779,800,821,835,842,849,854,861,866,873,878,883,888,893,898] f.i_.val
def Nu:List<|Sy×Nat×Addr×List (Sy×Nat):=[(.hD,196,23,[(.dv,197),(.constant,198)]),(.move,199,24,[(.dv,200),(.cB,201)]),(.global,202,25,[(.dv,203),(.global,204)]),(.eN,205,26,[(.global,206),(.cB,207)]),(.jw,208,27,[(.global,209),(.cB,210)]),(.free,211,28,[(.dv,212),(.free,213)]),(.closure,214,29,[(.dv,215),(.q8,216),(.aQ,217)]),(.fix,218,30,[(.rows,219)]),(.ay,220,31,[(.dv,221),(.q9,222),(.aQ,223)]),(.zH,224,32,[(.label,225)]),(.fE,226,33,[(.cB,227),(.label,228)]),(.call,229,34,[(.cB,230),(.cB,231),(.aQ,232)]),(.cU,233,35,[(.cB,234),(.aQ,235)])]
def Q8(r:Sy×Nat×Addr×List (Sy×Nat)):List Value:=r.2.2.2.map λp=>.str (eX p.1) p.2
noncomputable def ot:List Fn:=(List.finRange 92).map Fn.mk
noncomputable def B5:List Cl:=(List.finRange 18).map Cl.mk
theorem j8(f:Fn):f∈ot:=List.mem_map.mpr<|a_ f.i_ (List.mem_finRange _) z
theorem rE(c:Cl):c∈B5:=List.mem_map.mpr<|a_ c.i_ (List.mem_finRange _) z
theorem GW(c:Gl):c∈Ic:=List.mem_of_getElem? (i:=c.ctorIdx) (by cases c<;>rfl)
def D0:List Str->Bool
 |[]=>true
 |s::r=> !(r.any<|xm s)&&D0 r
theorem B6:∀l:List Nat,Ae l l:=λb=>by
 induction b with
 |nil=>exact z
 |cons a r c=>exact nl.mpr ⟨Nat.beq_refl a,c⟩
theorem D1:∀{l:List Str},D0 l->l.Nodup:=λ{a}=>by
 induction a with
 |nil=>intro _;exact List.nodup_nil
 |cons s r b=>intro h;replace h:=nl.mp h;refine List.nodup_cons.mpr ⟨λm=>?_,b h.2⟩;have:r.any<|xm s:=List.any_eq_true.mpr<|a_ s m<|B6 _;rw[this] at h;cases h.1
def D2(l:List Arg)(b:List Vr):Bool:=match l with
 |[]=>b.isEmpty
 |a::r=>(match b with
  |[]=>false
  |y::t=>xm a.arg (an y)&&D2 r t)
theorem D3:∀{b:List Vr},D2 c b->c.map (·.arg)=b.map an:=by
 induction c with
 |nil=>exactλh=>congrArg (List.map an) (List.isEmpty_iff.mp h).symm
 |cons a r k=>
  intro b h;induction b using da with
  |nil=>exact absurd h Bool.noConfusion
  |cons y t=>haveI h:=(oH _ _).mp h;rw[pc,pc,BC h.1,k h.2]
noncomputable def E7:Value->Bool
 |.none=>true
 |_=>false
noncomputable def Db:Stmt->Option (List Stmt×Scope)
 |.FunctionDef _ _ b _ _ _ a _ _ _=>some (b,a)
 |_=>none
def Ed:Stmt->List (List Stmt×Scope)
 |.ClassDef _ _ _ b _ _ _ _ _ _ _=>b.filterMap Db
 |x=>(Db x).toList
def JP:List<|List Stmt×Scope:=PySem.Challenge.pw_pq1035_01.main.body.flatMap Ed
def h7(f:Fn):List Stmt×Scope:=eF ([],⟨.function,[],false,false,[]⟩) JP<|eF 0 [1,2,3,4,5,6,7,8,9,10,11,12,13,14,15,16,17,18,19,20,21,22,23,24,25,26,27,28,29,30,31,32,33,34,35,36,37,38,39,40,41,42,43,45,46,47,48,49,50,51,52,53,54,55,56,57,58,59,60,61,62,63,64,65,66,67,68,69,70,71,72,73,74,75,76,77,78,79,80,81,82,83,84,85,86,87,88,89,90,91,92,93] f.i_.val
def E8(K:Frag)(f:Fn):Option<|FuncBody×Scope:=match K.lookup (JO f) with
 |some o=>(match o.data with
  |.func a=>some (a.body,a.scope)
  |_=>none)
 |none=>none
def E9(f:Fn):FuncBody×Scope:=(.stmts<|yB (h8 f) (h7 f).1,dc (fm f) (h7 f).2)
def Q9(q:Str)(v:Value):Bool:=match v with
 |.str s _=>xm s q
 |_=>false
def XH(q:Str)(l:List Value):Bool:=match l with
 |[]=>false
 |_::r=>(match r with
  |[]=>false
  |v::_=>Q9 q v)
def Uv(q:Str)(d:Data):Bool:=match d with
 |.fields a=>XH q a.toList
 |_=>false
def E_(K:Frag)(q:Str)(v:Value):Bool:=match v with
 |.ref c=>(K.lookup c).any λo=>Uv q o.data
 |_=>false
def JQ(K:Frag)(f:Fn)(a:FuncData):Bool:=
 a.closure.isEmpty&&Nat.beq a.globals mainGlobals&&Nat.beq a.builtins builtinsNs&&E7 a.defaults&&a.params.posonlyargs.isEmpty&&a.params.kwonlyargs.isEmpty&&a.params.vararg.isNone&&
  a.params.kwarg.isNone&&D2 a.params.args (ft f)&&wg (ft f)&&((ft f).all λy=>match jJ (fm f) y with|some .e9=>true|some .mM=>true|_=>false)&&
  ((fm f).all λp=>match p.2 with|.iH=>false|_=>true)&&D0 ((cellsFrom 0 a.scope.names []).map (·.1))&&E_ K a.qualname a.code
def Uw(K:Frag)(f:Fn)(d:Data):Bool:=match d with
 |.func a=>JQ K f a
 |_=>false
def JR(K:Frag)(f:Fn):Bool:=(K.lookup<|JO f).any λo=>Uw K f o.data
theorem D4(h:E7 a):a=.none:=by
 induction a using Value.casesOn with
 |none=>rfl
 |_=>exact absurd h Bool.noConfusion
theorem any_some{a:Type}{o:Option a}{p:a->Bool}(h:o.any p):∃x,o=some x/\p x:=by
 induction o using qG with
 |none=>exact absurd h Bool.noConfusion
 |some x=>exact(a_ x z h)
theorem B7(h:Q9 a b):∃t,b=.str a t:=by
 induction b using Value.casesOn with
 |str s t=>exact⟨t,congrArg (λs=>Value.str s t)<|BC h⟩
 |_=>exact absurd h Bool.noConfusion
theorem JS(h:Uv c b):∃a t,b=.fields a/\a.toList[1]?=some (.str c t):=by
 induction b using Data.casesOn with
 |fields a=>
  obtain⟨l⟩:=a;induction l using da with
  |nil=>exact absurd h Bool.noConfusion
  |cons x r=>
   induction r using da with
   |nil=>exact absurd h Bool.noConfusion
   |cons v r=>refine oE (B7 h) ?_;clear h;rintro t rfl;exact(fJ _ t z rfl)
 |_=>exact absurd h Bool.noConfusion
theorem B8{K:Frag}{q:Str}{v:Value}(X:K.In a)(h:E_ K q v):a.CodeRec v q:=by
 induction v using Value.casesOn with
 |ref c=>refine bS (any_some h) λo d h=>iB (JS h) λf t b e=>?_;exact(wO c o f t z (X _ _ d) b<|by rw[<-Array.getElem?_toList];exact e)
 |_=>exact absurd h Bool.noConfusion
set_option maxHeartbeats 0 in
theorem JT:(ot.all λf=>yC (jJ<|fm f) (h8 f) (h7 f).1):=by kernel_rfl
theorem GX{K:Frag}{f:Fn}{b:FuncData}(X:K.In a)(v:(b.body,b.scope)=E9 f)(h:JQ K f b):JI a f b:=by
 refine oA (nl.mp h) λw l=>?_;refine oA (nl.mp w) λO j=>?_;clear w;refine oA (nl.mp O) λx i=>?_;refine oA (nl.mp x) λm g=>?_;clear x;refine oA (nl.mp m) λB A=>?_;clear m;refine oA (nl.mp B) λn d=>?_;clear B;refine oA (nl.mp n) λo c=>?_;clear n;refine oA (nl.mp o) λq M=>?_;clear o;refine oA (nl.mp q) λr L=>?_;clear q;refine oA (nl.mp r) λs J=>?_;clear r;refine oA (nl.mp s) λt H=>?_;clear s;refine oA (nl.mp t) λu G=>?_;clear t;refine oA (nl.mp u) λC F=>?_;clear u;refine⟨(a_ ((h7 f).1) (congrArg Prod.fst v)<|sS.mp JT f<|j8 f),⟨(h7 f).2,congrArg Prod.snd v⟩,List.isEmpty_iff.mp C,Nat.eq_of_beq_eq_true F,Nat.eq_of_beq_eq_true G,?_,List.isEmpty_iff.mp J,List.isEmpty_iff.mp L,Option.isNone_iff_eq_none.mp M,Option.isNone_iff_eq_none.mp c,D3 d,vB A,λy Q=>?_,λp N e=>?_,D1 j,B8 X l⟩;·exact D4 H
 ·have:=sS.mp g y Q;revert this;cases jJ (fm f) y with
  |none=>exact Kv
  |some k=>induction k using NK.casesOn with|e9=>exactλ_=>.inl z|mM=>exactλ_=>.inr z|_=>exact Kv
 ·have:=sS.mp i p N;rw[e] at this;cases this
theorem JU{K:Frag}{d:Data}(h:Uw K b d):∃a,d=.func a/\JQ K b a:=by
 induction d using Data.casesOn with
 |func a=>exact(a_ a z h)
 |_=>exact absurd h Bool.noConfusion
theorem XI{K:Frag}(X:K.In b)(h:(ot.all<|JR K))(g:ot.map (E8 K)=ot.map λi=>some<|E9 i):Nr K JO b:=λi=>by haveI a:=List.map_inj_left.mp g i<|j8 i;refine bS (any_some<|sS.mp h i<|j8 i) λo d t=>bS (JU t) λe c t=>?_;unfold E8 at a;rw[d] at a;dsimp only at a;rw[c] at a;exact(kH o e d c<|GX X (me a) t)
noncomputable def pd(x:Option<|Option Value)(a:Addr):Bool:=match x with
 |some (some<|.ref b)=>Nat.beq b a
 |_=>false
theorem kN(h:pd x a):x=some (some<|.ref a):=by
 induction x using qG with
 |none=>exact absurd h Bool.noConfusion
 |some x=>
  induction x using qG with
  |none=>exact absurd h Bool.noConfusion
  |some v=>
   induction v using Value.casesOn with
   |ref b=>exact congrArg (λc=>some<|some<|Value.ref c)<|Nat.eq_of_beq_eq_true h
   |_=>exact absurd h Bool.noConfusion
noncomputable def D5(x:Option<|Option Value):Bool:=match x with
 |some none=>true
 |_=>false
theorem xJ(h:D5 x):x=some none:=by
 induction x using qG with
 |none=>exact absurd h Bool.noConfusion
 |some x=>
  induction x using qG with
  |none=>rfl
  |some v=>exact absurd h Bool.noConfusion
def pg(K:Frag)(c:Cl):Bool:=
 plainGet K (GV c) "x"&&hasDictIn K (GV c)&&plainOver K (GV c)&&(findIn K (.ref<|GV c) "__setattr__"==some (some<|.builtin "object.__setattr__"))&&makesIn K (GV c)&&keepIn K (.ref<|GV c)&&
  (match uI c with|some f=>pd (findIn K (.ref<|GV c) "__init__") (JO f)|none=>true)&&pd (nsIn K mainGlobals<|an<|yv c) (GV c)
def Fb(K:Frag)(c:Cl):Bool:=(EL c).all (λp=>pd (findIn K (.ref<|GV c)<|dx p.1)<|JO p.2)&&Bc.all λm=> !i6 c m||D5 (findIn K (.ref<|GV c)<|dx m)
def qP(K:Frag)(f:Fn):Bool:=keepIn K (.ref<|JO f)&&isFn K (.ref<|JO f)&&(match Bf f with|some y=>pd (nsIn K mainGlobals<|an y) (JO f)|none=>true)
def JV(K:Frag)(g:Gl):Bool:=match SP g with
 |.str u=>(nsIn K mainGlobals<|an<|F0 g).any λo=>o.any<|Q9<|eX u
 |_=>false
def Pz(K:Frag):Bool:=Gw.all λp=>D5<|nsIn K mainGlobals<|an p.1
def Nv(P:Params):List DictEntry:=Nu.map λp=>⟨PyData.keyHash P<|eX p.1,.str (eX p.1) p.2.1,.ref p.2.2.1⟩
def Ra(K:Frag):Bool:=ot.all (JR K)&&B5.all (pg K)&&B5.all (Fb K)&&ot.all (qP K)&&Ic.all (JV K)&&Pz K&&pd (nsIn K mainGlobals<|an .lL) 22
def Rb(K:Frag):(Bool×List (Option<|FuncBody×Scope))×Option Obj×List (Option Obj):=((Ra K,ot.map<|E8 K),K.lookup 22,Nu.map λp=>K.lookup p.2.2.1)
def JW(P:Params):(Bool×List (Option<|FuncBody×Scope))×Option Obj×List (Option Obj):=((true,ot.map λf=>some<|E9 f),some ⟨.type "dict",none,.dict (Nv P).toArray 13,#[]⟩,Nu.map λp=>some ⟨.type "tuple",none,.seq (List.toArray<|Q8 p) 0,#[]⟩)
structure Fc(P:Params)(K:Frag):Prop where
 fn:ot.all (JR K)=true
 cl:B5.all (pg K)=true
 cz:B5.all (Fb K)=true
 XJ:ot.all (qP K)=true
 gl:Ic.all (JV K)=true
 bl:Pz K=true
 bd:ot.map (E8 K)=ot.map λf=>some (E9 f)
 op:pd (nsIn K mainGlobals<|an .lL) 22=true
 es:K.lookup 22=some ⟨.type "dict",none,.dict (Nv P).toArray 13,#[]⟩
 os:Nu.map (λa=>K.lookup a.2.2.1)=Nu.map λa=>some ⟨.type "tuple",none,.seq (List.toArray<|Q8 a) 0,#[]⟩
theorem JX{P:Params}{K:Frag}(h:Rb K=JW P):Fc P K:=by haveI i:Ra K:=congrArg (λx=>x.1.1) h;unfold Ra at i;simp only[oH] at i;refine kf λp n=>?_;refine oA i λk g=>?_;refine oA k λo f=>?_;clear k;refine oA o λl e=>?_;refine oA l λj d=>?_;clear l;refine oA j λm c=>?_;clear j;refine oA m λa b=>?_;clear m;exact n<|⟨a,b,c,d,e,f,congrArg (λx=>x.1.2) h,g,congrArg (λx=>x.2.1) h,congrArg (λx=>x.2.2) h⟩
noncomputable def ut(g:Addr->Option Obj)(b:List Addr):Frag:=b.filterMap λa=>(g a).map λo=>(a,o)
theorem GY:∀f:List Addr,(ut h.get? f).In h:=λg=>by
 induction g with
 |nil=>intro a o e;cases e
 |cons b r d=>
  intro a o e;unfold ut at e;rw[List.filterMap_cons] at e;cases q:h.get? b with
  |none=>rw[q] at e;exact d a o e
  |some x=>
   rw[q] at e;simp only[Option.map_some] at e;rw[ii] at e;cases c:(a==b) with
   |true=>rw[c] at e;cases e;rw[eq_of_beq c,q]
   |false=>rw[c] at e;exact d a o e
theorem cv{a b:Type}[BEq a][LawfulBEq a]{k:a}{v:b}:∀{l:List (a×b)},l.lookup k=some v->(k,v)∈l:=λ{d}=>by
 induction d with
 |nil=>intro c;exact Ku c
 |cons h r f=>
  obtain⟨g,i⟩:=h;intro e;rw[ii] at e;cases q:k==g with
  |true=>rw[q] at e;cases e;rw[beq_iff_eq.mp q];exact .head _
  |false=>rw[q] at e;exact N<|f e
section
variable{P:Params}{K:Frag}(C:Fc P K)
include C
theorem XK:p_ K GV JO:=by
 haveI b:∀f,qP K f:=λf=>sS.mp C.XJ f<|j8 f;haveI a:∀c,pg K c:=λc=>sS.mp C.cl c<|rE c;refine⟨λf=>?_,λc=>?_,λf=>?_,λc=>?_,λc f e=>?_⟩;·have:=b f;unfold qP at this;simp only[oH] at this;exact this.1.1
 ·have:=a c;unfold pg at this;simp only[oH] at this;exact this.1.1.2
 ·have:=b f;unfold qP at this;simp only[oH] at this;exact beq_iff_eq.mp this.1.2
 ·have:=a c;unfold pg at this;simp only[oH] at this;exact this.1.1.1.2
 ·have:=a c;unfold pg at this;simp only[oH] at this;haveI h:=this.1.2;rw[e] at h;exact kN h
theorem UA(c:Cl):ES K GV JO c:=by
 have a:=sS.mp C.cl c<|rE c;have d:=sS.mp C.cz c<|rE c;unfold pg at a;simp only[oH] at a;refine⟨a.1.1.1.1.1.1.1,a.1.1.1.1.1.1.2,a.1.1.1.1.1.2,beq_iff_eq.mp a.1.1.1.1.2,λm f e=>?_,λm e=>?_⟩;·have b:=sS.mp C.XJ f<|j8 f;unfold qP at b;simp only[oH] at b;exact⟨kN<|sS.mp (nl.mp d).1 (m,f) (cv e),b.1.2⟩
 ·have:=sS.mp (nl.mp d).2 m (vr e);rw[e] at this;exact xJ this
omit C in
theorem JY(P:Params):∀l:List (Sy×Nat×Addr×List (Sy×Nat)),KeysLit P (l.map λp=>(⟨PyData.keyHash P<|eX p.1,.str (eX p.1) p.2.1,.ref p.2.2.1⟩:DictEntry)):=λa=>by
 induction a with
 |nil=>exact trivial
 |cons p r b=>exact⟨(fJ _ _ z rfl),b⟩
omit C in
theorem Nw:∀p∈Gw,an p.1≠"__name__"/\bootBuiltins (an p.1)=some p.2:=by intro p a;simp only[Gw,ew,i3,or_false] at a;rcases a with rfl|rfl|rfl|rfl|rfl|rfl|rfl|rfl|rfl|rfl|rfl|rfl|rfl<;>exact⟨by decide+kernel,by kernel_rfl⟩
omit C in
theorem Nx:∀l:List (Sy×Nat),aC g (l.map λp=>.str p.1) (l.map λp=>.str (eX p.1) p.2):=λa=>by
 induction a with
 |nil=>exact .nil
 |cons p r b=>exact .cons (.str _ _)<|b
omit C in
theorem Ny:∀r∈Nu,findBy Value.isStrOf (Nv P).toArray (eX r.1)=some (.ref r.2.2.1):=by repeat first|exactλ_ h=>absurd h i3|refine List.forall_mem_cons.mpr ⟨by kernel_rfl,?_⟩
theorem JZ(t:Sy)(a:List V)(e:oS t=some a):∃r c k,findBy Value.isStrOf (Nv P).toArray (eX t)=some (.ref r)/\K.lookup r=some ⟨.type "tuple",none,.seq (List.toArray c) k,#[]⟩/\(∀g,aC g a c)/\a.length<=1000000:=by
 haveI m:(t,a)∈Nu.map λr=>(r.1,r.2.2.2.map λp=>V.str p.1):=cv e;refine bS (List.mem_map.mp m) λr d q=>?_;clear e m;cases q;haveI b:Nu.all (λr=>Nat.ble r.2.2.2.length 1000000):=by decide
 exact(oW r.2.2.1 (Q8 r) 0 (Ny r d) (List.map_inj_left.mp C.os r d) (λg=>Nx _)<|by rw[fZ];exact Nat.le_of_ble_eq_true<|sS.mp b r d)
omit C in
set_option tactic.hygienic true in
theorem FS(C:Fc w.params K)(X:K.In a)(T:Top A loose r n s a):p8 w K GV JO a n s:=by
 haveI l:∀f,qP K f:=λf=>sS.mp C.XJ f<|j8 f;haveI k:∀c,pg K c:=λc=>sS.mp C.cl c<|rE c;refine⟨X,T.nolimit,T.g,T.b,λf x e=>?_,λc=>?_,λg=>?_,λA b=>?_,(oW 22 _ _ ?_ C.es (by rw[List.toList_toArray];exact JY w.params Nu)<|JZ C),UA C⟩;·have:=l f;unfold qP at this;simp only[oH] at this;haveI h:=this.2;rw[e] at h;exact mg_of X T.g<|kN h
 ·have:=k c;unfold pg at this;simp only[oH] at this;exact mg_of X T.g<|kN this.2
 ·have:=sS.mp C.gl g<|GW g;unfold JV at this;generalize m:SP g=v at this;clear m;induction v using gQ with
  |str u=>refine bS (any_some this) λo d this=>?_;refine bS (any_some this) ?_;rintro x rfl this;refine oE (B7 this) ?_;clear this;rintro t rfl;exact(fJ t u z<|mg_of X T.g d)
  |_=>exact absurd this Bool.noConfusion
 ·have:=sS.mp C.bl A b;exact oA (Nw A b) λi j=>⟨mg_none_of X T.g<|xJ this,(T.builtins _ i).trans j⟩
 ·exact mg_of X T.g<|kN C.op
end
theorem GZ:∀p∈fm .A2,p.2≠.mM/\p.2≠.iH:=by decide
noncomputable def D6:List Addr:=(List.range 899).filter (Nat.testBit 3408351820255587759346304047677872809210486136007282658286391109433722339139852933322292503361535536800302974576517462567910624871005183633726516529575495545688238216334015756024010965087735355499670644285732904612974483895838402039025369477803314633657798605280512475148)
noncomputable def Rc(s:SharedT)(a:Addr):Option Obj:=match Nat.blt a s.n with
 |true=>alive ((s.tree.get a).getD default)
 |false=>none
theorem J0(s:SharedT):s.abs.heap.get?=Rc s:=by
 funext a
 show(absHeap s.tree s.n s.life).get? a=_
 unfold Rc
 cases q:Nat.blt a s.n with
 |false=>exact abs_get_none λh=>absurd ((Nat.ble_eq_true_of_le h:Nat.blt a s.n=true).symm.trans q) m
 |true=>
  have h:a<s.n:=Nat.le_of_ble_eq_true q
  unfold Heap.get?
  rw[absHeap_at,if_pos h]
  obtain⟨c,d,b,e⟩:=(s.tree.get a).getD default
  cases b<;>rfl
noncomputable def Yt(s:SharedT):(Bool×List (Option (FuncBody×Scope)))×Option Obj×List (Option Obj):=Rb (ut (Rc s) D6)
noncomputable def Ys(s:Shared):(Bool×List (Option (FuncBody×Scope)))×Option Obj×List (Option Obj):=Rb (ut s.heap.get? D6)
theorem Rf(s:SharedT):Ys s.abs=Yt s:=by unfold Ys Yt;rw[J0]
set_option maxHeartbeats 0 in
theorem UB(w:World)(a:OsState):(FV PySem.Challenge.pw_pq1035_01 (w.withFollow "special-get-raises" false) 11 H_ 7000 (A6 (w.withFollow "special-get-raises" false) a) (topStub PySem.Challenge.pw_pq1035_01)).map
 (wA PySem.Challenge.pw_pq1035_01 qv qi (w.withFollow "special-get-raises" false) Yt)=some (true,openGood qv qi,JW (w.withFollow "special-get-raises" false).params):=by kernel_rfl
set_option maxHeartbeats 0 in
theorem UC(w:World)(a:OsState):(FV PySem.Challenge.pw_pq1035_01 (w.withFollow "special-get-raises" true) 11 H_ 7000 (A6 (w.withFollow "special-get-raises" true) a) (topStub PySem.Challenge.pw_pq1035_01)).map
 (wA PySem.Challenge.pw_pq1035_01 qv qi (w.withFollow "special-get-raises" true) Yt)=some (true,openGood qv qi,JW (w.withFollow "special-get-raises" true).params):=by kernel_rfl
abbrev rowV:OpenRow:=PySem.Challenge.rw_pq1035_01.row
theorem UD:LeftO rowV.prog qv qi Wa Ys (λw=>JW w.params) 7000:=
 My Rf yq C3 m m λw a=>byRow2 "special-get-raises" (P:=λw=>(FV PySem.Challenge.pw_pq1035_01 w 11 H_ 7000 (A6 w a) (topStub PySem.Challenge.pw_pq1035_01)).map (wA PySem.Challenge.pw_pq1035_01 qv qi w Yt)=some (true,openGood qv qi,JW w.params))
  (λw=>UB w a) (λw=>UC w a) w
set_option maxHeartbeats 0 in
theorem UE:OpenLaw.wellSaid PySem.Challenge.rw_pq1035_01=true:=by rw[PySem.W.Fast.te9446332074065402090];kernel_rfl
set_option maxHeartbeats 0 in
theorem G':(chainsOk qv&&opensWell rowV.prog&&(frees rowV.toRowW&&rowV.within.isEmpty))=true:=by kernel_rfl
theorem Gc:rowV.prog.bare:=⟨z,z,z,z,z,by decide+kernel⟩
theorem Gm:rowV.toRowW.promised:=by w_on;w_witness2
noncomputable def YP(w:World)(h:Heap):Prop:=∃K:Frag,K.In h/\Fc w.params K
local macro_rules | `(tactic| k_qdec) => `(tactic| decide +kernel)
set_option tactic.hygienic true in
set_option Elab.async true in
set_option maxHeartbeats 0 in
theorem J1(H:v7):rowV.Holds:=by
 refine PySem.W.holds_open (q:=qv) (loose:=qi) (Xt:=Wa) (XP:=XL qv []) (YP:=YP) (N:=7000) UD (λw s e=>⟨_,GY D6,JX e⟩) (λw h h' y k=>y.imp λK x=>⟨λa o e=>k a o (x.1 a o e),x.2⟩)
  (λs e=>xl_of s e) XL.keeps (by rfl) (by rfl) (by rfl) (λs _=>recFacts_nil z) (by rfl) (row_said UE) G' Gc Gm ?_
 intro w t g mg mb G Y fa o pm C D dV kV S P j E p Q args b as u v q r n
 obtain⟨K,i,c⟩:=Y
 k_behind G S P j E p u v q r n C
 rename_i X V GL T B TE TW m1 m2 M m3 m4 Z hs Zw L W MU l1 l2 a b l3 J ra w1 r0 I hr N O K0 bh F N0
 have A:1<g.heap.objs.size:=sg m (ip (i 22 _ c.es))
 refine d (Ey (a:=a) (E:=b) (P:=Z) (FS c i T) (XK c) (XI i c.fn c.bd) ⟨z,by show(1+claimMargin)+1+4*10<=900+0;decide,by show 4+3+10*10+800<=9900+0;decide⟩ (I:=(h7 .A2).1) (sS.mp JT .A2 (j8 .A2)) (by kernel_rfl) ⟨(h7 .A2).2,by kernel_rfl⟩ z rfl rfl rfl GZ J I (by lia) F (by kernel_rfl) A
  (Nat.le_of_lt F.ns.lt) H) (λf s' U=>?_) (λ_ _ e=>e.elim)
 obtain⟨rfl,R,l,sJ⟩:=U
 exact⟨.inl ⟨.bool true,.bool true,[],z,λ_=>rfl,.bool true,by wrow_post,λ_=>⟨List.nodup_nil,(rW _)⟩⟩,R,sJ,l.trans Q⟩
theorem M'(H:v7):PySem.Challenge.rw_pq1035_01.Holds:=holds_law UE λ_=>J1 H
end
namespace Q
inductive At(a:Nat)(c c':a0):H->H->Prop
 |head {R}:At a c c' ((a,c)::R) ((a,c')::R)
 |tail {x R R'} (b:At a c c' R R'):At a c c' (x::R) (x::R')
def vW(h:Hp):H->Prop
 |[]=>True
 |x::R=>h x.1=some x.2/\(∀y∈R,y.1≠x.1)/\vW h R
theorem vW.get:∀{L:H},vW h L->(a,c)∈L->h a=some c:=λ{L}=>by
 induction L with
 |nil=>exactλ_ m=>absurd m i3
 |cons x R j=>exactλd m=>(ew.mp m).elim (λe=>by subst e;exact d.1)<|j d.2.2
theorem At.mem(m:At a c j L b):(a,c)∈L:=by
 induction m with
 |head=>exact .head _
 |tail _ d=>exact N d
theorem At.keys(m:At a c g L b):∀y∈b,∃f∈L,f.1=y.1:=by
 induction m with
 |head=>intro y k;rcases ew.mp k with rfl|k;exact(a_ _ q z);exact(a_ y (N k) z)
 |tail _ j=>
  intro y k;rcases ew.mp k with rfl|k
  ·exact(a_ _ q z)
  ·refine bS (j y k) λf d e=>?_;exact(a_ f (N d) e)
theorem vW.UH:∀{L:H},vW h L->(∀y∈L,y.1≠a)->vW (h9 h a c) L
 |[],_,_=>trivial
 |x::R,d,n=>(eP ((if_neg<|n x q).trans d.1) d.2.1<|d.2.2.UH λy m=>n y<|N m)
theorem vW.put(d:vW h L)(m:At a c j L b):vW (h9 h a j) b:=by
 induction m with
 |head=>exact(eP (if_pos z) d.2.1<|d.2.2.UH d.2.1)
 |tail m l=>refine(eP ((if_neg λq=>d.2.1 _ m.mem q.symm).trans d.1) (λy n=>?_)<|l d.2.2);exact bS (m.keys y n) λf k e=>e▸d.2.1 f k
theorem vW.add(d:vW h L)(n:h a=none):vW (h9 h a c)<|(a,c)::L:=
 haveI k:∀y∈L,y.1≠a:=λy m q=>by have:=d.get (a:=y.1) (c:=y.2) m;rw[q,n] at this;cases this
 (eP (if_pos z) k<|d.UH k)
theorem vW.sub{h:Hp}{L F:H}(d:vW h L)(s:F.Sublist L):vW h F:=by
 induction s with
 |slnil=>trivial
 |cons _ _ j=>exact j d.2.2
 |cons_cons x s j=>exact(eP d.1 (λy m=>d.2.1 y<|s.subset m)<|j d.2.2)
theorem vW.perm(d:vW h L)(p:L.Perm a):vW h a:=by
 induction p with
 |nil=>trivial
 |cons x p k=>exact(eP d.1 (λy m=>d.2.1 y<|p.symm.subset m)<|k d.2.2)
 |swap x y l=>exact(EP d.2.2.1 (λz m=>(by rcases ew.mp m with rfl|m;exact(d.2.1 _ q).symm;exact d.2.2.2.1 z m)) d.1 (λz m=>d.2.1 z<|N m) d.2.2.2.2)
 |trans _ _ i j=>exact j<|i d
structure aT where
 C:Hp->H->Prop
 get:∀{h a c L},C h L->(a,c)∈L->h a=some c
 put:∀{h a c c' L F},C h L->At a c c' L F->C (h9 h a c') F
 add:∀{h a c L},C h L->h a=none->C (h9 h a c) ((a,c)::L)
 sub:∀{h L F},C h L->F.Sublist L->C h F
 perm:∀{h L F},C h L->L.Perm F->C h F
noncomputable def O:aT:=⟨vW,vW.get,vW.put,vW.add,vW.sub,vW.perm⟩
theorem aT.tl{Z:aT}{h:Hp}{x:Nat×a0}{L:H}(d:Z.C h<|x::L):Z.C h L:=Z.sub d<|.cons _<|.refl L
theorem aT.mv{Z:aT}{h:Hp}(A X B:H){R:H}(d:Z.C h<|A++(X++(B++R))):Z.C h<|A++(B++(X++R)):=Z.perm d<|List.Perm.append_left A<|List.perm_append_comm_assoc X B R
theorem aT.mv02_3{Z:aT}{h:Hp}{X R:H}{a b c:Nat×a0}(d:Z.C h<|X++a::b::c::R):Z.C h<|a::b::c::(X++R):=aT.mv [] X [a,b,c] d
theorem aT.mv2_3{Z:aT}{h:Hp}{X R:H}{a b c d e:Nat×a0}(j:Z.C h<|a::b::(X++c::d::e::R)):Z.C h<|a::b::c::d::e::(X++R):=aT.mv [a,b] X [c,d,e] j
theorem bj{d j:Type}{o:Option d}{f:d->Option j}{x:d}{y:j}(e:o=some x)(k:f x=some y):o.bind f=some y:=Option.bind_eq_some_iff.mpr<|a_ _ e k
theorem cR{d j:Type}{o:Option d}{f:d->j}{x:d}(e:o=some x):o.map f=some (f x):=congrArg (Option.map f) e
theorem rg{d j:Type}{o:Option d}{f:d->Option j}{x:d}(e:o=some x)(k:f x=none):o.bind f=none:=(congrArg (λo=>Option.bind o f) e).trans k
theorem cT(e:h a=some (.list b)):f8 h a=some b:=Option.bind_eq_some_iff.mpr<|a_ _ e z
section
variable{p:P}{g u A:List V}{v w:V}{c:a0}{a:Nat}{Y:aV}{h:Hp}{K:V->St->Prop}{L F:H}{Z:aT}
theorem xK(e:ay p g h=some (.val w))(k:K w ⟨Y,h⟩):∃r,ay p g h=some r/\nF r K ⟨Y,h⟩:=(a_ _ e k)
theorem UI(b:(-1000000<i/\i<1000000)/\-1000000<j/\j<1000000)(k:K (.int<|i*j) ⟨Y,h⟩):∃r,ay (.fA .mul) [.int i,.int j] h=some r/\nF r K ⟨Y,h⟩:=
 xK (by exact if_pos<|by simp only[oH,decide_eq_true_eq];exact⟨⟨b.1,b.2.1⟩,b.2.2⟩) k
theorem UJ(e:ay p g h=some (.new c))(d:Z.C h L)(k:∀a j,Z.C j ((a,c)::L)->K (.ref a) ⟨Y,j⟩):∃r,ay p g h=some r/\nF r K ⟨Y,h⟩:=(a_ _ e λa n=>k a _<|Z.add d n)
theorem Rg(d:Z.C h L)(m:(a,.inst b fs)∈L)(e:fs.lookup i=some w)(k:K w ⟨Y,h⟩):∃r,ay (.attr i) [.ref a] h=some r/\nF r K ⟨Y,h⟩:=
 (a_ (.val w) (by show(sv (.ref a) i h).map R.val=_;simp only[sv,Z.get d m,e,Option.map_some]) k)
theorem XR(d:Z.C h L)(m:(a,.list g)∈L)(j:0<=i)(e:g[i.toNat]?=some w)(k:K w ⟨Y,h⟩):∃r,ay .sub [.ref a,.int i] h=some r/\nF r K ⟨Y,h⟩:=
 (a_ (.val w) (cR<|bj (Z.get d m)<|(if_pos j).trans e) k)
theorem Rh(d:Z.C h L)(m:(a,.dict lk bo)∈L)(e:bo.lookup i=some w)(k:K w ⟨Y,h⟩):∃r,ay .sub [.ref a,.int i] h=some r/\nF r K ⟨Y,h⟩:=
 (a_ (.val w) (cR<|bj (Z.get d m) e) k)
theorem UL(d:Z.C h L)(m:(a,.list g)∈L)(k:K (.int g.length) ⟨Y,h⟩):∃r,ay .len [.ref a] h=some r/\nF r K ⟨Y,h⟩:=
 (a_ (.val<|.int g.length) (cR (f:=λ(n:Nat)=>R.val<|V.int n)<|cR (f:=List.length)<|cT<|Z.get d m) k)
theorem Nz(d:Z.C h L)(m:(a,.list g)∈L)(j:(b,.list [])∈L)(k:K (.bool g.isEmpty) ⟨Y,h⟩):∃r,ay (.eW .eq) [.ref a,.ref b] h=some r/\nF r K ⟨Y,h⟩:=
 (a_ (.val<|.bool g.isEmpty) (cR (f:=λb=>R.val<|V.bool b) (o:=zO (.ref a) (.ref b) h)<|bj (Z.get d m)<|bj (Z.get d j)<|by(clear m;cases g)<;>rfl) k)
theorem NA(d:Z.C h L)(m:(a,.list g)∈L)(j:(b,.list [])∈L)(k:K (.bool<|!g.isEmpty) ⟨Y,h⟩):∃r,ay (.eW .ne) [.ref a,.ref b] h=some r/\nF r K ⟨Y,h⟩:=
 (a_ (.val<|.bool<|!g.isEmpty) (cR (f:=λb=>R.val<|V.bool b)<|cR (f:=not) (x:=g.isEmpty) (o:=zO (.ref a) (.ref b) h)<|bj (Z.get d m)<|bj (Z.get d j)<|by(clear m;cases g)<;>rfl) k)
theorem UM(d:Z.C h L)(m:At a (.list<|g++[v]) (.list g) L F)(k:∀j,Z.C j F->K v ⟨Y,j⟩):∃r,ay .pop [.ref a] h=some r/\nF r K ⟨Y,h⟩:=
 (a_ (.upd a (.list g) v) (bj (cT<|Z.get d m.mem)<|by simp)<|k _<|Z.put d m)
theorem J2(d:Z.C h L)(m:At a (.list g) (.list<|g++[v]) L F)(l:g.length<1000000)(k:∀j,Z.C j F->K .none ⟨Y,j⟩):∃r,ay .append [.ref a,v] h=some r/\nF r K ⟨Y,h⟩:=
 (a_ (.upd a (.list<|g++[v]) .none) (bj (cT<|Z.get d m.mem)<|if_pos<|decide_eq_true l)<|k _<|Z.put d m)
theorem UN(d:Z.C h L)(m:(a,.list g)∈L)(k:∀a j,Z.C j ((a,.list<|g.take 1)::L)->K (.ref a) ⟨Y,j⟩):∃r,ay (.slice .SO) [.ref a] h=some r/\nF r K ⟨Y,h⟩:=
 (a_ (.new<|.list<|g.take 1) (cR (o:=mT (.ref a) h) (f:=λg=>R.new<|.list<|g.take 1)<|cT<|Z.get d m) λa n=>k a _<|Z.add d n)
theorem J3(d:Z.C h L)(m:At a (.list g) (.list<|g++u) L F)(l:(b,.list u)∈L)(n:g.length+u.length<1000000)(k:∀j,Z.C j F->K .none ⟨Y,j⟩):∃r,ay .extend [.ref a,.ref b] h=some r/\nF r K ⟨Y,h⟩:=
 (a_ (.upd a (.list<|g++u) .none) (bj (cT<|Z.get d m.mem)<|bj (o:=jj (.ref b) h) (cT<|Z.get d l)<|if_pos<|decide_eq_true n)<|k _<|Z.put d m)
theorem J4(d:Z.C h L)(m:(a,.list g)∈L)(k:∀a j,Z.C j ((a,.list g)::L)->K (.ref a) ⟨Y,j⟩):∃r,ay .dR [.ref a] h=some r/\nF r K ⟨Y,h⟩:=
 (a_ (.new<|.list g) (cR (o:=bm (.ref a) h) (f:=λx=>R.new<|.list x.1)<|bj (Z.get d m) z) λa n=>k a _<|Z.add d n)
theorem G0(r:Nat):∀k:List Nat,(k.map λ(s:Nat)=>V.int s).any (λy=>cZ y<|.int r)=k.contains r:=λd=>by
 induction d with
 |nil=>exact z
 |cons s k j=>
  haveI e:cZ (.int (s:Nat)) (.int (r:Nat))=(r==s):=by
   show decide ((s:Int)=r)=_;by_cases q:s=r;·subst q;simp
   ·exact(decide_eq_false λe:(s:Int)=r=>q<|Int.ofNat.inj e).trans (nz.mpr λe=>q e.symm).symm
  rw[pc,List.any_cons,j,List.contains_cons,e]
theorem D7:∀l:List Nat,dL (l.map λ(s:Nat)=>V.int s):=λd=>by
 induction d with
 |nil=>exact z
 |cons k l j=>exact j
theorem J5{j:List Nat}(d:Z.C h L)(m:(a,.list<|j.map λ(s:Nat)=>V.int s)∈L)(k:K (.bool<|!j.contains r) ⟨Y,h⟩):∃z,ay (.eW .gU) [.int r,.ref a] h=some z/\nF z K ⟨Y,h⟩:=
 (a_ (.val<|.bool<|!j.contains r) (cR (f:=λb=>R.val<|V.bool b)<|cR (f:=not) (o:=zP (.int r) (.ref a) h)<|bj (Z.get d m)<|(if_pos<|D7 j).trans<|congrArg some<|G0 r j) k)
theorem J6(d:Z.C h L)(m:(a,.dg bo)∈L)(k:K (.bool<|!(bo.lookup (i,j)).isSome) ⟨Y,h⟩):∃r,ay (.eW .gU) [.aF [.int i,.int j],.ref a] h=some r/\nF r K ⟨Y,h⟩:=
 (a_ (.val _) (cR (f:=λb=>R.val<|V.bool b)<|cR (f:=not) (o:=zP (.aF [.int i,.int j]) (.ref a) h)<|bj (Z.get d m) z) k)
theorem J7(d:Z.C h L)(m:(a,.dict lk bo)∈L)(k:K (.bool<|!(bo.lookup i).isSome) ⟨Y,h⟩):∃r,ay (.eW .gU) [.int i,.ref a] h=some r/\nF r K ⟨Y,h⟩:=
 (a_ (.val _) (cR (f:=λb=>R.val<|V.bool b)<|cR (f:=not) (o:=zP (.int i) (.ref a) h)<|bj (Z.get d m) z) k)
theorem UO(d:Z.C h L)(m:(a,.dict lk bo)∈L)(k:K (.bool (bo.lookup i).isSome) ⟨Y,h⟩):∃r,ay (.eW .isin) [.int i,.ref a] h=some r/\nF r K ⟨Y,h⟩:=
 (a_ (.val _) (cR (f:=λb=>R.val<|V.bool b) (o:=zP (.int i) (.ref a) h)<|bj (Z.get d m) z) k)
theorem NB(d:Z.C h L)(m:(a,.dg bo)∈L)(e:bo.lookup (i,j)=some w)(k:K w ⟨Y,h⟩):∃r,ay .sub [.ref a,.aF [.int i,.int j]] h=some r/\nF r K ⟨Y,h⟩:=
 (a_ (.val w) (cR<|bj (Z.get d m) e) k)
theorem D8{G:St->Prop}(d:Z.C h L)(n:bo.length<1000000)(m:At a (.dg bo) (.dg<|aE (i,j) v bo) L F)(k:∀e,Z.C e F->G ⟨Y,e⟩):
 ∃b c,nn (.ref a) (.aF [.int i,.int j]) v h=some (b,c)/\G ⟨Y,h9 h b c⟩:=
 (fJ a _ (bj (Z.get d m.mem)<|cR<|if_pos<|decide_eq_true n)<|k _<|Z.put d m)
theorem XS{b:V->(aV)->Option (aV)}(d:Z.C h L)(m:(a,.list g)∈L)(k:mA [(a,.list g)] b j KK g ⟨Y,h⟩):
 ∃u c,gO .it [.ref a] h=some (u,c)/\mA c b j (λn l=>KK n ⟨l.ρ,dK (a9 .it [.ref a] h) false l.h⟩) u ⟨Y,dK (a9 .it [.ref a] h) true h⟩:=by
 haveI e:a9 .it [.ref a] h=none:=rg (Z.get d m) z;rw[e];exact(fJ g ([(a,.list g)]) (bj (Z.get d m) z) k)
theorem UQ{l:V->(aV)->Option (aV)}{f:(Bool->St->Prop)->St->Prop}{Q:V->St->Prop}{M:aV}(d:Z.C h L)(m:(a,.list g)∈L)
 (k:kC [(a,.list g)] l f n (λj i=>∀b,i.h b=none->Q (.ref b) ⟨Y,h9 i.h b<|.list j⟩) g [] ⟨M,h⟩):
 ∃u c,gO .it [.ref a] h=some (u,c)/\kC c l f n (λj i=>∀b,i.h b=none->Q (.ref b) ⟨Y,h9 (dK (a9 .it [.ref a] h) false i.h) b<|.list j⟩) u [] ⟨M,dK (a9 .it [.ref a] h) true h⟩:=by
 haveI e:a9 .it [.ref a] h=none:=rg (Z.get d m) z;rw[e];exact(fJ g ([(a,.list g)]) (bj (Z.get d m) z) k)
theorem G1(d:Z.C h L)(m:(a,.list g)∈L)(k:K (.aF g) ⟨Y,h⟩):∃r,ay .gG [.ref a] h=some r/\nF r K ⟨Y,h⟩:=
 (a_ (.val<|.aF g) (cR (o:=mT (.ref a) h) (f:=λg=>R.val<|.aF g)<|cT<|Z.get d m) k)
theorem UR{e:V->(aV)->Option (aV)}(d:Z.C h L)(m:(a,.list u)∈L)(q:(b,.list A)∈L)(k:mA [(a,.list u),(b,.list A)] e j KK (bn u A) ⟨Y,h⟩):
 ∃u c,gO .zip [.ref a,.ref b] h=some (u,c)/\mA c e j (λn l=>KK n ⟨l.ρ,dK (a9 .zip [.ref a,.ref b] h) false l.h⟩) u ⟨Y,dK (a9 .zip [.ref a,.ref b] h) true h⟩:=
 (fJ (bn u A) ([(a,.list u),(b,.list A)]) (bj (cT<|Z.get d m)<|cR<|cT<|Z.get d q) k)
theorem G2{b:Nat}(d:Z.C h L)(m:(a,c)∈L)(k:(b,e)∈L):ch [(a,c),(b,e)] h:=λp j=>by
 refine db (ew.mp j) ?_ ?_;·rintro rfl;exact Z.get d m
 ·intro j;rcases eL.mp j with rfl;exact Z.get d k
theorem Ri{e:V->(aV)->Option (aV)}(d:Z.C h L)(q:(b,.list A)∈L)(k:mA [(b,.list A)] e j KK (bn u A) ⟨Y,h⟩):
 ∃l c,gO .zip [.aF u,.ref b] h=some (l,c)/\mA c e j (λn m=>KK n ⟨m.ρ,dK (a9 .zip [.aF u,.ref b] h) false m.h⟩) l ⟨Y,dK (a9 .zip [.aF u,.ref b] h) true h⟩:=
 (fJ (bn u A) ([(b,.list A)]) (cR (o:=jj (.ref b) h)<|cT<|Z.get d q) k)
theorem wX(d:Z.C h L)(m:(a,c)∈L):ch [(a,c)] h:=λp j=>by rcases eL.mp j with rfl;exact Z.get d m
theorem Rj(i j:Nat):(decide ((0:Int)<=i)&&decide ((0:Int)<=j)):=by simp only[oH,decide_eq_true_eq];exact⟨jp i,jp j⟩
theorem US(k:K (.int (i|||j:Nat)) ⟨Y,h⟩):∃r,ay (.fA .bor) [.int i,.int j] h=some r/\nF r K ⟨Y,h⟩:=xK (w:=.int (i|||j:Nat)) (by show(if (decide ((0:Int)<=i)&&decide ((0:Int)<=j)) then some (R.val<|.int (i|||j:Nat)) else none)=_;exact if_pos<|Rj i j) k
theorem Rk(k:K (.int (i&&&j:Nat)) ⟨Y,h⟩):∃r,ay (.fA .band) [.int i,.int j] h=some r/\nF r K ⟨Y,h⟩:=xK (w:=.int (i&&&j:Nat)) (by show(if (decide ((0:Int)<=i)&&decide ((0:Int)<=j)) then some (R.val<|.int (i&&&j:Nat)) else none)=_;exact if_pos<|Rj i j) k
theorem Rl(k:K (.int (i^^^j:Nat)) ⟨Y,h⟩):∃r,ay (.fA .bxor) [.int i,.int j] h=some r/\nF r K ⟨Y,h⟩:=xK (w:=.int (i^^^j:Nat)) (by show(if (decide ((0:Int)<=i)&&decide ((0:Int)<=j)) then some (R.val<|.int (i^^^j:Nat)) else none)=_;exact if_pos<|Rj i j) k
theorem UT{j:Nat}(d:j<10000)(k:K (.int (2^j:Nat)) ⟨Y,h⟩):∃r,ay (.fA .shl) [.int 1,.int j] h=some r/\nF r K ⟨Y,h⟩:=
 xK (w:=.int (2^j:Nat)) (by exact if_pos<|by simp only[oH,decide_eq_true_eq];exact⟨⟨trivial,jp j⟩,by lia⟩) k
theorem UU(d:j<10000)(k:K (.int (i>>>j:Nat)) ⟨Y,h⟩):∃r,ay (.fA .shr) [.int i,.int j] h=some r/\nF r K ⟨Y,h⟩:=
 xK (w:=.int (i>>>j:Nat)) (by exact if_pos<|by simp only[oH,decide_eq_true_eq];exact⟨⟨jp i,jp j⟩,by lia⟩) k
theorem G3(d:Z.C h L)(m:At a (.list g) (.list<|g++u) L F)(l:g.length+u.length<1000000)(k:∀j,Z.C j F->K .none ⟨Y,j⟩):∃r,ay .extend [.ref a,.aF u] h=some r/\nF r K ⟨Y,h⟩:=
 (a_ (.upd a (.list<|g++u) .none) (bj (cT<|Z.get d m.mem)<|if_pos<|decide_eq_true l)<|k _<|Z.put d m)
theorem Rm(d:Z.C h L)(m:(a,.list u)∈L)(l:(b,.list A)∈L)(q:u.length+A.length<1000000)(k:∀a j,Z.C j ((a,.list<|u++A)::L)->K (.ref a) ⟨Y,j⟩):∃r,ay (.fA .add) [.ref a,.ref b] h=some r/\nF r K ⟨Y,h⟩:=
 (a_ (.new<|.list<|u++A) (Option.bind_eq_some_iff.mpr<|a_ _ (cT<|Z.get d m)<|Option.bind_eq_some_iff.mpr<|a_ _ (cT<|Z.get d l)<|if_pos<|decide_eq_true q) λa n=>k a _<|Z.add d n)
theorem UW(d:Z.C h L)(m:(a,.list g)∈L)(k:∀a j,Z.C j ((a,.list g.reverse)::L)->K (.ref a) ⟨Y,j⟩):∃r,ay (.slice .rev) [.ref a] h=some r/\nF r K ⟨Y,h⟩:=
 (a_ (.new<|.list g.reverse) (cR (o:=mT (.ref a) h) (f:=λg=>R.new<|.list g.reverse)<|cT<|Z.get d m) λa n=>k a _<|Z.add d n)
theorem UX(d:Z.C h L)(m:(a,.list [v])∈L)(b:0<=i)(l:i<1000000)(k:∀a j,Z.C j ((a,.list<|List.replicate i.toNat v)::L)->K (.ref a) ⟨Y,j⟩):∃r,ay (.fA .mul) [.ref a,.int i] h=some r/\nF r K ⟨Y,h⟩:=
 (a_ (.new<|.list<|List.replicate i.toNat v) (Option.bind_eq_some_iff.mpr<|a_ _ (cT<|Z.get d m)<|if_pos<|nl.mpr ⟨decide_eq_true b,decide_eq_true l⟩) λa n=>k a _<|Z.add d n)
theorem B9(d:Z.C h L)(b:0<=i)(l:i<1000000)(k:∀a j,Z.C j ((a,.list<|bY i)::L)->K (.ref a) ⟨Y,j⟩):∃r,ay .iy [.int i] h=some r/\nF r K ⟨Y,h⟩:=
 (a_ (.new<|.list<|bY i) (by exact if_pos<|by simp only[oH,decide_eq_true_eq];exact⟨b,l⟩) λa n=>k a _<|Z.add d n)
theorem NC(d:Z.C h L)(m:(a,.dict lk bo)∈L)(k:∀a j,Z.C j ((a,.list<|bo.map λp=>.int p.1)::L)->K (.ref a) ⟨Y,j⟩):∃r,ay .dR [.ref a] h=some r/\nF r K ⟨Y,h⟩:=
 (a_ (.new<|.list<|bo.map λ(p:Int×V)=>.int p.1) (cR (o:=bm (.ref a) h) (f:=λx=>R.new<|.list x.1)<|bj (o:=h a) (Z.get d m) z) λa n=>k a _<|Z.add d n)
theorem uQ{q j:List (IK×V)}{G:St->Prop}(d:Z.C h L)(e:aE r v q=j)(n:i6 i r)(m:At a (.inst i q) (.inst i j) L F)(k:∀s,Z.C s F->G ⟨Y,s⟩):
 ∃b c,h6 (.ref a) r v h=some (b,c)/\G ⟨Y,h9 h b c⟩:=
 (fJ a (.inst i j) (by simp only[h6,Z.get d m.mem,n,e];rfl)<|k _<|Z.put d m)
theorem G4{i:Int}{G:St->Prop}(d:Z.C h L)(l:0<=i)(n:i<g.length)(m:At a (.list g) (.list<|g.set i.toNat v) L F)(k:∀j,Z.C j F->G ⟨Y,j⟩):
 ∃b c,nn (.ref a) (.int i) v h=some (b,c)/\G ⟨Y,h9 h b c⟩:=
 (fJ a _ (bj (Z.get d m.mem)<|cR<|if_pos<|nl.mpr ⟨decide_eq_true l,decide_eq_true n⟩)<|k _<|Z.put d m)
theorem G5{G:St->Prop}(d:Z.C h L)(l:bo.length<1000000)(m:At a (.dict false bo) (.dict false<|aE i v bo) L F)(k:∀j,Z.C j F->G ⟨Y,j⟩):
 ∃b c,nn (.ref a) (.int i) v h=some (b,c)/\G ⟨Y,h9 h b c⟩:=
 (fJ a _ (bj (Z.get d m.mem)<|cR<|if_pos<|decide_eq_true l)<|k _<|Z.put d m)
theorem J8{d B:Prop}(e:b=true)(k:d):if b then d else B:=by rw[if_pos e];exact k
theorem J9{d B:Prop}(e:b=false)(k:B):if b then d else B:=by rw[if_neg<|by rw[e];decide];exact k
end
def Rt(Q:dC):Fl->St->Prop
 |.next,s=>Q .none s.h
 |.ret v,s=>Q v s.h
theorem XT{f:Fn}{g:List V}{Q:dC}{h:Hp}(d:List Vr)(b:Ss)(y:ft f=d)(l:h8 f=b)(m:d.length=g.length)(k:gp (Tn n) b (Rt Q) ⟨iU d g λ_=>none,h⟩):Tn (n+1) f g Q h:=by subst y l;refine⟨m,(iff_of_eq<|congrArg (λq=>gp (Tn n) (h8 f) q ⟨iU (ft f) g λ_=>none,h⟩) ?_).mp k⟩;funext j s;cases j<;>rfl
def Kn(T:Sp)(r:Ss)(Q:Fl->St->Prop):Fl->St->Prop
 |.next,s=>gp T r Q s
 |.ret v,s=>Q (.ret v) s
section
variable{T:Sp}{e o i:E}{r t b a1:Ss}{c:B}{f:IK}{x:Vr}{u:List Vr}{j:Fl->St->Prop}{s:St}
def Wn(T:Sp)(c:B)(b:Ss)(j:Fl->St->Prop)(n:Nat):Fl->St->Prop
 |.next,s=>uB (qh T c) (gp T b) j n s
 |.ret v,s=>j (.ret v) s
theorem Rn(k:qh T c (λt s=>if t then gp T b (Wn T c b j n) s else j .next s) s):uB (qh T c) (gp T b) j (n+1) s:=by refine(iff_of_eq<|congrArg (λq=>qh T c (λt s=>if t then gp T b q s else j .next s) s) ?_).mp k;funext d s;cases d<;>rfl
end
section
variable{T:Sp}{k:Tg}{c:H}{x:V}{u n:List V}{Y C:aV}{h:Hp}{j:List V->St->Prop}
theorem Ro{f:(Bool->St->Prop)->St->Prop}(m:ch c h)(d:dA k x Y=some C)(l:∀a s,a true s->f a s)(e:b (λg s=>kC c (dA k) f b j u (n++[g]) s) ⟨C,h⟩):
 kC c (dA k) f b j (x::u) n ⟨Y,h⟩:=by
 refine(F6 m C d<|l _ _ ?_);rw[if_pos z];exact e
theorem ND{G:List V->H->Prop}(e:0<=b)(d:b<1000000)(a:G (bY b) []):∃u c,gO .range [.int b] h=some (u,c)/\G u c:=
 (fJ _ _ (if_pos<|by simp only[oH,decide_eq_true_eq];exact⟨e,d⟩) a)
end
theorem uR:ch [] h:=λ_ m=>(by cases m)
section
variable{T:Sp}{j:V->St->Prop}{s:St}
def wP(j:V->St->Prop)(H:aV):List V->St->Prop:=λd a=>∀b,a.h b=none->j (.ref b) ⟨H,h9 a.h b<|.list d⟩
theorem J'{h:Hp}{L:H}{Z:aT}(d:Z.C h L)(k:∀b i,Z.C i ((b,.list g)::L)->j (.ref b) ⟨c,i⟩):wP j c g ⟨e,h⟩:=λa n=>k a _<|Z.add d n
end
end Q
noncomputable def Ss.dr:Nat->Ss->Ss
 |n+1,.cons _ r=>Ss.dr n r
 |_,b=>b
namespace Q
noncomputable def bD:Ss->Ss
 |.cons (.du _ _ _ b) _=>b
 |.cons _ r=>bD r
 |.nil=>.nil
inductive I where
 |e (x:E)|es (x:Es)|o (a:Bool) (x:Es)|oq (a:Bool) (x:Es)|it (t e:E)
 |b (x:B)|bs (a:Bool) (x:Ix)|bq (a:Bool) (x:Ix)|nt|tr
 |p (g:P)|mp (g:P) (x:Es)|mq (g:P) (k:Bool)|call (f:Fn)|new (c:Cl)|cz (d:IK) (x:Es)
 |cp (jv:E) (tg:Tg) (k:CV) (cond:B)|fr (tg:Tg) (k:CV) (b:Ss)
 |asg (x:Vr)|S0 (xs:List Vr)|exp|ret|sat (f:IK)|Rp (o1:E) (f1:IK) (o2:E) (f2:IK)|Rq|ifs (t e:Ss)|s (x:S)|ss (x:Ss)
inductive Fr where
 |b|m (r:Fr)|v (x:V) (r:Fr)
noncomputable def ph:List V->Fr->Fr
 |[],b=>b
 |v::a,b=>ph a<|.v v b
def sY(a:Fr)(g:V->Fr->Prop):Prop:=match a with
 |.v x r=>g x r
 |_=>False
def mF:Fr->List V->(List V->Fr->Prop)->Prop
 |.v x r,a,g=>mF r (x::a) g
 |.m r,a,g=>g a r
 |.b,_,_=>False
theorem B'(g:List V->Fr->Prop):∀(b:List V)(r:Fr)(a:List V),mF (ph b r) a g=mF r (b++a) g:=λc=>by
 induction c with
 |nil=>intro _ _;exact z
 |cons v b d=>intro r a;exact d (.v v r) a
def M4(v:V)(g:Bool->Prop):Prop:=match v with
 |.bool b=>g b
 |_=>False
def NE(a:Fr)(g:Bool->Fr->Prop):Prop:=sY a λv a=>M4 v λb=>g b a
abbrev Kk:=Fl->St->Prop
def Kf(K:Kk)(k:St->Prop):Kk
 |.next,s=>k s
 |.ret v,s=>K (.ret v) s
def Rr(a:List V)(g:V->List V->Prop):Prop:=match a with
 |[]=>False
 |v::r=>g v r
def UY(T:Sp)(K:Kk)(k:Fr->St->Prop)(Q:Fr)(s:St):I->Prop
 |.e x=>gg T x (λv s=>k (.v v Q) s) s
 |.es x=>ju T x (λg s=>k (ph g Q) s) s
 |.o a x=>Ii T a x (λv s=>k (.v v Q) s) s
 |.oq a x=>sY Q λv O=>∃t,rn v s.h=some t/\if t=a then Ii T a x (λv s=>k (.v v O) s) s else k (.v v O) s
 |.it t e=>NE Q λb Q=>if b then gg T t (λv s=>k (.v v Q) s) s else gg T e (λv s=>k (.v v Q) s) s
 |.b x=>qh T x (λt s=>k (.v (.bool t) Q) s) s
 |.bs a x=>Bh T a x (λt s=>k (.v (.bool t) Q) s) s
 |.bq a x=>NE Q λt O=>if t=a then Bh T a x (λt s=>k (.v (.bool t) O) s) s else k (.v (.bool t) O) s
 |.nt=>NE Q λt O=>k (.v (.bool<|!t) O) s
 |.tr=>sY Q λv O=>∃t,rn v s.h=some t/\k (.v (.bool t) O) s
 |.p p=>mF Q [] λg O=>∃r,ay p g s.h=some r/\nF r (λv s=>k (.v v O) s) s
 |.mp p x=>sY Q λv O=>∃n,(n9 v s.h=some n/\F3 p n)/\ju T x (λg s=>n9 v s.h=some n/\∃r,ay p (v::g) s.h=some r/\nF r (λv s=>k (.v v O) s) s) s
 |.mq p n=>mF Q [] λg O=>Rr g λv g=>n9 v s.h=some n/\∃r,ay p (v::g) s.h=some r/\nF r (λv s=>k (.v v O) s) s
 |.call f=>mF Q [] λg O=>pN T f g (λv s=>k (.v v O) s) s
 |.new c=>mF Q [] λg O=>Mz T c g (λv s=>k (.v v O) s) s
 |.cz m x=>sY Q λv O=>O5 m v s.h λf=>ju T x (λg s=>pN T f (v::g) (λv s=>k (.v v O) s) s) s
 |.cp L w n d=>mF Q [] λg O=>∃U c,gO n g s.h=some (U,c)/\
  kC c (dA w) (qh T d) (gg T L) (λy q=>∀a,q.h a=none->k (.v (.ref a) O) ⟨s.ρ,h9 (dK (a9 n g s.h) false q.h) a<|.list y⟩) U [] ⟨gW w s.ρ,dK (a9 n g s.h) true s.h⟩
 |.fr w n b=>mF Q [] λg O=>∃U c,gO n g s.h=some (U,c)/\mA c (dA w) (gp T b) (λJ q=>Kf K (k O) J ⟨q.ρ,dK (a9 n g s.h) false q.h⟩) U ⟨s.ρ,dK (a9 n g s.h) true s.h⟩
 |.asg x=>sY Q λv O=>k O ⟨bX s.ρ x v,s.h⟩
 |.S0 U=>sY Q λv O=>∃z,dA (.many U) v s.ρ=some z/\k O ⟨z,s.h⟩
 |.exp=>sY Q λv O=>v.flat=true/\k O s
 |.ret=>sY Q λv _=>K (.ret v) s
 |.sat f=>sY Q λo O=>sY O λv O=>∃a c,h6 o f v s.h=some (a,c)/\k O ⟨s.ρ,h9 s.h a c⟩
 |.Rp M F N G=>sY Q λv O=>∃A C,v=.aF [A,C]/\gg T M (λo s=>∃a c,h6 o F A s.h=some (a,c)/\gg T N (λo s=>∃a c,h6 o G C s.h=some (a,c)/\k O ⟨s.ρ,h9 s.h a c⟩) ⟨s.ρ,h9 s.h a c⟩) s
 |.Rq=>sY Q λi O=>sY O λo O=>sY O λv O=>∃a c,nn o i v s.h=some (a,c)/\k O ⟨s.ρ,h9 s.h a c⟩
 |.ifs t e=>NE Q λb O=>if b then gp T t (Kf K<|k O) s else gp T e (Kf K<|k O) s
 |.s x=>u8 T x (Kf K<|k Q) s
 |.ss x=>gp T x (Kf K<|k Q) s
def io(T:Sp)(K:Kk):List I->Fr->St->Prop
 |[],_,s=>K .next s
 |i::c,a,s=>UY T K (io T K c) a s i
structure kt(T:Sp)(K:Kk)(c:List I)(fs:Fr)(s:St):Prop where
 at_:io T K c fs s
structure U(Z:aT)(L:H)(P:Hp->Prop):Prop where
 at_:∀h,Z.C h L->P h
abbrev J(Z:aT)(T:Sp)(K:Kk)(L:H)(b:aV)(c:List I)(a:Fr):Prop:=U Z L λh=>kt T K c a ⟨b,h⟩
noncomputable def KE:Hp:=λ_=>none
def Mu(p:P)(a:List V):Option V:=(ay p a KE).bind λr=>match r with
 |.val v=>some v
 |_=>none
noncomputable def XU:P->Bool
 |.eW o=>(match o with|.eq|.ne|.isin|.gU=>true|_=>false)
 |.fA o=>(match o with|.add|.sub=>false|_=>true)
 |.repr=>true
 |.iy=>true
 |_=>false
section
variable(T:Sp)(K:Kk)(h:Hp)(j u l:Bool)(d:(aV)->List I->Fr->Prop)(Y:aV)
def xc{a:Type}(o:Option a)(g:a->Prop):Prop:=match o with
 |some x=>g x
 |none=>False
def NF{a:Type}(o:Option a)(g:a->Prop)(q:Prop):Prop:=match o with
 |some x=>g x
 |none=>q
def vE(v:V)(g:Bool->Prop)(q:Prop):Prop:=match v with
 |.bool b=>g b
 |.int i=>g<|decide (i≠0)
 |.none=>g false
 |.aF a=>g<|!a.isEmpty
 |_=>q
def r7(a:Fr)(g:V->Fr->Prop)(q:Prop):Prop:=match a with
 |.v x r=>g x r
 |_=>q
def J_:Fr->List V->(List V->Fr->Prop)->Prop->Prop
 |.v x r,a,g,q=>J_ r (x::a) g q
 |.m r,a,g,_=>g a r
 |.b,_,_,q=>q
def UZ(v:V)(g:Bool->Prop)(q:Prop):Prop:=match v with
 |.bool b=>g b
 |_=>q
def Mq(b:Bool)(x y:Prop):Prop:=match b with
 |true=>x
 |false=>y
def XW(v:V)(g q:Prop):Prop:=match v.flat with
 |true=>g
 |false=>q
def Zx(c:List I)(r:Fr):E->Prop
 |.hD v=>d Y c<|.v v r
 |.fS g=>d Y c<|.v (SP g) r
 |.ai x=>(match l with
  |true=>NF (Y x) (λv=>d Y c<|.v v r)<|kt T K (.e (.ai x)::c) r ⟨Y,h⟩
  |false=>kt T K (.e (.ai x)::c) r ⟨Y,h⟩)
 |.ay p i=>d Y (.es i::.p p::c)<|.m r
 |.lS a i=>d Y (.o a i::c) r
 |.ite b t e=>d Y (.b b::.it t e::c) r
 |.call f i=>d Y (.es i::.call f::c)<|.m r
 |.new k i=>d Y (.es i::.new k::c)<|.m r
 |.cz o m i=>d Y (.e o::.cz m i::c) r
 |.iT p o i=>d Y (.e o::.mp p i::c) r
 |.comp n q k w s _=>d Y (.es w::.cp n q k s::c)<|.m r
 |.jE a b=>kt T K (.e (.jE a b)::c) r ⟨Y,h⟩
def Zy(c:List I)(q:Fr):S->Prop
 |.expr e=>d Y (.e e::.exp::c) q
 |.ret e=>d Y (.e e::.ret::c) q
 |.d_ x e=>d Y (.e e::.asg x::c) q
 |.unpack r e=>d Y (.e e::.S0 r::c) q
 |.ar o f e=>d Y (.e e::.e o::.sat f::c) q
 |.lT m a n g e=>d Y (.e e::.Rp m a n g::c) q
 |.bR o i e=>d Y (.e e::.e o::.e i::.Rq::c) q
 |.ifs b t e=>d Y (.b b::.ifs t e::c) q
 |.du p k s b=>d Y (.es s::.fr p k b::c)<|.m q
 |x=>kt T K (.s x::c) q ⟨Y,h⟩
def Zz(c:List I)(n:Fr)(i:I):Prop:=match i with
 |.e x=>Zx T K h l d Y c n x
 |.es .nil=>d Y c n
 |.es (.cons e f)=>d Y (.e e::.es f::c) n
 |.o _ (.cons e .nil)=>d Y (.e e::c) n
 |.o a (.cons e<|.cons k f)=>d Y (.e e::.oq a (.cons k f)::c) n
 |.oq a x=>Mq j (r7 n (λv o=>vE v (λt=>Mq (t==a) (d Y (.o a x::c) o)<|d Y c n)<|kt T K (.oq a x::c) n ⟨Y,h⟩)<|kt T K (.oq a x::c) n ⟨Y,h⟩)<|kt T K (.oq a x::c) n ⟨Y,h⟩
 |.it t e=>Mq j (r7 n (λv o=>UZ v (λb=>Mq b (d Y (.e t::c) o)<|d Y (.e e::c) o)<|kt T K (.it t e::c) n ⟨Y,h⟩)<|kt T K (.it t e::c) n ⟨Y,h⟩)<|kt T K (.it t e::c) n ⟨Y,h⟩
 |.b .tt=>d Y c<|.v (.bool true) n
 |.b (.e x)=>d Y (.e x::.tr::c) n
 |.b (.not x)=>d Y (.b x::.nt::c) n
 |.b (.op a x)=>d Y (.bs a x::c) n
 |.bs a .nil=>d Y c<|.v (.bool a) n
 |.bs a (.cons x q)=>d Y (.b x::.bq a q::c) n
 |.bq a x=>Mq j (r7 n (λv o=>UZ v (λb=>Mq (b==a) (d Y (.bs a x::c) o)<|d Y c n)<|kt T K (.bq a x::c) n ⟨Y,h⟩)<|kt T K (.bq a x::c) n ⟨Y,h⟩)<|kt T K (.bq a x::c) n ⟨Y,h⟩
 |.nt=>r7 n (λv o=>UZ v (λb=>d Y c<|.v (.bool<|!b) o)<|kt T K (.nt::c) n ⟨Y,h⟩)<|kt T K (.nt::c) n ⟨Y,h⟩
 |.tr=>r7 n (λv o=>vE v (λt=>d Y c<|.v (.bool t) o)<|kt T K (.tr::c) n ⟨Y,h⟩)<|kt T K (.tr::c) n ⟨Y,h⟩
 |.p p=>Mq (u|| !XU p) (J_ n [] (λm o=>NF (Mu p m) (λv=>d Y c<|.v v o)<|kt T K (.p p::c) n ⟨Y,h⟩)<|kt T K (.p p::c) n ⟨Y,h⟩)<|kt T K (.p p::c) n ⟨Y,h⟩
 |.asg x=>r7 n (λv o=>d (bX Y x v) c o)<|kt T K (.asg x::c) n ⟨Y,h⟩
 |.S0 q=>r7 n (λv o=>NF (dA (.many q) v Y) (λg=>d g c o)<|kt T K (.S0 q::c) n ⟨Y,h⟩)<|kt T K (.S0 q::c) n ⟨Y,h⟩
 |.exp=>r7 n (λv o=>XW v (d Y c o)<|kt T K (.exp::c) n ⟨Y,h⟩)<|kt T K (.exp::c) n ⟨Y,h⟩
 |.ifs t e=>Mq j (r7 n (λv o=>UZ v (λb=>Mq b (d Y (.ss t::c) o)<|d Y (.ss e::c) o)<|kt T K (.ifs t e::c) n ⟨Y,h⟩)<|kt T K (.ifs t e::c) n ⟨Y,h⟩)<|kt T K (.ifs t e::c) n ⟨Y,h⟩
 |.s x=>Zy T K h d Y c n x
 |.ss .nil=>d Y c n
 |.ss (.cons x r)=>d Y (.s x::.ss r::c) n
 |i=>kt T K (i::c) n ⟨Y,h⟩
def Mi(c:List I)(a:Fr):Prop:=match c with
 |[]=>kt T K [] a ⟨Y,h⟩
 |i::c=>Zz T K h j u l d Y c a i
def En(n:Nat)(c:List I)(a:Fr):Prop:=Nat.rec (motive:=λ_=>(aV)->List I->Fr->Prop) (λY c a=>kt T K c a ⟨Y,h⟩) (λ_ d Y c a=>Mi T K h j u l d Y c a) n Y c a
end
section
variable{Z:aT}{T:Sp}{K:Kk}{L:H}{Y i:aV}{c A:List I}{j C:Fr}{h:Hp}
theorem U.imp{P e:Hp->Prop}(k:∀h,P h->e h)(a:U Z L P):U Z L e:=⟨λh b=>k h<|a.at_ h b⟩
theorem pj(k:∀n w,b n w=some r->g n w=some r)(e:wE a b=some r):wE a g=some r:=by
 induction a using da with
 |nil=>exact Ku e
 |cons n a=>induction a using da with
  |nil=>exact Ku e
  |cons w a=>induction a using da with
   |nil=>exact k n w e
   |cons _ _=>exact Ku e
theorem lB(k:∀n,b n=some r->g n=some r)(e:one a b=some r):one a g=some r:=by
 induction a using da with
 |nil=>exact Ku e
 |cons n a=>induction a using da with
  |nil=>exact k n e
  |cons _ _=>exact Ku e
theorem nc{a b:Type}{o g:Option a}{f:a->b}{r:b}(k:∀x,o=some x->g=some x)(e:o.map f=some r):g.map f=some r:=by
 induction o using qG with
 |none=>exact Ku e
 |some x=>rw[k x z];exact e
theorem Ka{a b:Type}{o d:Option a}{f g:a->Option b}{r:b}(k:∀x,o=some x->d=some x)(l:∀x,f x=some r->g x=some r)(e:o.bind f=some r):d.bind g=some r:=by
 induction o using qG with
 |none=>exact Ku e
 |some x=>rw[k x z];exact l x e
theorem As(e:jj b KE=some xs):jj b h=some xs:=by
 induction b using gQ with
 |ref a=>exact Ku e
 |_=>exact e
theorem Kb(e:zO a w KE=some b):zO a w h=some b:=by induction a using gQ<;>first|exact e|(induction w using gQ<;>first|exact e|exact Ku e)
theorem Kc(e:zP g w KE=some b):zP g w h=some b:=by
 induction w using gQ with
 |ref a=>exact Ku e
 |_=>exact e
theorem NG{v w:V}{b:Bool}(e:EM a v w KE=some b):EM a v w h=some b:=by
 cases a with
 |eq=>exact Kb e
 |ne=>exact nc (λ_=>Kb) e
 |isin=>exact Kc e
 |gU=>exact nc (λ_=>Kc) e
 |_=>exact e
theorem NH(e:wv b g w KE=some r):wv b g w h=some r:=by
 induction g using gQ with
 |ref a=>cases b<;>first|exact Ku e|(cases w<;>exact Ku e)
 |_=>exact e
theorem Kd(e:ay g a KE=some (.val n)):ay g a h=some (.val n):=by
 cases g with
 |fA o=>exact pj (λ_ _=>NH) e
 |eW o=>exact pj (λ_ _=>nc λ_=>NG) e
 |attr f=>exact lB (λn=>nc λx e=>by induction n using gQ<;>exact Ku e) e
 |sub=>exact pj (λn d=>nc λx e=>by induction n using gQ<;>first|exact e|exact Ku e) e
 |slice k=>exact lB (λn e=>by cases k<;>first|exact e|(cases n<;>exact Ku e)) e
 |len=>exact lB (λn=>nc λ_=>nc λ_=>As) e
 |oR=>exact lB (λn e=>by induction n using gQ<;>exact Ku e) e
 |ka=>exact pj (λn w=>Ka (λ_=>As) λb=>nc λ_=>As) e
 |dR=>exact lB (λn e=>by induction n using gQ<;>cases e) e
 |gG=>exact lB (λn e=>by induction n using gQ<;>exact Ku e) e
 |anyOf=>exact lB (λn e=>by induction n using gQ<;>exact Ku e) e
 |ke=>exact lB (λn e=>by induction n using gQ<;>exact Ku e) e
 |append=>exact pj (λn w e=>by induction n using gQ<;>exact Ku e) e
 |extend=>exact pj (λn w e=>by induction n using gQ<;>exact Ku e) e
 |pop=>exact lB (λn e=>by induction n using gQ<;>exact Ku e) e
 |nZ=>exact pj (λn w e=>by induction n using gQ<;>first|exact Ku e|(induction w using gQ<;>exact Ku e)) e
 |_=>exact e
theorem Ke(e:Mu b a=some g):ay b a h=some (.val g):=by
 refine oB e λr f d=>?_;clear e;cases r with
 |val w=>cases d;exact Kd f
 |_=>exact Ku d
theorem D9:mF (ph a<|.m r) [] g=g a r:=by rw[B',j0];rfl
theorem B_{g:List V->Fr->St->Prop}:ju T x (λa s=>mF (ph a<|.m j) [] λa r=>g a r s) s=ju T x (λa s=>g a j s) s:=congrArg (λq=>ju T x q s)<|funext λa=>funext λs=>D9
theorem zp{a:Type}{o:Option a}{x:a}{G:a->Prop}(e:o=some x):(∃y,o=some y/\G y)=G x:=propext ⟨λ⟨y,q,k⟩=>by rw[e] at q;cases q;exact k,λk=>(a_ x e k)⟩
theorem DU(h:a):(a/\b)=b:=propext ⟨λk=>k.2,λk=>⟨h,k⟩⟩
theorem pq{x y P:Prop}(k:b=true->x=P)(l:b=false->y=P):Mq b x y=P:=by
 induction b using ff with
 |true=>exact k z
 |false=>exact l z
theorem jK{P:Prop}(k:∀a r,j=.v a r->g a r=P):r7 j g P=P:=by
 cases j with
 |v x r=>exact k x r z
 |_=>rfl
theorem Au{P:Prop}(k:∀x,a=some x->g x=P):NF a g P=P:=by
 induction a using qG with
 |none=>rfl
 |some x=>exact k x z
theorem PA{P:Prop}(k:∀e,(∀h,rn n h=some e)->g e=P):vE n g P=P:=by
 induction n using gQ with
 |bool b=>exact k _ λ_=>rfl
 |int d=>exact k _ λ_=>rfl
 |none=>exact k _ λ_=>rfl
 |aF a=>exact k _ λ_=>rfl
 |_=>rfl
theorem Av{P:Prop}(k:∀b,a=.bool b->g b=P):UZ a g P=P:=by
 induction a using gQ with
 |bool b=>exact k b z
 |_=>rfl
theorem Ru{g P:Prop}(k:a.flat->g=P):XW a g P=P:=by
 unfold XW;split;·rename_i h;exact k h
 ·rfl
theorem Kg{P:Prop}{j:Fr}:∀{e:List V},(∀f r,(∀a,mF j e a=a f r)->g f r=P)->J_ j e g P=P:=by
 induction j with
 |b=>exactλ_=>rfl
 |m r=>exactλk=>k _ _ λ_=>rfl
 |v x r u=>exactλk=>u k
theorem xM:kt T K c j s=io T K c j s:=propext ⟨kt.at_,kt.mk⟩
theorem KG(e:io T K A C a=io T K c j s):kt T K A C a=kt T K c j s:=xM.trans<|e.trans xM.symm
section
variable{n f F:Bool}{u:(aV)->List I->Fr->Prop}(d:∀Y c j,u Y c j=kt T K c j ⟨Y,h⟩)
include d
theorem Rv:Zx T K h F u Y c j x=kt T K (.e x::c) j ⟨Y,h⟩:=by
 cases x with
 |ai x=>
  induction F using ff with
  |true=>exact Au λv e=>(d _ _ _).trans<|KG<|(zp (G:=λv=>io T K c (.v v j) ⟨Y,h⟩) e).symm
  |false=>rfl
 |ay p l=>exact(d _ _ _).trans<|KG<|(B_ (g:=λg t s=>∃r,ay p g s.h=some r/\nF r (λv s=>io T K c (.v v t) s) s))
 |call y l=>exact(d _ _ _).trans<|KG<|(B_ (g:=λg t s=>pN T y g (λv s=>io T K c (.v v t) s) s))
 |new y l=>exact(d _ _ _).trans<|KG<|(B_ (g:=λg t s=>Mz T y g (λv s=>io T K c (.v v t) s) s))
 |comp o D B G E q=>exact(d _ _ _).trans<|KG<|B_ (g:=λg t s=>∃w A,gO B g s.h=some (w,A)/\
  kC A (dA D) (qh T E) (gg T o) (λk m=>∀a,m.h a=none->io T K c (.v (.ref a) t) ⟨s.ρ,h9 (dK (a9 B g s.h) false m.h) a<|.list k⟩) w [] ⟨gW D s.ρ,dK (a9 B g s.h) true s.h⟩)
 |jE a b=>rfl
 |_=>exact(d _ _ _).trans<|KG z
theorem Rw:Zy T K h u Y c j x=kt T K (.s x::c) j ⟨Y,h⟩:=by
 cases x with
 |du o a p b=>exact(d _ _ _).trans<|KG<|(B_ (g:=λe l s=>∃k A,gO a e s.h=some (k,A)/\mA A (dA o) (gp T b) (λg m=>Kf K (io T K c l) g ⟨m.ρ,dK (a9 a e s.h) false m.h⟩) k ⟨s.ρ,dK (a9 a e s.h) true s.h⟩))
 |iI=>rfl
 |zN=>rfl
 |_=>exact(d _ _ _).trans<|KG z
theorem Rx:Zz T K h n f F u Y c j w=kt T K (w::c) j ⟨Y,h⟩:=by
 cases w with
 |e x=>exact Rv d
 |es x=>cases x<;>exact(d _ _ _).trans<|KG z
 |o a x=>cases x with
  |nil=>rfl
  |cons e es=>cases es<;>exact(d _ _ _).trans<|KG z
 |oq a x=>
  refine pq (λ_=>jK λv r e=>?_) λ_=>rfl;subst e;refine PA λt l=>pq (λq=>(d _ _ _).trans<|KG<|Eq.trans ?_ (zp (G:=λt=>if t=a then Ii T a x (λv s=>io T K c (.v v r) s) ⟨Y,h⟩ else io T K c (.v v r) ⟨Y,h⟩)<|l h).symm) λq=>(d _ _ _).trans<|KG<|Eq.trans ?_ (zp (G:=λt=>if t=a then Ii T a x (λv s=>io T K c (.v v r) s) ⟨Y,h⟩ else io T K c (.v v r) ⟨Y,h⟩)<|l h).symm;·exact(if_pos<|eq_of_beq q).symm
  ·exact(if_neg<|ne_of_beq_false q).symm
 |it t e=>refine pq (λ_=>jK λv r e=>?_) λ_=>rfl;subst e;refine Av λb e=>?_;subst e;exact pq (λq=>(d _ _ _).trans<|KG<|(if_pos q).symm) λq=>(d _ _ _).trans<|KG<|(if_neg<|by rw[q];exact Kv).symm
 |b x=>cases x<;>exact(d _ _ _).trans<|KG z
 |bs a x=>cases x<;>exact(d _ _ _).trans<|KG z
 |bq a x=>refine pq (λ_=>jK λv r e=>?_) λ_=>rfl;subst e;refine Av λb e=>?_;subst e;exact pq (λq=>(d _ _ _).trans<|KG<|(if_pos<|eq_of_beq q).symm) λq=>(d _ _ _).trans<|KG<|(if_neg<|ne_of_beq_false q).symm
 |nt=>refine jK λv r e=>?_;subst e;refine Av λb e=>?_;subst e;exact(d _ _ _).trans<|KG z
 |tr=>refine jK λv r e=>?_;subst e;exact PA λt l=>(d _ _ _).trans<|KG<|(zp (G:=λt=>io T K c (.v (.bool t) r) ⟨Y,h⟩)<|l h).symm
 |p p=>exact pq (λ_=>Kg λk r e=>Au λv q=>(d _ _ _).trans<|KG ((e _).trans<|zp (G:=λm=>nF m (λv s=>io T K c (.v v r) s) ⟨Y,h⟩)<|Ke q).symm) λ_=>rfl
 |asg x=>refine jK λv r e=>?_;subst e;exact(d _ _ _).trans<|KG z
 |S0 x=>refine jK λv r e=>?_;subst e;exact Au λi q=>(d _ _ _).trans<|KG<|(zp (G:=λi=>io T K c r ⟨i,h⟩) q).symm
 |exp=>refine jK λv r e=>?_;subst e;exact Ru λq=>(d _ _ _).trans<|KG<|(DU q).symm
 |ifs t e=>refine pq (λ_=>jK λv r e=>?_) λ_=>rfl;subst e;refine Av λb e=>?_;subst e;exact pq (λq=>(d _ _ _).trans<|KG<|(if_pos q).symm) λq=>(d _ _ _).trans<|KG<|(if_neg<|by rw[q];exact Kv).symm
 |s x=>exact Rw d
 |ss x=>cases x with
  |nil=>exact(d _ _ _).trans<|KG z
  |cons x r=>refine(d _ _ _).trans<|KG ?_;show _=gp T (.cons x r) _ _;unfold gp;refine congrArg (λq=>u8 T x q ⟨Y,h⟩) ?_;funext g s;cases g<;>rfl
 |_=>rfl
end
theorem Aw(n:Nat):∀{Y c j},En T K h b e a Y n c j=kt T K c j ⟨Y,h⟩:=by
 induction n with
 |zero=>exact z
 |succ n u=>
  intro Y c j;induction c using da with
  |nil=>rfl
  |cons d c=>exact Rx λ_ _ _=>u
theorem NI(k:En T K h b e a Y n c j):io T K c j ⟨Y,h⟩:=(iff_of_eq<|(Aw n).trans xM).mp k
end
set_option genCtorIdx true in
inductive Lv where
 |a|b|e|v|be|bv|ev|XX|z|o
noncomputable def Lv.B:Lv->Bool
 |.b|.be|.bv|.XX=>false
 |_=>true
noncomputable def Lv.E:Lv->Bool
 |.e|.be|.ev|.XX=>false
 |_=>true
noncomputable def Lv.V:Lv->Bool
 |.v|.bv|.ev|.XX=>false
 |_=>true
noncomputable def Lv.N:Lv->Nat
 |.z=>0
 |.o=>1
 |_=>1000
noncomputable def Ry(L:H)(i:Nat):Option<|Nat×a0:=L[i]?
def Ch(L:H)(i:Nat):Nat:=match Ry L i with
 |some x=>x.1
 |none=>0
end Q
noncomputable def a0.fs:a0->Option (List<|IK×V)
 |.inst _ d=>some d
 |_=>none
noncomputable def a0.cl:a0->Option Cl
 |.inst c _=>some c
 |_=>none
namespace Q
noncomputable def Rz(a:List V)(i:Int):Option V:=if 0<=i then a[i.toNat]?else none
section
variable{Z:aT}{T:Sp}{K:Kk}{L L':H}{Y e:aV}{h:Hp}{c:List I}{d:Fr}
def Kh(l:Lv)(T:Sp)(K:Kk)(Y:aV)(h:Hp)(c:List I)(d:Fr):Prop:=En T K h l.B l.E l.V Y l.N c d
def sZ(l:Lv)(T:Sp)(K:Kk)(c:List I)(d:Fr)(s:St):Prop:=match s with
 |⟨Y,h⟩=>Kh l T K Y h c d
abbrev eh(Z:aT)(T:Sp)(K:Kk)(l:Lv)(L:H)(Y:aV)(c:List I)(d:Fr):Prop:=U Z L λh=>Kh l T K Y h c d
theorem aJ(k:eh Z T K a L Y c d):U Z L λh=>io T K c d ⟨Y,h⟩:=k.imp λ_ k=>NI k
theorem aS(k:U Z L λh=>io T K c d ⟨Y,h⟩):J Z T K L Y c d:=k.imp λ_ k=>⟨k⟩
theorem PB(k:J Z T K L Y c d):U Z L λh=>io T K c d ⟨Y,h⟩:=k.imp λ_ k=>k.at_
theorem hU(l:Lv):sZ l T K=io T K:=funext λ_=>funext λ_=>funext λ_=>(Aw _).trans xM
theorem Fe(l:Lv):Kh l T K Y h c d=io T K c d ⟨Y,h⟩:=(Aw _).trans xM
theorem pz{P:Prop}(a:xc b g)(k:∀x,b=some x->g x->P):P:=by
 induction b using qG with
 |none=>exact False.elim a
 |some x=>exact k x z a
theorem NJ(a:Ry L i=some x):(Ch L i,x.2)∈L:=by unfold Ch;rw[a];exact List.mem_of_getElem? a
theorem aY(l:Lv)(k:eh Z T K l L Y c d):J Z T K L Y c d:=aS<|aJ k
theorem aA{P:Hp->Prop}(f:∀{h},Z.C h L->b.C h L')(k:U b L' P):U Z L P:=⟨λh a=>k.at_ h<|f a⟩
theorem wi{j:Type}{i:Nat}{f:a0->Option j}{g:j->Prop}{P:Prop}(b:xc ((Ry L i).bind λx=>f x.2) g)(k:∀a x,(Ch L i,a)∈L->f a=some x->g x->P):P:=
 pz b λx b q=>by refine oB b λy l m=>?_;clear b;exact k _ x (NJ l) m q
section
variable{l:Lv}{f:IK}{a b:Nat}{C:Cl}{F:List (IK×V)}{v w:V}{vs xs ys:List V}{p:P}{x:Vr}
theorem y(l:Lv)(g:Y x=some v)(k:eh Z T K l L Y c<|.v v d):J Z T K L Y (.e (.ai x)::c) d:=aS<|(aJ k).imp λ_ k=>(a_ v g k)
theorem qQ(k:∀i r,g i r->j i r){d:Fr}:∀{i:List V},mF d i g->mF d i j:=by
 induction d with
 |b=>exactλm=>m
 |m r=>exactλm=>k _ _ m
 |v x r o=>exactλm=>o m
theorem G6(g:Y x=some v):bX Y x v=Y:=funext λy=>by
 unfold bX;split;·rename_i h;rw[h,g]
 ·rfl
theorem fe(x:Vr){v:V}(g:Y x=some v)(k:J Z T K L (bX Y x v) c d):J Z T K L Y c d:=G6 g▸k
theorem zq(l:Lv)(k:mF d [] λi d=>xc (Mu p i) λv=>eh Z T K l L Y c<|.v v d):J Z T K L Y (.p p::c) d:=aS ⟨λh g=>qQ (λi r k=>pz k λv j k=>⟨_,Ke j,(aJ k).at_ h g⟩) k⟩
theorem eE(l:Lv)(v:V)(n:Mu p us=some v)(m:mF gs [] λj i=>j=us/\i=d)(k:eh Z T K l L Y c<|.v v d):J Z T K L Y (.p p::c) gs:=aS ⟨λh g=>qQ (λj r q=>by obtain⟨rfl,rfl⟩:=q;exact(a_ _ (Ke n)<|(aJ k).at_ h g)) m⟩
theorem Q(l:Lv)(m:(a,.inst C F)∈L)(i:F.lookup f=some v)(k:eh Z T K l L Y c<|.v v d):J Z T K L Y (.p (.attr f)::c)<|.v (.ref a)<|.m d:=aS ⟨λh g=>Rg g m i<|(aJ k).at_ h g⟩
theorem uS(l:Lv)(i:Nat)(k:xc ((Ry L i).bind λx=>x.2.fs.bind λF=>F.lookup f) λv=>eh Z T K l L Y c<|.v v d):J Z T K L Y (.p (.attr f)::c)<|.v (.ref<|Ch L i)<|.m d:=
 wi (f:=λx=>x.fs.bind λF=>F.lookup f) k λC v m g k=>by
  refine oB g λF j n=>?_;clear g;induction C using kI with
  |inst=>cases j;exact Q l m n k
  |_=>exact Ku j
theorem fv(l:Lv)(m:(a,.list vs)∈L)(k:eh Z T K l L Y c<|.v (.int vs.length) d):J Z T K L Y (.p .len::c)<|.v (.ref a)<|.m d:=aS ⟨λh g=>UL g m<|(aJ k).at_ h g⟩
theorem Ki(l:Lv)(i:Nat)(k:xc ((Ry L i).bind λx=>x.2.xs) λvs=>eh Z T K l L Y c<|.v (.int vs.length) d):J Z T K L Y (.p .len::c)<|.v (.ref<|Ch L i)<|.m d:=
 wi k λC v m g k=>by
  induction C using kI with
  |list=>cases g;exact fv l m k
  |_=>exact Ku g
theorem fL(l:Lv)(m:(a,.list vs)∈L)(j:0<=i)(n:vs[i.toNat]?=some w)(k:eh Z T K l L Y c<|.v w d):J Z T K L Y (.p .sub::c)<|.v (.int i)<|.v (.ref a)<|.m d:=aS ⟨λh g=>XR g m j n<|(aJ k).at_ h g⟩
theorem yJ(l:Lv)(i:Nat)(k:xc ((Ry L i).bind λx=>x.2.xs.bind λvs=>Rz vs j) λw=>eh Z T K l L Y c<|.v w d):J Z T K L Y (.p .sub::c)<|.v (.int j)<|.v (.ref<|Ch L i)<|.m d:=
 wi (f:=λx=>x.xs.bind λvs=>Rz vs j) k λC w m g k=>by
  refine oB g λvs o n=>?_;clear g;induction C using kI with
  |list=>
   cases o;unfold Rz at n;split at n;·rename_i h;exact fL l m h n k
   ·exact Ku n
  |_=>exact Ku o
theorem cH(l:Lv)(m:(a,.dict lk bo)∈L)(j:bo.lookup i=some w)(k:eh Z T K l L Y c<|.v w d):J Z T K L Y (.p .sub::c)<|.v (.int i)<|.v (.ref a)<|.m d:=aS ⟨λh g=>Rh g m j<|(aJ k).at_ h g⟩
theorem Ax(l:Lv)(m:(a,.dg bo)∈L)(n:bo.lookup (i,j)=some w)(k:eh Z T K l L Y c<|.v w d):J Z T K L Y (.p .sub::c)<|.v (.aF [.int i,.int j])<|.v (.ref a)<|.m d:=aS ⟨λh g=>NB g m n<|(aJ k).at_ h g⟩
theorem NL(l:Lv)(m:(a,.list vs)∈L)(g:(b,.list [])∈L)(k:eh Z T K l L Y c<|.v (.bool vs.isEmpty) d):J Z T K L Y (.p (.eW .eq)::c)<|.v (.ref b)<|.v (.ref a)<|.m d:=aS ⟨λh i=>Nz i m g<|(aJ k).at_ h i⟩
theorem nf(l:Lv)(m:(a,.list vs)∈L)(g:(b,.list [])∈L)(k:eh Z T K l L Y c<|.v (.bool<|!vs.isEmpty) d):J Z T K L Y (.p (.eW .ne)::c)<|.v (.ref b)<|.v (.ref a)<|.m d:=aS ⟨λh i=>NA i m g<|(aJ k).at_ h i⟩
theorem xN(l:Lv){g:List Nat}(m:(a,.list<|g.map λ(s:Nat)=>V.int s)∈L)(k:eh Z T K l L Y c<|.v (.bool<|!g.contains r) d):J Z T K L Y (.p (.eW .gU)::c)<|.v (.ref a)<|.v (.int r)<|.m d:=aS ⟨λh i=>J5 i m<|(aJ k).at_ h i⟩
theorem Kj(l:Lv)(m:(a,.dg bo)∈L)(k:eh Z T K l L Y c<|.v (.bool<|!(bo.lookup (i,j)).isSome) d):J Z T K L Y (.p (.eW .gU)::c)<|.v (.ref a)<|.v (.aF [.int i,.int j])<|.m d:=aS ⟨λh g=>J6 g m<|(aJ k).at_ h g⟩
theorem ou(l:Lv)(m:(a,.dict lk bo)∈L)(k:eh Z T K l L Y c<|.v (.bool<|!(bo.lookup i).isSome) d):J Z T K L Y (.p (.eW .gU)::c)<|.v (.ref a)<|.v (.int i)<|.m d:=aS ⟨λh g=>J7 g m<|(aJ k).at_ h g⟩
theorem PC(l:Lv)(m:(a,.dict lk bo)∈L)(k:eh Z T K l L Y c<|.v (.bool (bo.lookup i).isSome) d):J Z T K L Y (.p (.eW .isin)::c)<|.v (.ref a)<|.v (.int i)<|.m d:=aS ⟨λh g=>UO g m<|(aJ k).at_ h g⟩
theorem iC(l:Lv)(m:(a,.list vs)∈L)(k:eh Z T K l L Y c<|.v (.aF vs) d):J Z T K L Y (.p .gG::c)<|.v (.ref a)<|.m d:=aS ⟨λh g=>G1 g m<|(aJ k).at_ h g⟩
theorem Ff(l:Lv)(q:(-1000000<i/\i<1000000)/\-1000000<j/\j<1000000)(k:eh Z T K l L Y c<|.v (.int<|i*j) d):J Z T K L Y (.p (.fA .mul)::c)<|.v (.int j)<|.v (.int i)<|.m d:=aS ⟨λh g=>UI q<|(aJ k).at_ h g⟩
theorem PD(l:Lv)(q:0<j)(k:eh Z T K l L Y c<|.v (.int<|i%j) d):J Z T K L Y (.p (.fA .mod)::c)<|.v (.int j)<|.v (.int i)<|.m d:=aS ⟨λh g=>xK (if_pos<|decide_eq_true q)<|(aJ k).at_ h g⟩
theorem r8(l:Lv)(k:eh Z T K l L Y c<|.v (.int (i|||j:Nat)) d):J Z T K L Y (.p (.fA .bor)::c)<|.v (.int j)<|.v (.int i)<|.m d:=aS ⟨λh g=>US<|(aJ k).at_ h g⟩
theorem D_(l:Lv)(k:eh Z T K l L Y c<|.v (.int (i&&&j:Nat)) d):J Z T K L Y (.p (.fA .band)::c)<|.v (.int j)<|.v (.int i)<|.m d:=aS ⟨λh g=>Rk<|(aJ k).at_ h g⟩
theorem RA(l:Lv)(k:eh Z T K l L Y c<|.v (.int (i^^^j:Nat)) d):J Z T K L Y (.p (.fA .bxor)::c)<|.v (.int j)<|.v (.int i)<|.m d:=aS ⟨λh g=>Rl<|(aJ k).at_ h g⟩
theorem Fg(l:Lv){j:Nat}(g:j<10000)(k:eh Z T K l L Y c<|.v (.int (2^j:Nat)) d):J Z T K L Y (.p (.fA .shl)::c)<|.v (.int j)<|.v (.int 1)<|.m d:=aS ⟨λh i=>UT g<|(aJ k).at_ h i⟩
theorem Fh(l:Lv)(g:j<10000)(k:eh Z T K l L Y c<|.v (.int (i>>>j:Nat)) d):J Z T K L Y (.p (.fA .shr)::c)<|.v (.int j)<|.v (.int i)<|.m d:=aS ⟨λh m=>UU g<|(aJ k).at_ h m⟩
def pn(p:P)(g:List V):Option a0:=match p with
 |.bb=>if fi g.length then some (.list g) else none
 |.emptyDict=>if g.isEmpty then some (.dict false []) else none
 |.ja=>if g.isEmpty then some (.dg []) else none
 |.wF i b=>if g.isEmpty then some (.dict false [(i,.bool b)]) else none
 |.dR=>one g λv=>v.C8.map .list
 |.ka=>wE g λv w=>v.C8.bind λxs=>w.C8.map λys=>.list<|bn xs ys
 |_=>none
theorem wj[Decidable i]{x y:a0}(g:(if i then some y else none)=some x):(if i then some (R.new y) else none)=some (.new x):=by
 by_cases z:i;·rw[if_pos z] at g⊢;exact congrArg some<|congrArg R.new<|me g
 ·rw[if_neg z] at g;exact Ku g
theorem U0{x:a0}{h:Hp}(i:pn p g=some x):ay p g h=some (.new x):=by
 cases p with
 |bb=>exact wj i
 |emptyDict=>exact wj i
 |ja=>exact wj i
 |wF=>exact wj i
 |dR=>
  induction g using da with
  |nil=>exact Ku i
  |cons v g=>induction g using da with
   |nil=>induction v using gQ<;>first|exact Ku i|exact congrArg some<|congrArg R.new<|me i
   |cons _ _=>exact Ku i
 |ka=>
  induction g using da with
  |nil=>exact Ku i
  |cons v g=>induction g using da with
   |nil=>exact Ku i
   |cons w g=>induction g using da with
    |nil=>induction v using gQ<;>first|exact Ku i|(induction w using gQ<;>first|exact Ku i|exact congrArg some<|congrArg R.new<|me i)
    |cons _ _=>exact Ku i
 |_=>exact Ku i
theorem aW(l:Lv)(k:mF d [] λi d=>xc (pn p i) λx=>∀a,eh Z T K l ((a,x)::L) Y c<|.v (.ref a) d):J Z T K L Y (.p p::c) d:=aS ⟨λh g=>qQ (λi r k=>pz k λx n k=>UJ (U0 n) g λa m j=>(aJ<|k a).at_ m j) k⟩
theorem PE(l:Lv)(m:(a,.list vs)∈L)(k:∀a,eh Z T K l ((a,.list<|vs.take 1)::L) Y c<|.v (.ref a) d):J Z T K L Y (.p (.slice .SO)::c)<|.v (.ref a)<|.m d:=aS ⟨λh j=>UN j m λa i g=>(aJ<|k a).at_ i g⟩
theorem mG(l:Lv)(m:(a,.list vs)∈L)(k:∀a,eh Z T K l ((a,.list vs)::L) Y c<|.v (.ref a) d):J Z T K L Y (.p .dR::c)<|.v (.ref a)<|.m d:=aS ⟨λh j=>J4 j m λa i g=>(aJ<|k a).at_ i g⟩
theorem uT(l:Lv)(m:(a,.list xs)∈L)(j:(b,.list ys)∈L)(o:xs.length+ys.length<1000000)(k:∀a,eh Z T K l ((a,.list<|xs++ys)::L) Y c<|.v (.ref a) d):J Z T K L Y (.p (.fA .add)::c)<|.v (.ref b)<|.v (.ref a)<|.m d:=aS ⟨λh n=>Rm n m j o λa i g=>(aJ<|k a).at_ i g⟩
theorem Kl(l:Lv)(m:(a,.list vs)∈L)(k:∀a,eh Z T K l ((a,.list vs.reverse)::L) Y c<|.v (.ref a) d):J Z T K L Y (.p (.slice .rev)::c)<|.v (.ref a)<|.m d:=aS ⟨λh j=>UW j m λa i g=>(aJ<|k a).at_ i g⟩
theorem Km(l:Lv)(m:(a,.list [v])∈L)(q:0<=i)(o:i<1000000)(k:∀a,eh Z T K l ((a,.list<|List.replicate i.toNat v)::L) Y c<|.v (.ref a) d):J Z T K L Y (.p (.fA .mul)::c)<|.v (.int i)<|.v (.ref a)<|.m d:=aS ⟨λh n=>UX n m q o λa j g=>(aJ<|k a).at_ j g⟩
theorem vD(l:Lv)(o:0<=i)(m:i<1000000)(k:∀a,eh Z T K l ((a,.list<|bY i)::L) Y c<|.v (.ref a) d):J Z T K L Y (.p .iy::c)<|.v (.int i)<|.m d:=aS ⟨λh n=>B9 n o m λa j g=>(aJ<|k a).at_ j g⟩
theorem Ay(l:Lv)(m:(a,.dict lk bo)∈L)(k:∀a,eh Z T K l ((a,.list<|bo.map λp=>.int p.1)::L) Y c<|.v (.ref a) d):J Z T K L Y (.p .dR::c)<|.v (.ref a)<|.m d:=aS ⟨λh j=>NC j m λa i g=>(aJ<|k a).at_ i g⟩
theorem PF(l:Lv){x:Es}{g:Bool}(m:U Z L λh=>n9 (.ref a) h=some g)(j:F3 p g)(k:eh Z T K l L Y (.es x::.mq p g::c)<|.v (.ref a)<|.m d):J Z T K L Y (.mp p x::c)<|.v (.ref a) d:=aS ⟨λh n=>by
 refine(a_ g ⟨m.at_ h n,j⟩ ?_);haveI k:ju T x (λvs s=>mF (ph (.ref a::vs)<|.m d) [] λi o=>Rr i λv i=>n9 v s.h=some g/\∃r,ay p (v::i) s.h=some r/\nF r (λv s=>io T K c (.v v o) s) s) ⟨Y,h⟩:=(aJ k).at_ h n;rw[show(λvs s=>mF (ph (.ref a::vs)<|.m d) [] λi o=>Rr i λv i=>n9 v s.h=some g/\∃r,ay p (v::i) s.h=some r/\nF r (λv s=>io T K c (.v v o) s) s)
  =λvs s=>n9 (.ref a) s.h=some g/\∃r,ay p (.ref a::vs) s.h=some r/\nF r (λv s=>io T K c (.v v d) s) s from funext λvs=>funext λs=>D9] at k
 exact k⟩
theorem gc(l:Lv){x:Es}(m:(a,.list vs)∈L)(g:F3 p false)(k:eh Z T K l L Y (.es x::.mq p false::c)<|.v (.ref a)<|.m d):J Z T K L Y (.mp p x::c)<|.v (.ref a) d:=PF l ⟨λh i=>bj (o:=h a) (Z.get i m) z⟩ g k
theorem de(l:Lv)(m:At a (.list vs) (.list<|vs++[v]) L L')(j:vs.length<1000000)(k:eh Z T K l L' Y c<|.v .none d):J Z T K L Y (.mq .append false::c)<|.v v<|.v (.ref a)<|.m d:=aS ⟨λh n=>⟨bj (o:=h a) (Z.get n m.mem) z,J2 n m j λi g=>(aJ k).at_ i g⟩⟩
theorem PG(l:Lv)(m:At a (.list<|vs++[v]) (.list vs) L L')(k:eh Z T K l L' Y c<|.v v d):J Z T K L Y (.mq .pop false::c)<|.v (.ref a)<|.m d:=aS ⟨λh j=>⟨bj (o:=h a) (Z.get j m.mem) z,UM j m λi g=>(aJ k).at_ i g⟩⟩
theorem Ca(l:Lv)(m:At a (.list vs) (.list<|vs++xs) L L')(j:(b,.list xs)∈L)(o:vs.length+xs.length<1000000)(k:eh Z T K l L' Y c<|.v .none d):J Z T K L Y (.mq .extend false::c)<|.v (.ref b)<|.v (.ref a)<|.m d:=aS ⟨λh n=>⟨bj (o:=h a) (Z.get n m.mem) z,J3 n m j o λi g=>(aJ k).at_ i g⟩⟩
theorem G7(l:Lv)(m:At a (.list vs) (.list<|vs++xs) L L')(j:vs.length+xs.length<1000000)(k:eh Z T K l L' Y c<|.v .none d):J Z T K L Y (.mq .extend false::c)<|.v (.aF xs)<|.v (.ref a)<|.m d:=aS ⟨λh n=>⟨bj (o:=h a) (Z.get n m.mem) z,G3 n m j λi g=>(aJ k).at_ i g⟩⟩
theorem fg(l:Lv)(i:vs++[v]=ys)(m:At a (.list vs) (.list ys) L L')(g:vs.length<1000000)(k:eh Z T K l L' Y c<|.v .none d):J Z T K L Y (.mq .append false::c)<|.v v<|.v (.ref a)<|.m d:=by subst i;exact de l m g k
theorem uU(l:Lv)(j:vs++xs=ys)(m:At a (.list vs) (.list ys) L L')(g:(b,.list xs)∈L)(i:vs.length+xs.length<1000000)(k:eh Z T K l L' Y c<|.v .none d):J Z T K L Y (.mq .extend false::c)<|.v (.ref b)<|.v (.ref a)<|.m d:=by subst j;exact Ca l m g i k
theorem aX(l:Lv){q:List (IK×V)}(m:At a (.inst C F) (.inst C q) L L')(n:aE f v F=q)(o:i6 C f)(k:eh Z T K l L' Y c d):J Z T K L Y (.sat f::c)<|.v (.ref a)<|.v v d:=aS ⟨λh g=>uQ (G:=λs=>io T K c d s) g n o m λj i=>(aJ k).at_ j i⟩
theorem oy(l:Lv){i:Int}(m:At a (.list vs) (.list<|vs.set i.toNat v) L L')(o:0<=i)(q:i<vs.length)(k:eh Z T K l L' Y c d):J Z T K L Y (.Rq::c)<|.v (.int i)<|.v (.ref a)<|.v v d:=aS ⟨λh n=>G4 (G:=λs=>io T K c d s) n o q m λj g=>(aJ k).at_ j g⟩
theorem fC(l:Lv){i:Int}{q:List (Int×V)}(m:At a (.dict false q) (.dict false<|aE i v q) L L')(o:q.length<1000000)(k:eh Z T K l L' Y c d):J Z T K L Y (.Rq::c)<|.v (.int i)<|.v (.ref a)<|.v v d:=aS ⟨λh n=>G5 (G:=λs=>io T K c d s) n o m λj g=>(aJ k).at_ j g⟩
theorem Ea(l:Lv)(m:At a (.dg bo) (.dg<|aE (i,j) v bo) L L')(q:bo.length<1000000)(k:eh Z T K l L' Y c d):J Z T K L Y (.Rq::c)<|.v (.aF [.int i,.int j])<|.v (.ref a)<|.v v d:=aS ⟨λh n=>D8 (G:=λs=>io T K c d s) n q m λo g=>(aJ k).at_ o g⟩
theorem eY(l:Lv)(j:aE i v bo=n)(m:At a (.dict false bo) (.dict false n) L L')(g:bo.length<1000000)(k:eh Z T K l L' Y c d):J Z T K L Y (.Rq::c)<|.v (.int i)<|.v (.ref a)<|.v v d:=by subst j;exact fC l m g k
theorem Cb(l:Lv)(n:aE (i,j) v bo=r)(m:At a (.dg bo) (.dg r) L L')(g:bo.length<1000000)(k:eh Z T K l L' Y c d):J Z T K L Y (.Rq::c)<|.v (.aF [.int i,.int j])<|.v (.ref a)<|.v v d:=by subst n;exact Ea l m g k
theorem Cc(l:Lv){b:Bool}(q:b)(k:eh Z T K l L Y (.ss i::c) d):J Z T K L Y (.ifs i g::c)<|.v (.bool b) d:=aS<|(aJ k).imp λh k=>J8 q k
theorem CZ(l:Lv){b:Bool}(q:b=false)(k:eh Z T K l L Y (.ss g::c) d):J Z T K L Y (.ifs i g::c)<|.v (.bool b) d:=aS<|(aJ k).imp λh k=>J9 q k
theorem XZ{b:Bool}(q:b)(k:J Z T K L Y (.ss i::c) d):J Z T K L Y (.ifs i g::c)<|.v (.bool b) d:=aS<|(PB k).imp λh k=>J8 q k
theorem Cd{b:Bool}(q:b=false)(k:J Z T K L Y (.ss g::c) d):J Z T K L Y (.ifs i g::c)<|.v (.bool b) d:=aS<|(PB k).imp λh k=>J9 q k
theorem Ce(l:Lv){b:Bool}(q:b)(k:eh Z T K l L Y (.e i::c) d):J Z T K L Y (.it i g::c)<|.v (.bool b) d:=aS<|(aJ k).imp λh k=>J8 q k
theorem NM(l:Lv){b:Bool}(q:b=false)(k:eh Z T K l L Y (.e g::c) d):J Z T K L Y (.it i g::c)<|.v (.bool b) d:=aS<|(aJ k).imp λh k=>J9 q k
theorem RB(l:Lv){b t:Bool}{x:Es}(q:b=t)(k:eh Z T K l L Y (.o t x::c) d):J Z T K L Y (.oq t x::c)<|.v (.bool b) d:=aS<|(aJ k).imp λh k=>(a_ b z<|by rw[if_pos q];exact k)
theorem PH(l:Lv){b t:Bool}{x:Es}(q:b= !t)(k:eh Z T K l L Y c<|.v (.bool b) d):J Z T K L Y (.oq t x::c)<|.v (.bool b) d:=aS<|(aJ k).imp λh k=>(a_ b z<|by rw[if_neg<|by induction t using ff<;>induction b using ff<;>first|decide|cases q];exact k)
theorem zt(l:Lv){b t:Bool}{x:Ix}(q:b=t)(k:eh Z T K l L Y (.bs t x::c) d):J Z T K L Y (.bq t x::c)<|.v (.bool b) d:=aS ((aJ k).imp λh k=>by show if b=t then _ else _;rw[if_pos q];exact k)
theorem xO(l:Lv){b t:Bool}{x:Ix}(q:b= !t)(k:eh Z T K l L Y c<|.v (.bool b) d):J Z T K L Y (.bq t x::c)<|.v (.bool b) d:=aS ((aJ k).imp λh k=>by show if b=t then _ else _;rw[if_neg<|by induction t using ff<;>induction b using ff<;>first|decide|cases q];exact k)
theorem Ko{i j:Int}{h:Hp}{b:Bool}(g:decide (i=j)=b):ay (.eW .eq) [.int i,.int j] h=some (.val<|.bool b):=by subst g;rfl
theorem PJ{h:Hp}{b:Bool}(g:decide (i=j)=b):ay (.eW .ne) [.int i,.int j] h=some (.val<|.bool !b):=by subst g;rfl
theorem nh(l g:Lv)(t:i=j->eh Z T K l L Y c (.v (.bool true) d))(f:i≠j->eh Z T K g L Y c (.v (.bool false) d)):J Z T K L Y (.p (.eW .eq)::c)<|.v (.int j)<|.v (.int i)<|.m d:=by
 by_cases q:i=j;·exact aS<|(aJ<|t q).imp λh k=>(a_ _ (Ko<|decide_eq_true q) k)
 ·exact aS<|(aJ<|f q).imp λh k=>(a_ _ (Ko<|decide_eq_false q) k)
theorem PK(l g:Lv)(t:i=j->eh Z T K l L Y c (.v (.bool false) d))(f:i≠j->eh Z T K g L Y c (.v (.bool true) d)):J Z T K L Y (.p (.eW .ne)::c)<|.v (.int j)<|.v (.int i)<|.m d:=by
 by_cases q:i=j;·exact aS<|(aJ<|t q).imp λh k=>(a_ _ (PJ<|decide_eq_true q) k)
 ·exact aS<|(aJ<|f q).imp λh k=>(a_ _ (PJ<|decide_eq_false q) k)
theorem pW(l:Lv)(q:s≠g)(k:eh Z T K l L Y c<|.v (.bool false) d):J Z T K L Y (.p (.eW .eq)::c)<|.v (.str g)<|.v (.str s)<|.m d:=eE (us:=[.str s,.str g]) l (.bool false) (congrArg (λb=>some<|V.bool b)<|decide_eq_false q) ⟨rfl,rfl⟩ k
theorem M(l:Lv)(k:mF d [] λi d=>U Z L<|T g i λv h=>Kh l T K Y h c<|.v v d):J Z T K L Y (.call g::c) d:=by simp only[Fe] at k;exact aS ⟨λh j=>qQ (λ_ _ k=>k.at_ h j) k⟩
theorem aU(l:Lv){x:Es}(m:(a,.inst C F)∈L)(n:qr C r=some g)(k:eh Z T K l L Y (.es x::.call g::c)<|.v (.ref a)<|.m d):J Z T K L Y (.cz r x::c)<|.v (.ref a) d:=aS ⟨λh i=>by refine(wO a C F g z (Z.get i m) n ?_);haveI k:ju T x (λvs s=>mF (ph (.ref a::vs)<|.m d) [] λj q=>pN T g j (λv s=>io T K c (.v v q) s) s) ⟨Y,h⟩:=(aJ k).at_ h i;rw[show(λvs s=>mF (ph (.ref a::vs)<|.m d) [] λj q=>pN T g j (λv s=>io T K c (.v v q) s) s)=λvs s=>pN T g (.ref a::vs) (λv s=>io T K c (.v v d) s) s from funext λvs=>funext λs=>D9] at k;exact k⟩
theorem Az(l:Lv)(i:Nat){x:Es}(k:xc ((Ry L i).bind λx=>x.2.cl.bind λC=>qr C j) λg=>eh Z T K l L Y (.es x::.call g::c)<|.v (.ref<|Ch L i)<|.m d):J Z T K L Y (.cz j x::c)<|.v (.ref<|Ch L i) d:=
 wi (f:=λx=>x.cl.bind λC=>qr C j) k λC g m n k=>by
  refine oB n λo q r=>?_;clear n;induction C using kI with
  |inst=>cases q;exact aU l m r k
  |_=>exact Ku q
theorem s6(l:Lv)(k:xc (uI C) λg=>mF d [] λj d=>∀a,U Z ((a,.inst C [])::L)<|T g (.ref a::j) λv h=>v=.none/\Kh l T K Y h c (.v (.ref a) d)):J Z T K L Y (.new C::c) d:=by simp only[Fe] at k;exact aS ⟨λh i=>pz k λg m k=>qQ (λ_ _ k=>(a_ g m λa n=>(k a).at_ _<|Z.add i n)) k⟩
end
theorem aZ(l:Lv)(g:List Vr)(b:Ss)(r:ft w=g)(m:h8 w=b)(o:g.length=i.length)(k:eh Z (Tn n) (Rt a) l L (iU g i λ_=>none) [.ss b] .b):U Z L<|Tn (n+1) w i a:=
 ⟨λh f=>XT g b r m o (by have:=(aJ k).at_ h f;exact(iff_of_eq<|congrArg (λq=>gp (Tn n) b q ⟨iU g i λ_=>none,h⟩)<|by funext j s;cases j<;>rfl).mp this)⟩
theorem aR(k:U Z L<|a g):J Z T (Rt a) L Y (.ret::c)<|.v g d:=aS ⟨λh b=>k.at_ h b⟩
theorem dE(k:U Z L<|a .none):J Z T (Rt a) L Y [] d:=aS ⟨λh b=>k.at_ h b⟩
theorem jf{P:Hp->Prop}(k:U Z L P):J Z T (Rt λv h=>v=.none/\P h) L Y [] d:=aS ⟨λh a=>⟨z,k.at_ h a⟩⟩
abbrev Fo(Z:aT)(T:Sp)(L:H)(M:H)(A:Tg)(b:Ss)(N:Kk)(a:List V)(Y:aV):Prop:=U Z L λh=>mA M (dA A) (gp T b) N a ⟨Y,h⟩
def X0(T:Sp)(M:H)(A:Tg)(b:Ss)(N:Kk)(a:List V):Kk
 |.next,s=>mA M (dA A) (gp T b) N a s
 |.ret v,s=>ch M s.h/\N (.ret v) s
section
variable{s:H}{A:Tg}{b:Ss}{j:Kk}{x:V}{xs:List V}{l:Lv}{a:Nat}
theorem aO(l:Lv)(m:U Z L<|ch s)(k:xc (dA A x Y) λe=>eh Z T (X0 T s A b j xs) l L e [.ss b] .b):Fo Z T L s A b j (x::xs) Y:=⟨λh g=>pz k λe f k=>(F6 (m.at_ h g) e f<|by refine(iff_of_eq<|congrArg (λq=>gp T b q ⟨e,h⟩) ?_).mp<|(aJ k).at_ h g;funext i n;cases i<;>rfl)⟩
theorem b5(g:U Z L<|ch s)(k:U Z L λh=>j .next ⟨Y,h⟩):Fo Z T L s A b j [] Y:=⟨λh f=>⟨g.at_ h f,k.at_ h f⟩⟩
theorem aP(k:Fo Z T L s A b j xs Y):J Z T (X0 T s A b j xs) L Y [] d:=aS ⟨λh f=>k.at_ h f⟩
theorem Fi(g:U Z L<|ch s)(k:U Z L λh=>j (.ret i) ⟨Y,h⟩):J Z T (X0 T s A b j xs) L Y (.ret::c)<|.v i d:=aS ⟨λh f=>⟨g.at_ h f,k.at_ h f⟩⟩
theorem df(m:(a,g)∈L):U Z L<|ch [(a,g)]:=⟨λh f=>wX f m⟩
theorem jS:U Z L<|ch []:=⟨λ_ _=>uR⟩
theorem gd(l:Lv)(m:(a,.list g)∈L)(k:Fo Z T L [(a,.list g)] A b (Kf K<|sZ l T K c d) g Y):J Z T K L Y (.fr A .it b::c)<|.v (.ref a)<|.m d:=by rw[hU] at k;exact aS ⟨λh f=>XS (KK:=Kf K<|io T K c d) f m<|k.at_ h f⟩
theorem PL(l:Lv)(k:Fo Z T L [] A b (Kf K<|sZ l T K c d) g Y):J Z T K L Y (.fr A .it b::c)<|.v (.aF g)<|.m d:=by rw[hU] at k;exact aS ⟨λh f=>(fJ g ([]) z<|k.at_ h f)⟩
theorem wk(l:Lv)(i:0<=n)(g:n<1000000)(k:Fo Z T L [] A b (Kf K<|sZ l T K c d) (bY n) Y):J Z T K L Y (.fr A .range b::c)<|.v (.int n)<|.m d:=by rw[hU] at k;exact aS ⟨λh f=>ND i g<|k.at_ h f⟩
theorem Kp(l:Lv)(m:(a,.list i)∈L)(n:(g,.list r)∈L)(k:Fo Z T L [(a,.list i),(g,.list r)] A b (Kf K<|sZ l T K c d) (bn i r) Y):J Z T K L Y (.fr A .zip b::c)<|.v (.ref g)<|.v (.ref a)<|.m d:=by rw[hU] at k;exact aS ⟨λh f=>UR (KK:=Kf K<|io T K c d) f m n<|k.at_ h f⟩
end
abbrev Co(Z:aT)(T:Sp)(L:H)(M:H)(A:Tg)(u:B)(O:E)(Q:List V->St->Prop)(a J:List V)(Y:aV):Prop:=U Z L λh=>kC M (dA A) (qh T u) (gg T O) Q a J ⟨Y,h⟩
def X1(T:Sp)(M:H)(A:Tg)(u:B)(O:E)(Q:List V->St->Prop)(a J:List V):Kk
 |.next,_=>False
 |.ret v,s=>kC M (dA A) (qh T u) (gg T O) Q a (J++[v]) s
def X4(T:Sp)(M:H)(A:Tg)(u:B)(O:E)(Q:List V->St->Prop)(a J:List V):Kk
 |.next,_=>False
 |.ret v,s=>M4 v λb=>if b then gg T O (λv s=>kC M (dA A) (qh T u) (gg T O) Q a (J++[v]) s) s else kC M (dA A) (qh T u) (gg T O) Q a J s
section
variable{s:H}{A:Tg}{u:B}{g:E}{i:List V->St->Prop}{x:V}{xs r:List V}{a:Nat}{k:List (Vr×NK)}
theorem cJ(l:Lv)(j:U Z L<|ch s)(m:xc (dA A x Y) λe=>eh Z T (X1 T s A .tt g i xs r) l L e [.e g,.ret] .b):Co Z T L s A .tt g i (x::xs) r Y:=
 ⟨λh f=>pz m λe b m=>Ro (j.at_ h f) b (λ_ _ m=>m)<|(aJ m).at_ h f⟩
theorem cF(f:Co Z T L s A u g i xs (r++[j]) Y):J Z T (X1 T s A u g i xs r) L Y (.ret::c)<|.v j d:=aS ⟨λh b=>f.at_ h b⟩
theorem Kq(l:Lv)(j:U Z L<|ch s)(m:xc (dA A x Y) λe=>eh Z T (X4 T s A u g i xs r) l L e [.b u,.ret] .b):Co Z T L s A u g i (x::xs) r Y:=
 ⟨λh f=>pz m λe b m=>(F6 (j.at_ h f) e b<|(aJ m).at_ h f)⟩
theorem Fk(l:Lv)(f:b=true)(j:eh Z T (X1 T s A u g i xs r) l L Y [.e g,.ret] .b):J Z T (X4 T s A u g i xs r) L Y (.ret::c)<|.v (.bool b) d:=aS<|(aJ j).imp λh j=>J8 f j
theorem ZA(f:b=false)(j:Co Z T L s A u g i xs r Y):J Z T (X4 T s A u g i xs r) L Y (.ret::c)<|.v (.bool b) d:=aS<|j.imp λh j=>J9 f j
theorem gB(f:U Z L<|ch s)(j:U Z L λh=>i r ⟨Y,h⟩):Co Z T L s A u g i [] r Y:=⟨λh b=>⟨f.at_ h b,j.at_ h b⟩⟩
theorem dF{P:V->St->Prop}{f:List V}(m:∀a,U Z ((a,.list f)::L) λh=>P (.ref a) ⟨Y,h⟩):U Z L λh=>wP P Y f ⟨e,h⟩:=⟨λh b=>J' b λa j l=>(m a).at_ j l⟩
theorem uV(l:Lv)(m:(a,.list w)∈L)(f:Co Z T L [(a,.list w)] A u g (wP (λn j=>sZ l T K c (.v n d) j) Y) w []<|gW A Y):J Z T K L Y (.cp g A .it u::c)<|.v (.ref a)<|.m d:=by rw[hU] at f;exact aS ⟨λh b=>UQ (Q:=λn j=>io T K c (.v n d) j) b m<|f.at_ h b⟩
theorem tY(l:Lv)(f:Co Z T L [] A u g (wP (λn j=>sZ l T K c (.v n d) j) Y) w []<|gW A Y):J Z T K L Y (.cp g A .it u::c)<|.v (.aF w)<|.m d:=by rw[hU] at f;exact aS ⟨λh b=>(fJ w ([]) z<|f.at_ h b)⟩
theorem AA(l:Lv)(m:0<=n)(f:n<1000000)(j:Co Z T L [] A u g (wP (λa1 w=>sZ l T K c (.v a1 d) w) Y) (bY n) []<|gW A Y):J Z T K L Y (.cp g A .range u::c)<|.v (.int n)<|.m d:=by rw[hU] at j;exact aS ⟨λh b=>(fJ _ _ (if_pos<|by simp only[oH,decide_eq_true_eq];exact⟨m,f⟩)<|j.at_ h b)⟩
end
abbrev Wo(Z:aT)(T:Sp)(L:H)(u:B)(b:Ss)(N:Kk)(n:Nat)(Y:aV):Prop:=U Z L λh=>uB (qh T u) (gp T b) N n ⟨Y,h⟩
def U1(T:Sp)(u:B)(b:Ss)(N:Kk)(n:Nat):Kk
 |.next,_=>False
 |.ret v,s=>M4 v λt=>if t then gp T b (Wn T u b N n) s else N .next s
section
variable{u:B}{b:Ss}{j:Kk}{n:Nat}{l:Lv}
theorem kp(l:Lv)(n:Nat)(k:Wo Z T L u b (Kf K<|sZ l T K c d) n Y):J Z T K L Y (.s (.iI u b)::c) d:=by rw[hU] at k;exact aS ⟨λh a=>⟨n,k.at_ h a⟩⟩
theorem eI(l:Lv)(k:eh Z T (U1 T u b j n) l L Y [.b u,.ret] .b):Wo Z T L u b j (n+1) Y:=⟨λh a=>Rn<|(aJ k).at_ h a⟩
theorem C0(l:Lv)(a:i=true)(k:eh Z T (Wn T u b j n) l L Y [.ss b] .b):J Z T (U1 T u b j n) L Y (.ret::c)<|.v (.bool i) d:=aS<|(aJ k).imp λh k=>J8 a<|by refine(iff_of_eq<|congrArg (λq=>gp T b q ⟨Y,h⟩) ?_).mp k;funext g s;cases g<;>rfl
theorem Mr(a:g=false)(k:U Z L λh=>j .next ⟨Y,h⟩):J Z T (U1 T u b j n) L Y (.ret::c)<|.v (.bool g) d:=aS<|k.imp λh k=>J9 a k
theorem iM(k:Wo Z T L u b j n Y):J Z T (Wn T u b j n) L Y [] d:=aS ⟨λh a=>k.at_ h a⟩
end
end
noncomputable def xP(l:Nat)(c:Int):a0:=.list [.ref l,.int c]
def X6(F:H)(d l:Nat)(a:List Int)(b:Nat)(h:Hp)(L:H):Prop:=∃c:Int,0<=c/\c<=(b:Int)/\vW h ((d,xP l c)::(l,.list<|a.map .int)::(F++L))
theorem At.skip(m:At a c e L b):∀X:H,At a c e (X++L) (X++b)
 |[]=>m
 |_::X=>.tail<|m.skip X
noncomputable def dN(F:H)(d l:Nat)(f:List Int)(b:Nat):aT:=
 ⟨X6 F d l f b,λ⟨_,_,_,g⟩ m=>g.2.2.2.2.get<|cs _ m,λ⟨c,i,e,g⟩ m=>(g6 c i e<|g.put<|.tail<|.tail<|m.skip F),
  λ{h a x L}⟨c,i,e,g⟩ n=>(g6 c i e<|(g.add n).perm<|((List.Perm.swap _ _ _).trans<|.cons _<|.swap _ _ _).trans<|.cons _<|.cons _ (List.perm_middle (l₁:=F) (l₂:=L)).symm),
  λ⟨c,i,e,g⟩ s=>(g6 c i e<|g.sub<|.cons_cons _<|.cons_cons _<|List.Sublist.append (.refl F) s),λ⟨c,i,e,g⟩ p=>(g6 c i e<|g.perm<|.cons _<|.cons _<|List.Perm.append_left F p)⟩
section
variable{n:Nat}{A:dC}{L:H}
theorem NN{d:List Int}(l:0<=c)(g:c<900)(h:d.length<=60)(a:0<many)(f:many<1000)
 (k:∀s,0<=s->s<many->U O ((r,xP w<|c+1)::(w,.list<|d.map .int)::L) (A<|.int s)):U O ((r,xP w c)::(w,.list<|d.map .int)::L)<|Tn (n+1) .b6 [.ref r,.int many] A:=by
 refine aZ .a [.b_,.many] wL z rfl rfl<|yJ .a 0 ?_;refine oy (vs:=[.ref w,.int c]) .a (.head (c':=xP w<|c+1)) m (by show(1:Int)<(2:Nat);decide) ?_;refine yJ .a 0<|yJ .a 0<|Ki .b 1 ?_;by_cases b:c+1<=((d.map V.int).length:Nat)
 ·refine Cc .a (decide_eq_true b)<|yJ .a 0<|yJ .a 0 ?_;rw[fZ] at b;haveI e:(d.map V.int)[(c+1-1).toNat]?=some (.int<|d[(c+1-1).toNat]'(by lia)):=by rw[oe,sB<|by lia];rfl
  exact fL .e (N q) (by lia) e<|PD .a a<|aR<|k _ (Int.emod_nonneg _<|by lia)<|Int.emod_lt_of_pos _ a
 ·refine CZ .a (decide_eq_false b)<|yJ .a 0<|yJ .e 0 ?_;rw[fZ] at b;haveI j:(c+1)*(c+1)<1000000:=Int.lt_of_le_of_lt (Int.mul_le_mul (by lia:c+1<=900) (by lia:c+1<=900) (by lia)<|by lia) m;haveI i:0<=(c+1)*(c+1):=Int.mul_nonneg (by lia) (by lia);exact Ff .e (by lia)<|Ff .e (by lia)<|yJ .e 0<|Ff .e (by lia)<|yJ .e 0<|Ki .e 1<|Ff .e (by rw[fZ];lia)<|zq .e<|PD .a a<|aR<|k _ (Int.emod_nonneg _<|by lia)<|Int.emod_lt_of_pos _ a
end
theorem dZ{Q:dC}{d l:Nat}{p:List Int}{F:H}{b:Nat}{o:Int}{L:H}(f:p.length<=60)(m:b<900)(e:0<o)(a:o<1000)
 (q:∀r,0<=r->r<o->U (dN F d l p<|b+1) L (Q<|.int r)):U (dN F d l p b) L<|Tn (n+1) .b6 [.ref d,.int o] Q:=⟨λh k=>by
 exact iK k λc s j k=>(NN s (by lia) f e a λr g i=>⟨λh k=>(q r g i).at_ h<|g6 (c+1) (by lia) (by lia) k⟩).at_ h k⟩
theorem AB{l:dC}{u k s:Nat}{b:List V}{Z:aT}{L m a:H}(e:fs.lookup .az=some (.int s))(i:aE .az (.int (s+1:Nat)) fs=r)(o:r.lookup .az=some (.int (s+1:Nat)))
 (g:At u (.inst .dz fs) (.inst .dz r) L m)(f:At k (.list b) (.list<|b++[.int s]) m a)(h:(u,.inst .dz r)∈m)(c:(u,.inst .dz r)∈a)(j:b.length<1000000)
 (q:U Z a<|l<|.int s):U Z L<|Tn (n+1) .dJ [.ref u,.ref k] l:=by
 haveI d:((s+1:Nat):Int)-1=s:=by lia
 refine aZ .a [.bO,.bT] wM z rfl rfl<|Q .a g.mem e<|aX .a g i z<|gc .a f.mem z<|Q .a h o ?_;show J _ _ _ _ _ _ _;refine(bp d)▸?_;refine de .a f j<|Q .a c o ?_;show J _ _ _ _ _ _ _;refine(bp d)▸?_;exact aR q
inductive Ag where
 |hD (d:V)|free (i:Int)|bL (s:Nat)
noncomputable def Ag.ctorIdx(x:Ag):Nat:=Ag.casesOn (motive:=λ_=>Nat) x (λ_=>0) (λ_=>1) λ_=>2
def Ag.v:Ag->V
 |.hD d=>.aF [.str .hD,d]
 |.free i=>.aF [.str .free,.int i]
 |.bL s=>.aF [.str .bL,.int s]
noncomputable def dG:List V:=[.int 1,.bool true,.bool false,.int 0,.int 2]
def Ag.ok(a:List Nat):Ag->Prop
 |.hD d=>d∈dG
 |.free i=>0<=i/\i<2
 |.bL s=>s∈a
noncomputable def G(a:List Nat):List V:=a.map λ(s:Nat)=>.int s
theorem qR{Q:dC}{F:H}{b:Nat}{f:List Nat}{L:H}(h:xs.length<=60)(s:b<890)(d:(A,.list<|G f)∈L)(t:f.length<1000)
 (k:∀g:Ag,g.ok f->U (dN F x T xs<|b+2) L (Q g.v)):U (dN F x T xs b) L<|Tn (n+2) .dI [.ref x,.ref A] Q:=by
 refine aZ .a [.b_,.bT] yT z rfl rfl<|M .e<|dZ h (ci ‹_› m) m m λw u v=>?_;haveI o:∀j,0<=j->j<2->U (dN F x T xs<|b+1+1) L (Q<|.aF [.str .free,.int j]):=λj c e=>k (.free j) ⟨c,e⟩;refine nh .a .e (λ_=>aW .a λa=>M .e<|dZ h (ci (sI ‹_› _) m) m m λj c e=>?_) λ_=>nh .a .a (λ_=>M .a<|dZ h (ci (sI ‹_› _) m) m m λj c e=>(aR<|o j c e)) λ_=>aW .e λa=>NL .b (N d) q ?_;·obtain⟨r,l,y⟩:∃x,dG[j.toNat]?=some x/\x∈dG:=(a_ (dG[j.toNat]'(by show j.toNat<5;lia)) (sB _)<|List.getElem_mem _);exact fL .a q c l<|aR<|aA aT.tl<|k (.hD r) y
 ·induction f using da with
  |nil=>exact aY .a<|M .a<|dZ h (ci (sI ‹_› _) m) m m λj c e=>(aR<|aA aT.tl<|o j c e)
  |cons i f=>
   refine aY .a<|fv .a (N d)<|M .e<|dZ h (ci (sI ‹_› _) m) (by simp only[G,fZ,jM];lia) (by simp only[G,fZ];lia) λj c e=>?_;have p:j.toNat<(i::f).length:=by simp only[G,fZ] at e;lia
   exact fL .a (N d) c (by unfold G;rw[oe,sB p];rfl)<|aR<|aA aT.tl<|k (.bL _)<|List.getElem_mem p
theorem pA(q:b<=a)(H:(dN g i j xs b).C h L):(dN g i j xs a).C h L:=let ⟨c,d,e,r⟩:=H;(g6 c d (by lia) r)
inductive Op where
 |hD (s:Nat) (d:V)|fS (s:Nat) (g:Int)|set (w:Sy) (g:Int) (a:Ag)|bt (s:Nat) (n:Int) (a b:Ag)|fix (x c:Nat) (a:Ag)|ay (s:Option Nat) (n:Int) (a b:Ag)
noncomputable def Op.ctorIdx(x:Op):Nat:=Op.casesOn (motive:=λ_=>Nat) x (λ_ _=>0) (λ_ _=>1) (λ_ _ _=>2) (λ_ _ _ _=>3) (λ_ _ _=>4) λ_ _ _ _=>5
noncomputable def Op.news:Op->List Nat
 |.hD s _|.fS s _|.bt s .. |.ay (some s) .. =>[s]
 |.fix x y _=>[x,y]
 |_=>[]
def Op.ok(c:List Nat):Op->Prop
 |.hD _ d=>d∈dG
 |.fS _ g=>10<=g/\g<13
 |.set w g a=>(w=.jw\/w=.eN)/\10<=g/\g<13/\a.ok c
 |.bt _ n a b=>0<=n/\n<3/\a.ok c/\b.ok c
 |.fix _ _ a=>a.ok c
 |.ay _ n a b=>0<=n/\n<4/\a.ok c/\b.ok c
def Eb(b:V)(c:Sy)(a:V)(l:Nat):List<|IK×V:=[(.bL,b),(.op,.str c),(.data,a),(.args,.ref l)]
inductive mH(R:H):V->Op->Prop
 |hD {p l:Nat} {s:Nat} {d:V} (a:(p,.inst .ym<|Eb (.int s) .hD d l)∈R) (b:(l,.list [])∈R):mH R (.ref p) (.hD s d)
 |fS {p l:Nat} {s:Nat} {g:Int} (a:(p,.inst .ym<|Eb (.int s) .global (.int g) l)∈R) (b:(l,.list [])∈R):mH R (.ref p) (.fS s g)
 |set {p l:Nat} {w:Sy} {g:Int} {x:Ag} (a:(p,.inst .ym<|Eb (.int<|-1) w (.int g) l)∈R) (b:(l,.list [x.v])∈R):mH R (.ref p) (.set w g x)
 |bt {p l:Nat} {s:Nat} {n:Int} {x h:Ag} (a:(p,.inst .ym<|Eb (.int s) .bt (.int n) l)∈R) (b:(l,.list [x.v,h.v])∈R):mH R (.ref p) (.bt s n x h)
 |fix {p l k i j:Nat} {x h:Nat} {g:Ag} (a:(p,.inst .ym<|Eb (.int<|-1) .wB (.ref k) l)∈R) (b:(l,.list [])∈R) (c:(k,.list [.aF [.int x,.int 1,.ref i],.aF [.int h,.int 2,.ref j]])∈R)
  (e:(i,.list [(Ag.bL h).v,g.v])∈R) (f:(j,.list [(Ag.bL x).v])∈R):mH R (.ref p) (.fix x h g)
 |ay {p l:Nat} {s:Option Nat} {n:Int} {x h:Ag} (a:(p,.inst .ym<|Eb (match s with|some s=>.int s|none=>.int<|-1) .ay (.int n) l)∈R) (b:(l,.list [x.v,h.v])∈R):mH R (.ref p) (.ay s n x h)
theorem mH.mono{R d:H}(x:mH R h g)(k:∀i∈R,i∈d):mH d h g:=by
 cases x with
 |hD a b=>exact .hD (k _ a)<|k _ b
 |fS a b=>exact .fS (k _ a)<|k _ b
 |set a b=>exact .set (k _ a)<|k _ b
 |bt a b=>exact .bt (k _ a)<|k _ b
 |fix a b c e f=>exact .fix (k _ a) (k _ b) (k _ c) (k _ e)<|k _ f
 |ay a b=>exact .ay (k _ a)<|k _ b
def U3(a:List<|Vr×NK):E:=.comp (.call .dI<|.cons (.ai .b_)<|.cons (.ai .bT) Es.nil) (.one .jt) .range (.cons (.hD<|.int 2) Es.nil) .tt a
theorem AD(p:Lv)(o:xs.length<=60)(u:b<880)(r:(Y,.list<|G h)∈L)(j:h.length<1000)
 (i:e .b_=some (.ref A))(d:e .bT=some (.ref Y))
 (q:∀(g T:Ag) a,g.ok h->T.ok h->eh (dN w A a1 xs<|b+4) (Tn<|n+2) x p ((a,.list [g.v,T.v])::L) e c (.v (.ref a) fs)):J (dN w A a1 xs b) (Tn<|n+2) x L e (.cp (.call .dI<|.cons (.ai .b_)<|.cons (.ai .bT) Es.nil) (.one .jt) .range .tt::c)<|.v (.int 2)<|.m fs:=
 AA p m m<|cJ (x:=.int 0) (xs:=[.int 1]) .v jS<|y .v i<|y .a d<|M .a<|qR o (ci ‹_› m) r j λg s=>(cF<|cJ (x:=.int 1) (xs:=[]) .v jS<|y .v i<|y .a d<|M .a<|qR o (ci (sI ‹_› _) m) r j λT t=>(cF<|gB jS<|dF λa=>q g T a s t))
theorem vF(l:Lv)(q:∀h,eh g (Tn<|n+1) e l ((h,.inst .ym<|Eb bL op data b)::L) a c<|.v (.ref h) fs):
 J g (Tn<|n+1) e L a (.new .ym::c)<|.v (.ref b)<|.v data<|.v (.str op)<|.v bL<|.m fs:=
 s6 l λh=>aZ .a [.aq,.bL,.op,.data,.args] wK z rfl rfl<|aX .a .head z rfl<|aX .a .head z rfl<|aX .a .head z rfl<|aX .a .head z rfl<|jf<|q h
def uF(num:V)(f:Sy)(c e d a:V)(s:Nat)(g:Nat)(b:V):List<|IK×V:=[(.ax,num),(.aH,.str f),(.params,c),(.rest,e),(.lH,d),(.qj,a),(.az,.int s),(.bJ,.ref g),(.name,b)]
theorem dT(a:List Nat)(s:Nat):G a++[.int s]=G (a++[s]):=by unfold G;rw[sn];rfl
theorem bB(a:List Nat):(G a).length=a.length:=fZ _
theorem aT.X7{Z:aT}{X R:H}(a:Z.C h<|X++x::b::R):Z.C h<|x::b::(X++R):=Z.perm a<|List.perm_middle.trans<|.cons _ List.perm_middle
theorem iD{Q:dC}{num k f l h j:V}{g:Sy}{i:Nat}{a:List Nat}{Z:aT}{X R:H}(b:a.length<1000)
 (d:U Z (X++(c,.list<|G<|a++[s])::(e,.inst .dz<|uF num g k f l h (s+1) i j)::R)<|Q<|.int s):
 U Z (X++(c,.list<|G a)::(e,.inst .dz<|uF num g k f l h s i j)::R)<|Tn (n+1) .dJ [.ref e,.ref c] Q:=by
 rw[<-dT] at d;exact AB (r:=uF num g k f l h (s+1) i j) (m:=X++(c,.list<|G a)::(e,.inst .dz<|uF num g k f l h (s+1) i j)::R) z rfl rfl ((At.tail .head).skip X) (At.head.skip X) (cs _<|N q) (cs _<|N q) (by rw[bB];exact ci ‹_› m) d
theorem qS{d l:Nat}{b a:Nat}{x y:Nat×a0}(X:H){R:H}{P:Hp->Prop}(c:b<=a)(k:U (dN e d l xs a) (x::y::(X++R)) P):U (dN e d l xs b) (X++x::y::R) P:=aA (λf=>pA c<|aT.X7 f) k
set_option maxHeartbeats 1000000 in
theorem RC{d l u k s:Nat}{F:H}{b:Nat}{num K X D x B:V}{aH:Sy}{bl:Nat}{y:List Nat}{R:H}
 (h:xs.length<=60)(f:b<850)(O:y.length<900)
 (Q:∀(a3:Op)(a2:H) a4,a3.ok y->a3.news=List.range' s a3.news.length->mH a2 a4 a3->U (dN F d l xs<|b+8) ((k,.list<|G<|y++a3.news)::(u,.inst .dz<|uF num aH K X D x (s+a3.news.length) bl B)::(a2++R)) (a1 a4)):
 U (dN F d l xs b) ((k,.list<|G y)::(u,.inst .dz<|uF num aH K X D x s bl B)::R)<|Tn (n+3) .q_ [.ref d,.ref u,.ref k] a1:=by
 have A:y.length<1000:=ci ‹_› m;have L:∀(a3:Op)(a2:H) a4,a3.news=[]->a3.ok y->mH a2 a4 a3->U (dN F d l xs<|b+8) ((k,.list<|G y)::(u,.inst .dz<|uF num aH K X D x s bl B)::(a2++R)) (a1 a4):=λa3 a2 a4 e k r=>by have:=Q a3 a2 a4 k (by refine(bp e)▸?_;rfl) r;rw[e,j0] at this;exact this
 refine aZ .a [.b_,.bO,.bT] yU z rfl rfl<|M .a<|dZ h (bN 0x352c041c001d0601384c041c001d061 z f) m m λw Y Z=>AD .e h (bN 0x352c041c001d0601370c041c1c001d06d0b1 z f) q (bN 0x384c041c001d06013e8c041c001d061 z O) z rfl λg C a S o=>nh .a .e (λ_=>M .a<|iD (X:=[_]) A<|aW .a λW=>M .e<|dZ h (bN 0x352c041c001d0601384c041c4c1c001d06d0bd101 z f) m m λj c t=>?_) λ_=>?_
 ·have E:∃d,[V.int 1,.bool true,.int 0][j.toNat]?=some d/\d∈dG:=by
   have:j=0\/j=1\/j=2:=by lia
   clear c t;rcases this with rfl|rfl|rfl
   ·exact(a_ _ z q)
   ·exact(a_ _ z<|N q)
   ·exact(a_ _ z<|N<|N<|N q)
  refine bS E λT e1 e2=>?_;clear E;exact fL .a q c e1<|aW .a λv=>vF .a λp=>aR<|qS [_,_,_,_] (r_ m _)<|Q (.hD s T) [_,_,_,_] _ e2 z<|.hD q<|N q
 refine nh .a .e (λ_=>M .a<|iD (X:=[_]) A<|M .a<|dZ h (bN 0x352c041c001d0601384c041c4c1c001d06d0bd101 z f) m m λj c t=>aW .a λv=>vF .a λp=>aR<|qS [_,_,_] (r_ m _)<|Q (.fS s<|10+j) [_,_,_] _ ⟨by lia,by lia⟩ z<|.fS q<|N q) λ_=>?_;refine nh .a .e (λ_=>M .e<|dZ h (bN 0x352c041c001d0601384c041c4c1c001d06d0bd101 z f) m m λj _ _=>nh .a .a (λ_=>M .a<|dZ h (bN 0x352c041c001d0601384c041c1c4c1c001d06d0bd10d151 z f) m m λj c t=>PE .a q λv=>vF .a λp=>aR<|qS [_,_,_] (r_ m _)<|L (.set .jw (10+j) g) [_,_,_] _ z (hV (.inl z) (by lia) (by lia) S)<|.set q<|N q)
  λ_=>M .a<|dZ h (bN 0x352c041c001d0601384c041c1c4c1c001d06d0bd10d151 z f) m m λj c t=>PE .a q λv=>vF .a λp=>aR<|qS [_,_,_] (r_ m _)<|L (.set .eN (10+j) g) [_,_,_] _ z (hV (.inr z) (by lia) (by lia) S)<|.set q<|N q) λ_=>?_
 refine nh .a .e (λ_=>M .a<|iD (X:=[_]) A<|M .a<|dZ h (bN 0x352c041c001d0601384c041c4c1c001d06d0bd101 z f) m m λj c t=>vF .a λp=>aR<|qS [_,_] (r_ m _)<|Q (.bt s j g C) [_,_] _ (hV c t S o) z<|.bt q<|N q) λ_=>?_;refine nh .a .e (λ_=>M .a<|iD (X:=[_]) A<|M .a<|iD (X:=[_]) (by refine(bp eR)▸?_;exact bN 0x384c041c001d06013e8c041c1c001d06d0b1 z O)<|?_) λ_=>?_;·show J _ _ _ _ _ _ _;rw[lX];exact yJ .a 0<|aW .a λi=>aW .a λj=>aW .a λP=>aW .a λI=>vF .a λp=>aR<|qS [_,_,_,_,_,_] (r_ m _)<|Q (.fix s (s+1) g) [_,_,_,_,_,_] _ S z<|.fix (by walk_at "mem") (by walk_at "mem") (by walk_at "mem") (by walk_at "mem")<|by walk_at "mem"
 exact nh .a .a (λ_=>M .a<|dZ h (bN 0x352c041c001d0601384c041c4c1c001d06d0bd101 z f) m m λj c t=>vF .a λp=>aR<|qS [_,_] (r_ m _)<|L (.ay none j g C) [_,_] _ z (hV c t S o)<|.ay q<|N q) λ_=>M .a<|iD (X:=[_]) A<|M .a<|dZ h (bN 0x352c041c001d0601384c041c4c1c001d06d0bd101 z f) m m λj c t=>vF .a λp=>aR<|qS [_,_] (r_ m _)<|Q (.ay (some s) j g C) [_,_] _ (hV c t S o) z<|.ay q<|N q
def PM(num:V)(b a:Nat)(c:V):List<|IK×V:=[(.ax,num),(.params,.ref b),(.ao,.ref a),(.last,c)]
theorem Kr(l:Lv){e:Fr}{num:V}{d:Nat}{Z:aT}{L:H}(q:∀h b,eh Z (Tn<|n+1) g l ((h,.inst .hJ<|PM num d b .none)::(b,.list [])::L) a c<|.v (.ref h) e):
 J Z (Tn<|n+1) g L a (.new .hJ::c)<|.v (.ref d)<|.v num (.m e):=
 s6 l λh=>aZ .a [.aq,.ax,.params] rU z rfl rfl<|aX .a .head z rfl<|aX .a .head z rfl<|aW .a λo=>aX .a (.tail .head) z rfl<|aX .a (.tail .head) z rfl<|jf<|aA (aT.mv [] [_] [_])<|q h o
inductive vX(R:H):List V->List Op->Prop
 |nil:vX R [] []
 |cons {v:V} {o:Op} {vs:List V} {os:List Op} (x:mH R v o) (a:vX R vs os):vX R (v::vs) (o::os)
theorem vX.mono{R a:H}(x:vX R c os)(k:∀e∈R,e∈a):vX a c os:=by
 induction x with
 |nil=>exact .nil
 |cons x _ b=>exact .cons (x.mono k) b
def aw(a:List Op):List Nat:=a.flatMap Op.news
def ic:List Nat->Nat->List Op->Prop
 |_,_,[]=>True
 |a,s,o::b=>o.ok a/\o.news=List.range' s o.news.length/\ic (a++o.news) (s+o.news.length) b
theorem tZ(o:Op):o.news.length<=2:=by
 induction o using Op.casesOn with
 |ay s _ _ _=>induction s using qG<;>exact Nat.le_of_ble_eq_true z
 |_=>exact Nat.le_of_ble_eq_true z
theorem gr(h:e.length<=2):(aw e).length<=4:=by
 induction e using da with
 |nil=>exact Nat.zero_le _
 |cons o e=>
  haveI b:=tZ o;induction e using da with
  |nil=>show(o.news++[]).length<=4;rw[j0];exact eJ ‹_› m
  |cons a e=>
   haveI c:=tZ a;induction e using da with
   |nil=>show(o.news++(a.news++[])).length<=4;rw[j0,eR];exact aG 0x2c02101012c02001014c021001d051 z b c
   |cons d e=>simp only[jM] at h;exact False.elim<|bN 0x2c021c1c1c001d06d0bd10010 z h
theorem AE{d l u k s:Nat}{F:H}{b:Nat}{num E v p c j:V}{D:Sy}{N B g:Nat}{e:List Nat}{i h:List V}{f:List (IK×V)}{R:H}
 (K:xs.length<=60)(x:b<850)(I:e.length<900)(o:h.length<10)(w:f.lookup .ao=some (.ref g))(O:a .b_=some (.ref d))(P:a .bO=some (.ref u))(t:a .bT=some (.ref k))
 (q:∀(Y:Op)(T:H) a1,Y.ok e->Y.news=List.range' s Y.news.length->mH T a1 Y->
  J (dN F d l xs<|b+8) (Tn<|n+3) L ((k,.list<|G<|e++Y.news)::(u,.inst .dz<|uF num D E v p c (s+Y.news.length) N j)::(N,.list i)::(B,.inst .hJ f)::(g,.list<|h++[a1])::(T++R)) a [] .b):
 J (dN F d l xs b) (Tn<|n+3) L ((k,.list<|G e)::(u,.inst .dz<|uF num D E v p c s N j)::(N,.list i)::(B,.inst .hJ f)::(g,.list h)::R) a
  [.p<|.attr .ao,.mp .append<|.cons (.call .q_<|.cons (.ai .b_)<|.cons (.ai .bO)<|.cons (.ai .bT) Es.nil) Es.nil,.exp,.ss .nil]<|.v (.ref B)<|.m .b:=
 Q .a (by walk_at "mem") w<|gc .v (by walk_at "mem") z<|y .v O<|y .v P<|y .a t<|M .a<|RC K x I λY T a1 A C r=>aA aT.mv2_3<|de .a (.tail<|.tail<|.tail<|.tail .head) (ci ‹_› m)<|q Y T a1 A C r
theorem Cg{F x:Nat}{R:H}
 (K:(x,.list<|G ps)∈R)(c:xs.length<=60)(A:b<830)(d:ks.length+ps.length<800)(O:h.length<10)
 (E:∀(os:List Op)(a1:H)(B a:Nat)(a6:List V),ic (ks++ps) s os->1<=os.length->os.length<=2->vX a1 a6 os->(a,.list a6)∈a1->
  U (dN T a2 a4 xs<|b+17) ((a3,.list<|G<|ks++ps++aw os)::(a5,.inst .dz<|uF num aH pr rest ta cap (s+(aw os).length) F nm)::(F,.list<|h++[.ref B])::(B,.inst .hJ<|PM (.int h.length) x a .none)::(a1++R)) (Y<|.ref B)):
 U (dN T a2 a4 xs b) ((a3,.list<|G ks)::(a5,.inst .dz<|uF num aH pr rest ta cap s F nm)::(F,.list h)::R)<|Tn (n+4) .iu [.ref a2,.ref a5,.ref a3,.ref x] Y:=by
 refine aZ .a [.b_,.bO,.bT,.params] vh z rfl rfl<|uS .a 1<|Ki .a 2<|Kr .a λB a=>aA (aT.mv02_3 (X:=[_,_]))<|uS .a 1<|gc .a (N<|N q) z<|de .a (.tail<|.tail .head) (ci ‹_› m)<|
  gc .a q z<|uU .a (sn ..).symm .head (N<|N<|N<|N<|N K) (by rw[fZ,fZ];exact ci ‹_› m)<|M .a<|dZ c (ci ‹_› m) m m λj k J=>wk .a (by lia) (by lia) ?_
 haveI C:j=0\/j=1:=by lia
 clear k J;rcases C with rfl|rfl
 ·refine aO (x:=.int 0) (xs:=[]) .a jS<|AE c (ci (sI ‹_› _) m) (by refine(bp eR)▸?_;exact ci ‹_› m) m z rfl rfl rfl λo a1 v t w r=>aP<|b5 jS<|aR ?_;haveI i:aw [o]=o.news:=by simp [aw]
  have:=E [o] ((a,.list [v])::a1) B a [v] (eP t w trivial) (ct 1) (Nat.le_succ 1) (.cons (r.mono λy D=>N D) .nil) q;rw[i] at this;exact aA (pA<|r_ m _) this
 ·have:=tZ;refine aO (x:=.int 0) (xs:=[.int 1]) .a jS<|AE c (ci (sI ‹_› _) m) (by refine(bp eR)▸?_;exact ci ‹_› m) m z rfl rfl rfl λo a1 v t w r=>aP<|aO (x:=.int 1) (xs:=[]) .a jS<|
   AE c (bN 0x33ec041c001d0601352c041c8c1c001d06d0bd101 z A) (by have:=tZ o;refine(bp eR)▸(bp eR)▸?_;exact bF 0x2c0220101320c041c1001d05d0a01384c041c21001d05d09d0e1 z d this) (by show 1<10;decide) z rfl rfl rfl λp g f L l u=>aP<|b5 jS<|aR ?_
  haveI i:aw [o,p]=o.news++p.news:=by simp [aw]
  have:=E [o,p] ((a,.list [v,f])::(g++a1)) B a [v,f] (EP t w L l trivial) (Nat.le_succ 1) (ct 2) (.cons (r.mono λy D=>N<|cs _ D)<|.cons (u.mono λy D=>N<|ll _ D) .nil) q;haveI e:((a,a0.list [v,f])::(g++a1))++R=(a,a0.list<|[]++[v]++[f])::(g++(a1++R)):=by rw[List.cons_append,lX];rfl
  rw[i,eR,<-Nat.add_assoc,<-lX,e] at this;exact aA (pA<|r_ m _) this
def lF(c:Sy)(b:V)(a:Nat)(k:V)(d:Nat):List<|IK×V:=[(.aH,.str c),(.head,b),(.args,.ref a),(.k,k),(.bJ,.ref d)]
theorem wm{b d:Nat}(l:Lv)(q:∀i,eh g (Tn<|n+1) e l ((i,.inst .gw<|lF aH head b h d)::L) a c<|.v (.ref i) fs):
 J g (Tn<|n+1) e L a (.new .gw::c)<|.v (.ref d)<|.v h<|.v (.ref b)<|.v head<|.v (.str aH)<|.m fs:=
 s6 l λi=>aZ .a [.aq,.aH,.head,.args,.k,.bJ] tC z rfl rfl<|aX .a .head z rfl<|aX .a .head z rfl<|aX .a .head z rfl<|aX .a .head z rfl<|aX .a .head z rfl<|jf<|q i
theorem NO(l:Lv)
 (q:∀g Ms IZ,eh e (Tn<|n+1) b l ((g,.inst .dz<|uF num aH (.ref Ms) (.int<|-1) (.bool false) (.int 0) 0 IZ (.str .empty))::(IZ,.list [])::L) a c<|.v (.ref g) fs):J e (Tn<|n+1) b L a (.new .dz::c)<|.v (.str aH)<|.v num (.m fs):=
 s6 l λg=>aZ .a [.aq,.ax,.aH] tD z rfl rfl<|aX .a .head z rfl<|aX .a .head z rfl<|aW .a λMs=>aX .a (.tail .head) z rfl<|aA aT.tl<|aY .a<|aX .a .head z rfl<|aX .a .head z rfl<|aX .a .head z rfl<|aX .a .head z rfl<|
  aW .a λIZ=>aX .a (.tail .head) z rfl<|aX .a (.tail .head) z rfl<|jf<|aA (aT.mv [] [_] [_])<|q g Ms IZ
inductive La where
 |cU (a b k:Ag)|iff (a:Ag)|dj (a b:Ag)|call (f a b k:Ag)
noncomputable def La.ctorIdx(x:La):Nat:=La.casesOn (motive:=λ_=>Nat) x (λ_ _ _=>0) (λ_=>1) (λ_ _=>2) λ_ _ _ _=>3
def La.ok(c:List Nat):La->Prop
 |.cU a b k=>a.ok c/\b.ok c/\k.ok c
 |.iff a=>a.ok c
 |.dj a b=>a.ok c/\b.ok c
 |.call f a b k=>f.ok c/\a.ok c/\b.ok c/\k.ok c
inductive mJ(R:H):Nat->La->Prop
 |cU {p ag IZ:Nat} {a b k:Ag} (x:(p,.inst .gw<|lF .cU .none ag k.v IZ)∈R) (c:(ag,.list [a.v,b.v])∈R) (d:(IZ,.list [])∈R):mJ R p (.cU a b k)
 |iff {p ag IZ:Nat} {a:Ag} (x:(p,.inst .gw<|lF .SM a.v ag .none IZ)∈R) (c:(ag,.list [])∈R) (d:(IZ,.list [.int 1,.int 2])∈R):mJ R p (.iff a)
 |dj {p ag IZ:Nat} {a b:Ag} (x:(p,.inst .gw<|lF .dj .none ag .none IZ)∈R) (c:(ag,.list [a.v,b.v])∈R) (d:(IZ,.list [.int 3])∈R):mJ R p (.dj a b)
 |call {p ag IZ:Nat} {f a b k:Ag} (x:(p,.inst .gw<|lF .call f.v ag k.v IZ)∈R) (c:(ag,.list [a.v,b.v])∈R) (d:(IZ,.list [])∈R):mJ R p (.call f a b k)
theorem mJ.mono{R a:H}{p:Nat}(r:mJ R p x)(k:∀b∈R,b∈a):mJ a p x:=by
 cases r with
 |cU x b z=>exact .cU (k _ x) (k _ b)<|k _ z
 |iff x b z=>exact .iff (k _ x) (k _ b)<|k _ z
 |dj x b z=>exact .dj (k _ x) (k _ b)<|k _ z
 |call x b z=>exact .call (k _ x) (k _ b)<|k _ z
structure s7 where
 ps:List Nat
 os:List Op
 la:La
inductive Ec(R:H)(num:Nat)(B:Nat)(x:s7):Prop
 |mk (pa:_) (ob:_) (la:_) (ov:_) (w0:(B,.inst .hJ<|PM (.int num) pa ob<|.ref la)∈R) (w1:(pa,.list<|G x.ps)∈R) (w2:(ob,.list ov)∈R) (w3:vX R ov x.os) (w4:mJ R la x.la)
theorem Ec.mono{R f:H}{num B:Nat}{x:s7}(r:Ec R num B x)(k:∀n∈R,n∈f):Ec f num B x:=by obtain⟨j,h,g,i,a,b,c,d,e⟩:=r;exact⟨j,h,g,i,k _ a,k _ b,k _ c,d.mono k,e.mono k⟩
structure Un where
 aD:Bool
 np:Nat
 rest:Bool
 takes:Bool
 az:Nat
 mO:List s7
noncomputable def Un.ah(U:Un):Nat:=U.np+U.rest.toNat
inductive zu(s:Nat):List s7->Nat->Prop
 |one {b0:s7} {e:Nat} (p0:b0.ps=[]) (o0:ic (List.range s) s b0.os) (l0:∃a b k,b0.la=.cU a b k) (q0:b0.la.ok<|List.range s++aw b0.os) (he:e=s+(aw b0.os).length):zu s [b0] e
 |four {b0 b1 b2 b3:s7} {e:Nat} (p0:b0.ps=[]) (p1:b1.ps=[]) (p2:b2.ps=[]) (o0:ic (List.range s) s b0.os) (l0:∃a,b0.la=.iff a) (q0:b0.la.ok<|List.range s++aw b0.os)
  (o1:ic (List.range s++aw b0.os) (s+(aw b0.os).length) b1.os) (l1:∃a b,b1.la=.dj a b) (q1:b1.la.ok<|List.range s++aw b0.os++aw b1.os) (o2:ic (List.range s++aw b0.os) (s+(aw b0.os).length+(aw b1.os).length) b2.os) (l2:∃a b,b2.la=.dj a b) (q2:b2.la.ok<|List.range s++aw b0.os++aw b2.os)
  (p3:b3.ps=[s+(aw b0.os).length+(aw b1.os).length+(aw b2.os).length,s+(aw b0.os).length+(aw b1.os).length+(aw b2.os).length+1]) (o3:ic (List.range s++aw b0.os++[s+(aw b0.os).length+(aw b1.os).length+(aw b2.os).length,s+(aw b0.os).length+(aw b1.os).length+(aw b2.os).length+1]) (s+(aw b0.os).length+(aw b1.os).length+(aw b2.os).length+2) b3.os) (l3:∃f a b k,b3.la=.call f a b k) (q3:b3.la.ok<|List.range s++aw b0.os++[s+(aw b0.os).length+(aw b1.os).length+(aw b2.os).length,s+(aw b0.os).length+(aw b1.os).length+(aw b2.os).length+1]++aw b3.os) (he:e=s+(aw b0.os).length+(aw b1.os).length+(aw b2.os).length+2+(aw b3.os).length):zu s [b0,b1,b2,b3] e
structure Un.Ok(a:Un):Prop where
 np:1<=a.np/\a.np<=3
 dia:zu a.ah a.mO a.az
 small:∀b∈a.mO,1<=b.os.length/\b.os.length<=2
 one:¬(a.rest/\a.takes)
def pB{c d:Type}(P:Nat->c->d->Prop)(i:Nat)(e:List c)(f:List d):Prop:=match f with
 |[]=>(match e with
  |[]=>True
  |_::_=>False)
 |b::f=>(match e with
  |[]=>False
  |a::e=>P i a b/\pB P (i+1) e f)
theorem pB.un{P:Nat->c->j->Prop}(h:pB P i e<|b::g):∃a f,e=a::f/\P i a b/\pB P (i+1) f g:=by
 induction e using da with
 |nil=>exact h.elim
 |cons a e=>exact(fJ a e z h)
theorem pB.no{P:Nat->b->c->Prop}(h:pB P i e []):e=[]:=by
 induction e using da with
 |nil=>rfl
 |cons a e=>exact h.elim
theorem pB.mono{P g:Nat->c->n->Prop}(k:∀i a b,P i a b->g i a b):∀{i:Nat}{e:List c},pB P i e r->pB g i e r:=by
 induction r with
 |nil=>
  intro i e h;induction e using da with
  |nil=>exact trivial
  |cons=>exact h.elim
 |cons b r j=>
  intro i e h;induction e using da with
  |nil=>exact h
  |cons a e=>exact⟨k _ _ _ h.1,j h.2⟩
theorem pB.at{P:Nat->n->g->Prop}:∀{k:Nat}{f:List n}{i:Nat}{b:g},pB P k f j->j[i]?=some b->∃a,f[i]?=some a/\P (k+i) a b:=by
 induction j with
 |nil=>intro k f i b _ e;rw[List.getElem?_nil] at e;cases e
 |cons y j l=>
  intro k f i b h e;induction f using da with
  |nil=>exact h.elim
  |cons a f=>
   induction i using wQ with
   |zero=>exact(a_ a z<|me e▸h.1)
   |succ i=>refine bS (l h.2 e) λc d m=>?_;exact(a_ c d<|by rw[show k+(i+1)=k+1+i by rw[Nat.add_assoc,Nat.add_comm 1]];exact m)
abbrev zv(R:H):Nat->List Nat->List s7->Prop:=pB<|Ec R
noncomputable def Un.oz(U:Un):V:=if U.rest then .int U.np else .int<|-1
inductive uW(R:H)(u:Nat)(num:Nat)(a:Un):Prop
 |mk (Ms:_) (IZ:_) (Ix:_) (w0:(u,.inst .dz<|uF (.int num) (if a.aD then .aD else .cont) (.ref Ms) a.oz (.bool a.takes) (.int 2) a.az IZ<|.str .iO)∈R) (w1:(Ms,.list<|G<|List.range a.np)∈R) (w2:(IZ,.list<|Ix.map V.ref)∈R) (w3:zv R 0 Ix a.mO)
theorem NP{Q:dC}{d l u k:Nat}{K:List Int}{F:H}{b:Nat}{t:List (IK×V)}{P B s r:Nat}{j:List V}{i:List Nat}{num:V}{R:H}
 (p:K.length<=60)(y:b<860)(o:i.length<1000)(S:e .b_=some (.ref d))(W:e .bO=some (.ref u))(X:e .bT=some (.ref k))(w:e .first=some (.ref B))
 (I:∀(x:La)(h:Nat) L,(∃a b k,x=.cU a b k)->x.ok i->mJ L h x->(B,.inst .hJ<|PM num s r (.ref h))∈L->(∀T∈(u,.inst .dz t)::(P,.list j)::R,T∈L)->U (dN F d l K<|b+6) L (Q<|.ref u)):
 J (dN F d l K b) (Tn<|n+4) (Rt Q) ((k,.list<|G i)::(u,.inst .dz t)::(P,.list j)::(B,.inst .hJ<|PM num s r .none)::R) e (.ss (.cons (.d_ .args (U3 [(.fO,.e9),(.jt,.e9),(.dI,.bK),(.b_,.iH),(.bT,.iH)]))
  (.cons (.ar (.ai .first) .last<|.new .gw<|.cons (.hD<|.str .cU)<|.cons (.hD .none)<|.cons (.ai .args)<|.cons (.call .dI<|.cons (.ai .b_)<|.cons (.ai .bT) Es.nil)<|.cons (.ay .bb Es.nil) Es.nil)
  (.cons (.ret<|.ai .bO) Ss.nil)))::c) .b:=by
 refine fe .b_ S<|fe .bO W<|fe .bT X<|fe .first w<|aY .a<|AD .a p (ci ‹_› m) q o z rfl λg O a A C=>M .a<|qR p (ci (sI ‹_› _) m) (N q) o λv f=>aW .a λD=>wm .a λh=>aX .a (.tail<|.tail<|.tail<|.tail<|.tail<|.tail .head) z rfl<|aR<|I (.cU g O v) h _ (MC _ _ _ z) (eP A C f) (.cU q (N<|N q)<|N q) (by walk_at "mem") λT E=>?_
 rcases ew.mp E with rfl|E
 ·walk_at "mem"
 refine db (ew.mp E) ?_ ?_;·rintro rfl;walk_at "mem"
 ·intro E;iterate 7 refine N ?_
  exact E
theorem aT.pick{Z:aT}{A X R:H}{u c B a k:Nat×a0}(b:Z.C h<|A++u::c::B::(X++a::k::R)):Z.C h<|k::u::c::(A++B::(X++a::R)):=by
 refine Z.perm b ?_;haveI d:A++u::c::B::(X++a::k::R)=(A++u::c::B::(X++[a]))++k::R:=by simp
 haveI e:(A++u::c::B::(X++[a]))++R=A++([u,c]++B::(X++a::R)):=by simp
 rw[d];refine List.perm_middle.trans<|.cons k ?_;rw[e];exact List.perm_append_comm_assoc A [u,c] _
theorem zx{d f:Nat}{R:H}
 (r:(f,.list [])∈R)(p:xs.length<=60)(m:b<830)(o:h.length<800)(j:e.length<10)
 (q:∀(os:List Op)(Y:H)(B a:Nat)(c:List V),ic h s os->1<=os.length->os.length<=2->vX Y c os->(a,.list c)∈Y->
  U (dN L a1 a3 xs<|b+17) ((a2,.list<|G<|h++aw os)::(a5,.inst .dz<|uF num aH a6 rest A g (s+(aw os).length) d a4)::(d,.list<|e++[.ref B])::(B,.inst .hJ<|PM (.int e.length) f a .none)::(Y++R)) (T<|.ref B)):
 U (dN L a1 a3 xs b) ((a2,.list<|G h)::(a5,.inst .dz<|uF num aH a6 rest A g s d a4)::(d,.list e)::R)<|Tn (n+4) .iu [.ref a1,.ref a5,.ref a2,.ref f] T:=
 Cg (ps:=[]) r p m o j λos Y B a c i v w x y=>by rw[j0] at i⊢;exact q os Y B a c i v w x y
theorem Ks{n:Nat}{K:Kk}{c:List I}{e:aV}{d l u k s:Nat}{xs:List Int}{F:H}{b:Nat}{num w rest a5 f v:V}{aH:Sy}{bl:Nat}{i:List V}{h:List Nat}{R:H}
 (o:xs.length<=60)(S:b<820)(t:h.length<700)(A:i.length<10)(e1:e .b_=some (.ref d))(e2:e .bO=some (.ref u))(e3:e .bT=some (.ref k))
 (a3:∀(os:List Op)(x:La)(B:Nat) j r,ic h s os->1<=os.length->os.length<=2->(∃a b,x=.dj a b)->x.ok (h++aw os)->Ec j i.length B ⟨[],os,x⟩->(∀a4∈R,a4∈j)->(∀a4,a4≠.own->a4≠.ab->r a4=e a4)->
  J (dN F d l xs<|b+21) (Tn<|n+5) K ((k,.list<|G h)::(u,.inst .dz<|uF num aH w rest a5 f (s+(aw os).length) bl v)::(bl,.list<|i++[.ref B])::j) r c .b):
 J (dN F d l xs b) (Tn<|n+5) K ((k,.list<|G h)::(u,.inst .dz<|uF num aH w rest a5 f s bl v)::(bl,.list i)::R) e (.e (.ai .bT)::.es .nil::.p .dR::.asg .own::.ss (.cons (.d_ .ab<|.call .iu<|.cons (.ai .b_)<|.cons (.ai .bO)<|.cons (.ai .own)<|.cons (.ay .bb Es.nil) Es.nil)
 (.cons (.ar (.ai .ab) .last<|.new .gw<|.cons (.hD<|.str .dj)<|.cons (.hD .none)<|.cons (.ay .bb<|.cons (.call .dI<|.cons (.ai .b_)<|.cons (.ai .own) Es.nil)<|.cons (.call .dI<|.cons (.ai .b_)<|.cons (.ai .own) Es.nil) Es.nil)<|.cons (.hD .none)<|.cons (.ay .bb<|.cons (.hD<|.int 3) Es.nil) Es.nil) Ss.nil))::c)<|.m .b:=by
 refine y .a e3<|mG .v q λown=>y .v e1<|y .v e2<|y .a z<|aW .a λZ=>aA (λE=>aT.mv [] [_] [_,_,_]<|aT.mv [_,_] [_] [_,_] E)<|M .v<|
  zx (by walk_at "mem") o (ci ‹_› m) (ci ‹_› m) A λos X B W Y O Q p T U=>y .v e1<|y .a z<|M .v<|qR o (ci (sI ‹_› _) m) q (by have:=gr p;refine(bp eR)▸?_;exact aG 0x4c02101012bcc041c001d06013e8c041c1001d05d0a1 z t this) λg P=>y .v e1<|y .a z<|M .a<|
  qR o (bN 0x334c041c001d060137ac041c2c11c001d07d0cd111 z S) q (by have:=gr p;refine(bp eR)▸?_;exact aG 0x4c02101012bcc041c001d06013e8c041c1001d05d0a1 z t this) λD L=>aW .a λag=>aW .a λC=>wm .a λa1=>?_
 refine aX .o (.tail<|.tail<|.tail<|.tail<|.tail<|.tail .head) z rfl<|aA (aT.pick (A:=[_,_,_,_])) ?_;refine a3 os (.dj g D) B _ _ O Q p (H3 _ _ z) ⟨P,L⟩ ⟨Z,W,a1,Y,by walk_at "mem",?_,?_,T.mono λa4 a2=>?_,.dj q (by walk_at "mem")<|by walk_at "mem"⟩ (λa4 a2=>?_) λa4 n1 n2=>(if_neg n2).trans<|if_neg n1;·exact cs [_,_,_,_,_]<|cs X q
 ·exact cs [_,_,_,_,_]<|ll _ U
 ·exact cs [_,_,_,_,_]<|ll _ a2
 ·exact cs [_,_,_,_,_]<|cs X<|N a2
theorem Fj{d l u k s:Nat}{F:H}{b:Nat}{num rest f a4:V}{aH:Sy}{bl pl:Nat}{w:Int}{R:H}
 (h:xs.length<=60)(v:b<700)(hs:s<10)(e1:a .b_=some (.ref d))(e2:a .bO=some (.ref u))(e3:a .bT=some (.ref k))(e4:a .way=some (.int w))
 (a2:∀(x:List s7)(e:Nat) Ix c,zu s x e->(∀b∈x,1<=b.os.length/\b.os.length<=2)->(u,.inst .dz<|uF num aH (.ref pl) rest (.bool<|decide (w=2)) f e bl a4)∈c->
  (bl,.list<|Ix.map V.ref)∈c->zv c 0 Ix x->(∀a3∈R,a3∈c)->U (dN F d l xs<|b+100) c (a1<|.ref u)):
 J (dN F d l xs b) (Tn<|n+5) (Rt a1) ((k,.list<|G<|List.range s)::(u,.inst .dz<|uF num aH (.ref pl) rest (.bool false) f s bl a4)::(bl,.list [])::R) a [.ss<|Ss.dr 5 sy] .b:=by
 haveI sr:=List.length_range (n:=s);refine fe .b_ e1<|fe .bO e2<|fe .bT e3<|fe .way e4<|aY .e<|zq .a<|aX (q:=uF num aH (.ref pl) rest (.bool<|cZ (.int w)<|.int 2) f s bl a4) .a (.tail .head) z rfl<|aW .a λpa=>aA (aT.mv [] [_] [_,_,_])<|M .a<|
  zx (by walk_at "mem") h (ci ‹_› m) (aG 0x10100111ac021c101d0601320c041c001d061 z hs sr) m λos X B ob ov o1 o2 Z o4 o5=>M .e<|dZ h (ci (sI ‹_› _) m) m m λj _ _=>?_
 haveI hn:=gr Z;have hl:(List.range s++aw os).length<100:=by rw[eR];exact bF 0x4c021010120100111ac021c201d060164c031c1001d05d0a1 z hs sr hn
 refine nh .b .a (λ_=>XZ z<|NP h (bN 0x2bcc041c001d060135cc041c1c11c001d07d0cd111 z v) (ci ‹_› m) z rfl rfl rfl λx O c x1 x2 r A i=>aA (pA<|r_ m _)<|a2 [⟨[],os,x⟩] _ [B] c (.one z o1 x1 x2 z) (λb S=>(by rcases eL.mp S with rfl;exact⟨o2,Z⟩)) (i _ q) (i _<|N q) ⟨⟨pa,ob,O,ov,A,?_,?_,o4.mono λa3 S=>?_,r⟩,trivial⟩ λa3 S=>?_) λ_=>?_;·exact i _<|N<|N<|cs _ q
 ·exact i _<|N<|N<|ll _ o5
 ·exact i _<|N<|N<|ll _ S
 ·exact i _<|N<|N<|cs _<|N S
 refine M .a<|qR h (bN 0x2bcc041c001d060137ac041c1c11c001d07d0cd111 z v) q (ci ‹_› m) λg g0=>aW .a λag=>aW .a λZD=>wm .a λO=>aX .a (.tail<|.tail<|.tail<|.tail<|.tail<|.tail .head) z rfl<|wk .z m m<|aA (aT.mv02_3 (X:=[_,_,_]))<|
  aO (x:=.int 0) (xs:=[.int 1]) .v jS<|Ks h (bN 0x2bcc041c001d0601334c041c2c1c11c001d07d0cd11d161 z v) (ci ‹_› m) (by show 1<10;decide) z rfl rfl λo X8 U4 L₁ P p1 p2 p3 p4 p5 p6 p7 C=>aP ?_
 haveI ZE:=gr p3;haveI f1:P .b_=some (.ref d):=C _ m m;haveI f2:P .bO=some (.ref u):=C _ m m;haveI f3:P .bT=some (.ref k):=C _ m m;refine aO (x:=.int 1) (xs:=[]) .v jS<|Ks h (bN 0x2bcc041c001d0601334c041c15c2c1c11c001d07d0cd11d17d1c1 z v) (ci ‹_› m) (by show 2<10;decide) f1 f2 f3 λp RD U5 X9 cY q1 q2 q3 q4 q5 q6 q7 y=>aP<|b5 jS<|
  fe .b_ ((y _ m m).trans f1)<|fe .bO ((y _ m m).trans f2)<|fe .bT ((y _ m m).trans f3)<|aY .a ?_
 haveI ZF:=gr q3;refine aW .a λaah=>M .a<|AB z rfl rfl (.tail<|.tail .head) .head (by walk_at "mem") (by walk_at "mem") m<|aW .a λKt=>M .a<|AB z rfl rfl (.tail<|.tail<|.tail .head) .head (by walk_at "mem") (by walk_at "mem") m<|aW .a λD=>?_;refine aA (aT.mv02_3 (X:=[_,_,_]))<|M .a<|Cg (ps:=[s+(aw os).length+(aw o).length+(aw p).length,s+(aw os).length+(aw o).length+(aw p).length+1]) (ks:=List.range s++aw os) (s:=s+(aw os).length+(aw o).length+(aw p).length+2)
  (num:=num) (aH:=aH) (pr:=.ref pl) (rest:=rest) (ta:=.bool<|cZ (.int w)<|.int 2) (cap:=f) (nm:=a4) q h (bN 0x2bcc041c001d060133ec041c15c15c2c1c11c001d07d0cd11d17d1dd221 z v) (by show _+2<800;exact ci (sI ‹_› _) m) (by show 3<10;decide) λE Y I PN U6 r1 r2 r3 r4 r5=>?_
 have K:(List.range s++aw os++[s+(aw os).length+(aw o).length+(aw p).length,s+(aw os).length+(aw o).length+(aw p).length+1]++aw E).length<1000:=by haveI U7:=gr r3;rw[eR,eR];exact aG 0x4c021010164c031c001d06013e8c041c12c001d06d0ad0f1 z hl U7
 refine AD .a h (by lia) q K z rfl λqT nQ ZG v1 v2=>M .a<|qR h (by lia) (N q) K λAG v3=>M .a<|qR h (by lia) (N q) K λU8 v4=>aW .a λZH=>wm .a λL=>aX .a (.tail<|.tail<|.tail<|.tail<|.tail<|.tail .head) z rfl<|aR ?_;have key:∀c,(u,.inst .dz<|uF num aH (.ref pl) rest (.bool<|decide (w=2)) f (s+(aw os).length+(aw o).length+(aw p).length+2+(aw E).length) bl a4)∈c->
  (bl,.list<|[B,U4,U5,I].map V.ref)∈c->(I,.inst .hJ<|PM (.int 3) D PN<|.ref L)∈c->mJ c L (.call AG qT nQ U8)->(∀a3∈Y,a3∈c)->(D,.list<|G [s+(aw os).length+(aw o).length+(aw p).length,s+(aw os).length+(aw o).length+(aw p).length+1])∈c->
  (∀a3∈X9,a3∈c)->U (dN F d l xs<|b+100) c (a1<|.ref u):=λc mu T mB Q mX W i=>by
  haveI A:=λa3 S=>i a3<|q7 a3 S;haveI t:=λa3 S=>A a3<|p7 a3 S;refine a2 [⟨[],os,.iff g⟩,⟨[],o,X8⟩,⟨[],p,RD⟩,⟨_,E,.call AG qT nQ U8⟩] _ [B,U4,U5,I] c (.four z rfl rfl o1 ⟨_,z⟩ g0 p1 p4 p5 q1 q4 q5 z r1 ⟨_,_,_,_,z⟩ (hV v3 v1 v2 v4) z) ?_ mu T
   (EP ⟨pa,ob,O,ov,t _ ?_,t _ ?_,t _ ?_,o4.mono λa3 S=>t _ ?_,.iff (t _ q) (t _<|N<|N q)<|t _<|N q⟩ (p6.mono A) (q6.mono i) ⟨D,PN,L,U6,mB,W,mX _ r5,r4.mono mX,Q⟩ trivial) λa3 S=>t _ ?_
  ·intro b S;simp only[ew,i3,or_false] at S;rcases S with rfl|rfl|rfl|rfl
   ·exact⟨o2,Z⟩
   ·exact⟨p2,p3⟩
   ·exact⟨q2,q3⟩
   ·exact⟨r2,r3⟩
  ·exact N<|N<|N q
  ·exact N<|N<|N<|N<|cs X q
  ·exact N<|N<|N<|N<|ll _ o5
  ·exact N<|N<|N<|N<|ll _ S
  ·exact N<|N<|N<|N<|cs X<|N S
 exact aA (pA<|r_ m _)<|key _ (N<|N<|N<|N q) (N<|N<|N<|N<|N q) (N<|N<|N<|N<|N<|N q)
  (.call q (N<|N q)<|N q) (λa3 S=>N<|N<|N<|N<|N<|N<|N<|ll _ S)
  (N<|N<|N<|N<|N<|N<|N<|cs Y q) λa3 S=>N<|N<|N<|N<|N<|N<|N<|cs Y<|N<|N<|N S
theorem G8(f:Lv){l:Nat}{R:H}
 (h:0<=j)(i:j<3)(d:e .bO=some (.ref T))(k:e .bT=some (.ref x))
 (q:∀L a,1<=L->L<=3->eh (dN r w A xs b) (Tn<|n+1) s f ((a,.list<|G<|List.range L)::(x,.list<|G<|List.range L)::(T,.inst .dz<|uF num aH pr rest ta Y L l nm)::R) e c (.v (.ref a) fs)):
 J (dN r w A xs b) (Tn<|n+1) s ((x,.list<|G [])::(T,.inst .dz<|uF num aH pr rest ta Y 0 l nm)::R) e (.cp (.call .dJ<|.cons (.ai .bO)<|.cons (.ai .bT) Es.nil) (.one .jt) .range .tt::c)<|.v (.int<|1+j)<|.m fs:=by
 refine AA f (by lia) (by lia) ?_;haveI g:j=0\/j=1\/j=2:=by lia
 clear h i;rcases g with rfl|rfl|rfl
 ·exact cJ (x:=.int 0) (xs:=[]) .v jS<|y .v d<|y .a k<|M .a<|iD (X:=[]) m<|cF<|gB jS<|dF λa=>q 1 a m m
 ·exact cJ (x:=.int 0) (xs:=[.int 1]) .v jS<|y .v d<|y .a k<|M .a<|iD (X:=[]) m<|cF<|cJ (x:=.int 1) (xs:=[]) .v jS<|y .v d<|y .a k<|M .a<|iD (X:=[]) m<|cF<|gB jS<|dF λa=>q 2 a m m
 ·exact cJ (x:=.int 0) (xs:=[.int 1,.int 2]) .v jS<|y .v d<|y .a k<|M .a<|iD (X:=[]) m<|cF<|cJ (x:=.int 1) (xs:=[.int 2]) .v jS<|y .v d<|y .a k<|M .a<|iD (X:=[]) m<|cF<|
   cJ (x:=.int 2) (xs:=[]) .v jS<|y .v d<|y .a k<|M .a<|iD (X:=[]) m<|cF<|gB jS<|dF λa=>q 3 a m m
theorem NQ(l:Lv){n:Nat}{Z:aT}{K:Kk}{L:H}{a:aV}{c:List I}{d:Fr}{b:Bool}(k:∀e:Bool,eh Z (Tn n) K l L a c<|.v (.str (if e then .aD else .cont)) d):J Z (Tn n) K L a (.it (.hD<|.str .aD) (.hD<|.str .cont)::c)<|.v (.bool b) d:=by
 induction b using ff;·exact NM .o z<|aS<|aJ<|k false
 ·exact Ce .o z<|aS<|aJ<|k true
theorem RG(l:Lv)(m:b x=some (.ref a))(p:aE n a4 Y=a3)(t:aE g i a3=F2)(u:i6 A n)(v:i6 A g)
 (w:At a (.inst A Y) (.inst A a3) L r)(y:At a (.inst A a3) (.inst A F2) r a5)(k:eh a2 T a1 l a5 b c fs):J a2 T a1 L b (.Rp (.ai x) n (.ai x) g::c)<|.v (.aF [a4,i]) fs:=
 ⟨λh H=>⟨a4,i,z,_,m,uQ (G:=λs=>gg T (.ai x) (λo s=>∃a j,h6 o g i s.h=some (a,j)/\io T a1 c fs ⟨s.ρ,h9 s.h a j⟩) s) H p u w λd q=>(a_ _ m<|uQ (G:=λs=>io T a1 c fs s) q t v y λf e=>(aJ k).at_ f e)⟩⟩
theorem NR{Q:dC}{d l i:Nat}{B:List Int}{F:H}{b:Nat}{R:H}(c:B.length<=60)(s:b<600)
 (E:∀(T:Un) Y a,T.Ok->uW a Y i T->(∀a1∈R,a1∈a)->U (dN F d l B<|b+110) a (Q<|.ref Y)):U (dN F d l B b) R<|Tn (n+6) .qq [.ref d,.int i] Q:=by
 refine aZ .a [.b_,.ax] sy z rfl rfl<|M .e<|dZ c (ci ‹_› m) m m λj _ _=>zq .b<|NQ .a λy=>NO .a λY C O=>aW .a λk=>?_;refine RG (F2:=uF (.int i) (if y then .aD else .cont) (.ref C) (.int<|-1) (.bool false) (.int 2) 0 O<|.str .iO) .a z rfl rfl rfl rfl (.tail .head) (.tail .head)<|M .a<|dZ c (ci (sI ‹_› _) m) m m λj u J=>G8 .a (num:=.int i) (aH:=if y then .aD else .cont) (pr:=.ref C) (rest:=.int<|-1) (ta:=.bool false) (Y:=.int 2) (nm:=.str .iO) (l:=O) u J z rfl λp P G g=>?_;refine aX (q:=uF (.int i) (if y then .aD else .cont) (.ref P) (.int<|-1) (.bool false) (.int 2) p O<|.str .iO) .a (.tail<|.tail .head) z rfl<|aA (aT.mv02_3 (X:=[_]))<|M .e<|dZ c (bN 0x258c041c001d0601384c041c1c1c001d06d0bd101 z s) m m λw K L=>?_;refine nh .b .b (λe=>Cc .a z ?_) λe=>Cd z<|aY .o ?_;·refine M .a<|iD (X:=[]) (num:=.int i) (g:=if y then .aD else .cont) (k:=.ref P) (f:=.int<|-1) (l:=.bool false) (h:=.int 2) (j:=.str .iO) (i:=O) (List.length_range▸bN 0x3c02001013e8c041c001d061 z g)<|?_;refine aX (q:=uF (.int i) (if y then .aD else .cont) (.ref P) (.int p) (.bool false) (.int 2) (p+1) O<|.str .iO) .o (.tail .head) z rfl ?_;refine List.range_succ▸?_;refine Fj (w:=w) c (bN 0x258c041c001d06012bcc041c1c1c1c001d06d0bd10d151 z s) (bN 0x3c0200101ac021c1c001d06d0b1 z g) z rfl rfl rfl λx r S a h o I v A f=>aA (pA<|r_ m _)<|E ⟨y,p,true,decide (w=2),r,x⟩ Y a ⟨⟨G,g⟩,h,o,λt=>?_⟩ ⟨P,O,S,I,f _ q,v,A⟩ λa1 D=>f a1<|N D;have:=of_decide_eq_true t.2;lia
 ·exact Fj (w:=w) c (bN 0x258c041c001d06012bcc041c1c1c1c001d06d0bd10d151 z s) (bN 0x3c0200101ac021c001d061 z g) z rfl rfl rfl λx r S a h o I v A f=>aA (pA<|r_ m _)<|E ⟨y,p,false,decide (w=2),r,x⟩ Y a ⟨⟨G,g⟩,h,o,λt=>Kv t.1⟩ ⟨P,O,S,I,f _ q,v,A⟩ λa1 D=>f a1<|N D
abbrev Env:=Nat->Option V
noncomputable def Env.put(e:Env)(r:Nat)(v:V):Env:=λx=>if x=r then some v else e x
mutual
noncomputable def xq:V->D
 |.none=>.none
 |.bool b=>.bool b
 |.int i=>.int i
 |.str s=>.str s
 |.aF a=>.aF<|xQ a
 |.ref _=>.none
noncomputable def xQ:List V->List D
 |[]=>[]
 |v::a=>xq v::xQ a
end
inductive cL where
 |cst (r k:Nat)|Fm (r k:Nat)|iH (r:Nat) (n:Int)|zy (r s:Nat)|set (w:Sy) (k s:Nat)|yK (r:Nat) (n:Int) (ss:List Nat)|A5 (r:Nat) (n:Int) (ss:List Nat)|fix (rows:List<|Nat×Int×List Nat)
noncomputable def cL.ctorIdx(x:cL):Nat:=cL.casesOn (motive:=λ_=>Nat) x (λ_ _=>0) (λ_ _=>1) (λ_ _=>2) (λ_ _=>3) (λ_ _ _=>4) (λ_ _ _=>5) (λ_ _ _=>6) λ_=>7
def cV(s:Sy):V:=.aF [.str .hD,.str s]
def fV(i:Int):V:=.aF [.str .free,.int i]
def gV(g:Int):V:=.aF [.str .global,.int g]
def bI(k:Nat)(n:Int):V:=.aF [.str .made,.int k,.int n]
def yL(k:Nat):V:=.aF [.str .result,.int k]
def vG(n:Int)(a:List V):V:=.aF<|[.str .bt,.int n]++a
def Ky(w:Sy)(g:Int)(v:V):D:=.aF [.str w,.int g,xq v]
def xR(n:Int)(a:List V):D:=.aF [.str .ay,.int n,.list<|xQ a]
def Ci(a:List<|List V):D:=.aF [.str .fix,.list<|a.map λb=>.list<|xQ b]
noncomputable def cu(e:Env):List Nat->Option (List V)
 |[]=>some []
 |r::a=>(e r).bind λv=>(cu e a).map (v:: ·)
def Ef{a:Type}(t:Nat):List (Nat×Int×a)->Env->Env
 |[],e=>e
 |x::b,e=>Ef t b<|e.put x.1<|bI t x.2.1
def Kz(e:Env):List (Nat×Int×List Nat)->Option (List<|List V)
 |[]=>some []
 |x::a=>(cu e x.2.2).bind λv=>(Kz e a).map (v:: ·)
abbrev AH:=Env×List D
def oC(C:List V)(G:List Int):cL->AH->Option AH
 |.cst r k,s=>(C[k]?).bind λd=>(ec d).map λy=>(s.1.put r<|cV y,s.2)
 |.Fm r k,s=>(G[k]?).map λg=>(s.1.put r<|gV g,s.2)
 |.iH r n,s=>some (s.1.put r<|fV n,s.2)
 |.zy r q,s=>(s.1 q).map λv=>(s.1.put r v,s.2)
 |.set w k q,s=>(G[k]?).bind λg=>(s.1 q).map λv=>(s.1,s.2++[Ky w g v])
 |.yK r n a,s=>(cu s.1 a).map λb=>(s.1.put r<|yL s.2.length,s.2++[xR n b])
 |.A5 r n a,s=>(cu s.1 a).map λb=>(s.1.put r<|vG n b,s.2)
 |.fix e,s=>(Kz (Ef s.2.length e s.1) e).map λc=>(Ef s.2.length e s.1,s.2++[Ci c])
def fX(C:List V)(G:List Int):List cL->AH->Option AH
 |[],s=>some s
 |o::a,s=>(oC C G o s).bind<|fX C G a
theorem s8(C:List V)(G:List Int):∀(a b:List cL)(s:AH),fX C G (a++b) s=(fX C G a s).bind (fX C G b):=λc=>by
 induction c with
 |nil=>intro _ _;exact z
 |cons o a d=>
  intro b s;show(oC C G o s).bind _=((oC C G o s).bind _).bind _;cases oC C G o s with
  |none=>rfl
  |some x=>exact d b x
def dU(e:Env):Ag->Option V
 |.hD d=>(ec d).map cV
 |.free i=>some<|fV i
 |.bL s=>e s
def t8:Op->AH->Option AH
 |.hD s d,x=>(ec d).map λy=>(x.1.put s<|cV y,x.2)
 |.fS s g,x=>some (x.1.put s<|gV g,x.2)
 |.set w g a,x=>(dU x.1 a).map λv=>(x.1,x.2++[Ky w g v])
 |.bt s n a b,x=>(dU x.1 a).bind λv=>(dU x.1 b).map λw=>(x.1.put s<|vG n [v,w],x.2)
 |.fix p q a,x=>(dU ((x.1.put p<|bI x.2.length 1).put q<|bI x.2.length 2) a).bind λv=>(((x.1.put p<|bI x.2.length 1).put q<|bI x.2.length 2) q).bind λe=>(((x.1.put p<|bI x.2.length 1).put q<|bI x.2.length 2) p).map λc=>((x.1.put p<|bI x.2.length 1).put q<|bI x.2.length 2,x.2++[Ci [[e,v],[c]]])
 |.ay s n a b,x=>(dU x.1 a).bind λv=>(dU x.1 b).map λw=>((match s with|some s=>x.1.put s (yL x.2.length)|none=>x.1),x.2++[xR n [v,w]])
def gT:List Op->AH->Option AH
 |[],s=>some s
 |o::a,s=>(t8 o s).bind<|gT a
theorem Eg:∀(a b:List Op)(s:AH),gT (a++b) s=(gT a s).bind (gT b):=λc=>by
 induction c with
 |nil=>intro _ _;exact z
 |cons o a d=>
  intro b s;show(t8 o s).bind _=((t8 o s).bind _).bind _;cases t8 o s with
  |none=>rfl
  |some x=>exact d b x
noncomputable def cL.writes:cL->List Nat
 |.cst r _|.Fm r _|.iH r _|.zy r _|.yK r _ _|.A5 r _ _=>[r]
 |.set .. =>[]
 |.fix a=>a.map (·.1)
noncomputable def cL.reads:cL->List Nat
 |.zy _ s|.set _ _ s=>[s]
 |.yK _ _ a|.A5 _ _ a=>a
 |.fix b=>b.flatMap λx=>x.2.2.filter λr=> !((b.map (·.1)).contains r)
 |_=>[]
def cL.bu:cL->List Nat
 |.fix a=>a.flatMap λx=>x.1::x.2.2
 |b=>b.writes++b.reads
def cL.nice:cL->Prop
 |.yK _ _ c|.A5 _ _ c=>∃a b,c=[a,b]
 |.fix d=>∃p q a,d=[(p,1,[q,a]),(q,2,[p])]
 |.zy .. =>False
 |.set w _ _=>w=.jw\/w=.eN
 |_=>True
def t9(f:List cL):List Nat:=f.flatMap cL.writes
noncomputable def Ag.sl:Ag->List Nat
 |.bL s=>[s]
 |_=>[]
noncomputable def Op.sl:Op->List Nat
 |.set _ _ a|.fix _ _ a=>a.sl
 |.bt _ _ a b|.ay _ _ a b=>a.sl++b.sl
 |_=>[]
def G9(j:List Op):List Nat:=j.flatMap Op.sl
def Le(S:Nat)(a e:Env):Prop:=∀s<S,∀v,a s=some v->e s=some v
structure j9(S:Nat)(C:List V)(a:List Int)(j:List Op)(f:List cL)(F:List<|Int×Nat)(K:cK)(P:List<|Ag×Nat)(n:Nat):Prop where
 le:S<=n
 fb:∀x∈F,S<=x.2/\x.2<n
 kb:∀x∈K,S<=x.2/\x.2<n
 pb:∀x∈P,x.2<n/\(x.1=.bL x.2\/S<=x.2/\∀s,x.1≠.bL s)
 rb:∀o∈f,o.nice/\∀r∈o.bu,r<n
 gv:∀o∈f,∀r∈o.bu,r∈t9 f\/r∈G9 j
 nw:∀s∈aw j,s∈t9 f
 fw:∀x∈F,x.2∈t9 f
 kw:∀x∈K,x.2∈t9 f
 pw:∀x∈P,x.2∈t9 f\/x.1=.bL x.2
 run:∀Cf Gf,C<+:Cf->a<+:Gf->∀s s',gT j s=some s'->∀e,Le S s.1 e->∃e',fX Cf Gf f (e,s.2)=some (e',s'.2)/\Le S s'.1 e'/\(∀x∈F,e' x.2=some (fV x.1))/\
  (∀x∈K,∃d b,Cf[x.1]?=some d/\ec d=some b/\e' x.2=some (cV b))/\∀x∈P,∀v,dU s'.1 x.1=some v->e' x.2=some v
theorem cP(e:Env)(r:Nat)(v:V):e.put r v r=some v:=if_pos z
theorem b4(e:Env)(v:V)(h:x≠r):e.put r v x=e x:=if_neg h
section
variable{S:Nat}{C:List V}{Y:List Int}{j:List Op}{f:List cL}{F:List (Int×Nat)}{K:cK}{P:List (Ag×Nat)}{n:Nat}
theorem j9.tab(h:j9 S C Y j f F K P n)(g:C<+:s)(i:Y<+:r):j9 S s r j f F K P n:=
 ⟨h.le,h.fb,h.kb,h.pb,h.rb,h.gv,h.nw,h.fw,h.kw,h.pw,λc e a b=>h.run c e (g.trans a)<|i.trans b⟩
theorem j9.bL(h:j9 S C Y j f F K P n){s:Nat}(i:s<S):j9 S C Y j f F K ((.bL s,s)::P) n:=
 ⟨h.le,h.fb,h.kb,λx m=>(by rcases ew.mp m with rfl|m;exact⟨ci i h.le,.inl z⟩;exact h.pb x m),h.rb,h.gv,h.nw,h.fw,h.kw,λx m=>(by rcases ew.mp m with rfl|m;exact .inr z;exact h.pw x m),λo p a b d g c e l=>by
  refine qF (h.run o p a b d g c e l) λq r k t u v=>(oV q r k t u λx m=>?_);rcases ew.mp m with rfl|m
  ·exact k s i
  ·exact v x m⟩
theorem j9.NS(h:j9 S C Y j f F K P n){i:Int}{r:Nat}(m:(i,r)∈F):j9 S C Y j f F K ((.free i,r)::P) n:=
 ⟨h.le,h.fb,h.kb,λx q=>(by rcases ew.mp q with rfl|q;exact⟨(h.fb _ m).2,.inr ⟨(h.fb _ m).1,nofun⟩⟩;exact h.pb x q),h.rb,h.gv,h.nw,h.fw,h.kw,λx q=>(by rcases ew.mp q with rfl|q;exact .inl<|h.fw _ m;exact h.pw x q),λo p a b d g c e l=>by
  refine qF (h.run o p a b d g c e l) λs u w k y z=>(oV s u w k y λx q=>?_);rcases ew.mp q with rfl|q
  ·intro v t;cases t;exact k _ m
  ·exact z x q⟩
theorem j9.RI(h:j9 S C Y j f F K P n){k r:Nat}{d:V}(m:(k,r)∈K)(A:C[k]?=some d):j9 S C Y j f F K ((.hD d,r)::P) n:=
 ⟨h.le,h.fb,h.kb,λx q=>(by rcases ew.mp q with rfl|q;exact⟨(h.kb _ m).2,.inr ⟨(h.kb _ m).1,nofun⟩⟩;exact h.pb x q),h.rb,h.gv,h.nw,h.fw,h.kw,λx q=>(by rcases ew.mp q with rfl|q;exact .inl<|h.kw _ m;exact h.pw x q),λo w a b g i c e l=>by
  refine qF (h.run o w a b g i c e l) λz J L M t N=>(oV z J L M t λx q=>?_);rcases ew.mp q with rfl|q
  ·intro v s;refine jn (t _ m) λO y B D E=>?_;have:o[k]?=some d:=v6.mpr (let ⟨p,H⟩:=v6.mp A;⟨ci p a.length_le,(a.getElem p).symm.trans H⟩);rw[this] at B;cases B;haveI u:(ec d).map cV=some v:=s;rw[D] at u;clear s;cases u;exact E
  ·exact N x q⟩
theorem j9.fresh(h:j9 S C Y j f F K P n)(o:cL)(W:o.nice)(X:o.bu=[n])(i:n∈o.writes)(L:List<|Int×Nat)(M:cK)(N:List<|Ag×Nat)(O:∀x∈L,x∈F\/x.2=n)(Q:∀x∈M,x∈K\/x.2=n)(T:∀x∈N,x∈P\/x.2=n/\∀s,x.1≠.bL s)
 (w:List V->V)(U:∀g a2,C<+:g->Y<+:a2->(∀s,oC g a2 o s=some (s.1.put n<|w g,s.2))/\(∀x∈L,x∈F\/w g=fV x.1)/\(∀x∈M,x∈K\/∃a1 a4,g[x.1]?=some a1/\ec a1=some a4/\w g=cV a4)/\(∀x∈N,x∈P\/∀bz a3,dU bz x.1=some a3->w g=a3)):
 j9 S C Y j (f++[o]) L M N<|n+1:=by
 have t:=h.le;have H:t9 (f++[o])=t9 f++o.writes:=by unfold t9;rw[List.flatMap_append];simp
 have p:n∈t9 (f++[o]):=by rw[H];exact cs _ i
 have y:∀{r},r∈t9 f->r∈t9 (f++[o]):=λm=>by rw[H];exact ll _ m
 refine⟨by exact aG 0x101001011c101d060011 z t,λx m=>?_,λx m=>?_,λx m=>?_,λq m=>?_,λq m r v=>?_,λs m=>y<|h.nw s m,λx m=>(O x m).elim (λk=>y<|h.fw x k) λk=>k▸p,λx m=>(Q x m).elim (λk=>y<|h.kw x k) λk=>k▸p,
  λx m=>(T x m).elim (λk=>(h.pw x k).imp y id) λk=>.inl<|k.1▸p,λg a2 a b u A c e l=>?_⟩
 ·refine db (O x m) (λq=>?_) λq=>?_;·have:=h.fb x q;exact⟨aG 72339138019393553 z this.1,aG 0x1011c001d06011c101d061c001d061 z this.2⟩
  ·exact⟨bF 0x20110121201001011010011 z t q,aG 0x101001111c101d061c001d061 z q⟩
 ·refine db (Q x m) (λq=>?_) λq=>?_;·have:=h.kb x q;exact⟨aG 72339138019393553 z this.1,aG 0x1011c001d06011c101d061c001d061 z this.2⟩
  ·exact⟨bF 0x20110121201001011010011 z t q,aG 0x101001111c101d061c001d061 z q⟩
 ·refine db (T x m) (λq=>?_) λq=>?_;·have:=h.pb x q;exact⟨by exact aG 0x1011c001d06011c101d061c001d061 z this.1,this.2⟩
  ·exact⟨by exact aG 0x101001111c101d061c001d061 z q.1,.inr ⟨by exact bF 0x20110121201001011010011 z t q.1,q.2⟩⟩
 ·refine db (mx.mp m) (λm=>?_) λm=>?_;·exact⟨(h.rb q m).1,λr v=>by have:=(h.rb q m).2 r v;exact aG 0x1011c001d06011c101d061c001d061 z this⟩
  ·clear H i p U y;rcases eL.mp m with rfl
   refine⟨W,λr v=>?_⟩;rw[X] at v;have:=eL.mp v;exact aG 0x101001111c101d061c001d061 z this
 ·refine db (mx.mp m) (λm=>?_) λm=>?_;·exact(h.gv q m r v).imp y id
  ·clear H W i y U;rcases eL.mp m with rfl
   rw[X] at v;exact(eL.mp v)▸.inl p
 ·refine qF (h.run g a2 a b u A c e l) λZ B D E G I=>oU (U g a2 a b) λR w1 w2 w3=>?_;refine(oV (Z.put n<|w g) (by rw[s8,B];show(oC g a2 o _).bind _=_;rw[R];rfl) (λs d a3 J=>?_) (λx m=>?_) (λx m=>?_) λx m a3 J=>?_);·rw[b4 _ _<|by exactλzz=>bF 0x101201210011c201d0601101001010 z t d zz];exact D s d a3 J
  ·by_cases q:x.2=n
   ·rw[q,cP];refine db (w1 x m) (λk=>?_) λk=>?_;·have:=h.fb x k;lia
    ·exact(bp k)▸rfl
   ·rw[b4 _ _ q];refine db (O x m) (λk=>?_) λk=>?_;·exact E x k
    ·exact absurd k q
  ·by_cases q:x.2=n
   ·rw[q,cP];refine db (w2 x m) ?_ ?_;·intro k;have:=h.kb x k;lia
    ·rintro⟨a1,a4,z1,z2,z3⟩;exact(kH a1 a4 z1 z2<|(bp z3)▸rfl)
   ·rw[b4 _ _ q];refine db (Q x m) (λk=>?_) λk=>?_;·exact G x k
    ·exact absurd k q
  ·by_cases q:x.2=n
   ·rw[q,cP];refine db (w3 x m) (λk=>?_) λk=>?_;·have:=h.pb x k;lia
    ·exact(bp<|k _ a3 J)▸rfl
   ·rw[b4 _ _ q];refine db (T x m) (λk=>?_) λk=>?_;·exact I x k a3 J
    ·exact absurd k.1 q
theorem j9.NT(h:j9 S C Y j f F K P n)(i:Int):j9 S C Y j (f++[.iH n i]) (F++[(i,n)]) K ((.free i,n)::P)<|n+1:=
 h.fresh (.iH n i) trivial rfl q _ _ _ (λx m=>(mx.mp m).imp id λd=>by exact(bp<|eL.mp d)▸rfl) (λx m=>.inl m) (λx m=>(by rcases ew.mp m with rfl|m;exact .inr ⟨z,nofun⟩;exact .inl m))
  (λ_=>fV i) λb c _ _=>(hV (λs=>rfl) (λx m=>(mx.mp m).imp id λd=>(by exact(bp<|eL.mp d)▸rfl)) (λx m=>.inl m) λx m=>(by rcases ew.mp m with rfl|m;exact .inr λ_ v a=>(by cases a;rfl);exact .inl m))
theorem j9.RK(h:j9 S C Y j f F K P n)(l:C[A]?=some w)(r:ec w=some L):j9 S C Y j (f++[.cst n A]) F (K++[(A,n)]) ((.hD w,n)::P)<|n+1:=
 h.fresh (.cst n A) trivial rfl q _ _ _ (λx m=>.inl m) (λx m=>(mx.mp m).imp id λd=>by exact(bp<|eL.mp d)▸rfl) (λx m=>(by rcases ew.mp m with rfl|m;exact .inr ⟨z,nofun⟩;exact .inl m))
  (λ_=>cV L) λi p a _=>by
   have b:=v6.mpr (let ⟨c,o⟩:=v6.mp l;⟨ci c a.length_le,(a.getElem c).symm.trans o⟩);refine(hV (λs=>?_) (λx m=>.inl m) (λx m=>?_) λx m=>?_);·show(i[A]?).bind _=_;rw[b];show(ec w).map _=_;rw[r];rfl
   ·refine db (mx.mp m) (λm=>?_) λm=>?_;·exact .inl m
    ·rcases eL.mp m with rfl
     exact .inr<|kH w L b r z
   ·refine db (ew.mp m) ?_ ?_;·rintro rfl;refine .inr λt v e=>?_;have g:(ec w).map cV=some v:=e;rw[r] at g;clear e;cases g;rfl
    ·intro m;exact .inl m
end
section
variable{S:Nat}{C:List V}{Y:List Int}{j:List Op}{f:List cL}{F:List (Int×Nat)}{K:cK}{P:List (Ag×Nat)}{n:Nat}
theorem G_{q a b c:Nat}(m:q∈[a,b,c]):q=a\/q=b\/q=c:=by simpa using m
theorem U9{q a b c d e:Nat}(m:q∈[a,b,c,d,e]):q=a\/q=b\/q=c\/q=d\/q=e:=by simpa using m
theorem j9.step(h:j9 S C Y j f F K P n)(o:Op)(B:cL){M:Nat}(w:n<=M)(O:B.nice)(E:∀r∈B.bu,r<M)(X:∀r∈B.bu,r∈B.writes\/r∈t9 f\/r∈o.sl)(A:∀s∈o.news,s∈B.writes)
 (L:∀a2 g,C<+:a2->Y<+:g->∀s a1,t8 o s=some a1->∀e,Le S s.1 e->(∀x∈P,∀a3,dU s.1 x.1=some a3->e x.2=some a3)->∃i,oC a2 g B (e,s.2)=some (i,a1.2)/\Le S a1.1 i/\∀r,S<=r->r<n->i r=e r):
 j9 S C Y (j++[o]) (f++[B]) F K [] M:=by
 have N:=h.le;have u:t9 (f++[B])=t9 f++B.writes:=by unfold t9;rw[List.flatMap_append];simp
 have W:G9 (j++[o])=G9 j++o.sl:=by unfold G9;rw[List.flatMap_append];simp
 have J:aw (j++[o])=aw j++o.news:=by unfold aw;rw[List.flatMap_append];simp
 have D:∀{r},r∈t9 f->r∈t9 (f++[B]):=λm=>by rw[u];exact ll _ m
 refine⟨by exact bF 0x20100101101201011010011 z w N,λx m=>(by have:=h.fb x m;exact⟨aG 72339138019393553 z this.1,bF 0x2011c001d0601101201011011c001d061 z w this.2⟩),λx m=>(by have:=h.kb x m;exact⟨aG 72339138019393553 z this.1,bF 0x2011c001d0601101201011011c001d061 z w this.2⟩),λx m=>(by cases m),λq m=>?_,λq m r y=>?_,λs m=>?_,λx m=>D<|h.fw x m,λx m=>D<|h.kw x m,λx m=>(by cases m),λa2 g a b k p c e l=>?_⟩
 ·rcases mx.mp m with m|m
  ·exact⟨(h.rb q m).1,λr y=>by have:=(h.rb q m).2 r y;exact bF 0x2011c001d0601101201011011c001d061 z w this⟩
  ·clear u X A L D;rcases eL.mp m with rfl
   exact⟨O,E⟩
 ·rcases mx.mp m with m|m
  ·exact(h.gv q m r y).imp D λv=>by rw[W];exact ll _ v
  ·clear O E A L;rcases eL.mp m with rfl
   rcases X r y with v|v|v
   ·exact .inl (by rw[u];exact cs _ v)
   ·exact .inl<|D v
   ·exact .inr (by rw[W];exact cs _ v)
 ·rw[J] at m;rcases mx.mp m with m|m
  ·exact D<|h.nw s m
  ·exact u▸cs _ (A s m)
 ·rw[Eg] at c;refine oB c λt G Q=>?_;clear c;have T:=Q;refine oB T λZ I U=>?_;clear T;have:Z=p:=me U;clear Q U;subst this;refine qF (h.run a2 g a b k t G e l) λi r1 r2 r3 r4 r5=>iK (L a2 g a b t Z I i r2 r5) λH R V d=>?_;refine(oV H (by rw[s8,r1];show(oC a2 g B _).bind _=_;rw[R];rfl) V (λx m=>?_) (λx m=>?_) λx m=>(by cases m));·have:=h.fb x m;exact(d _ this.1 this.2)▸r3 x m
  ·have:=h.kb x m;exact(d _ this.1 this.2)▸r4 x m
theorem Le.put(h:Le S bz e):Le S (bz.put s v)<|e.put s v:=λx b w a=>by
 by_cases q:x=s;·subst q;rw[cP] at a⊢;exact a
 ·rw[b4 _ _ q] at a⊢;exact h x b w a
theorem Le.UH(h:Le S bz e)(d:S<=r):Le S bz<|e.put r g:=λx a w b=>by rw[b4 _ _<|by exactλc=>bF 0x101201210011c201d0601101001010 z d a c];exact h x a w b
theorem AI{C b:List a}{k:Nat}(h:C<+:b)(e:C[k]?=some i):b[k]?=some i:=
 v6.mpr (let ⟨c,g⟩:=v6.mp e;⟨ci c h.length_le,(h.getElem c).symm.trans g⟩)
theorem j9.got(h:j9 S C Y j f F K P n)(m:(x,r)∈P):r∈t9 f\/r∈x.sl:=(h.pw _ m).imp id λz=>by haveI z:x=.bL r:=z;refine(bp z)▸?_;exact .head _
theorem j9.hD(h:j9 S C Y j f F K P n){s k:Nat}{d:V}(b:s<S)(p:C[k]?=some d):j9 S C Y (j++[.hD s d]) (f++[.cst s k]) F K [] n:=
 h.step _ (.cst s k) (ct n) trivial (λr m=>(by have:=h.le;rcases eL.mp m with rfl;exact bF 0x2011c001d0601101201011011c001d061 z this b)) (λr m=>.inl m) (λs m=>m) λg v a _ t w c e l _=>by refine oM c λy i o=>?_;clear c;subst o;exact(g6 (e.put s<|cV y) (by show(g[k]?).bind _=_;rw[AI a p];show(ec d).map _=_;rw[i];rfl) l.put λr q _=>b4 _ _ λu=>bF 0x120111201101011011c001d06010 z b q u)
theorem j9.fS(h:j9 S C Y j f F K P n){s k:Nat}{g:Int}(a:s<S)(i:Y[k]?=some g):j9 S C Y (j++[.fS s g]) (f++[.Fm s k]) F K [] n:=
 h.step _ (.Fm s k) (ct n) trivial (λr m=>(by have:=h.le;rcases eL.mp m with rfl;exact bF 0x2011c001d0601101201011011c001d061 z this a)) (λr m=>.inl m) (λs m=>m) λq d _ b t u c e l _=>by cases c;exact(g6 (e.put s<|gV g) (by show(d[k]?).map _=_;rw[AI b i];rfl) l.put λr o _=>b4 _ _ λp=>bF 0x120111201101011011c001d06010 z a o p)
theorem j9.set(h:j9 S C Y j f F K P n){w:Sy}{k r:Nat}{g:Int}{x:Ag}(u:w=.jw\/w=.eN)(a:(x,r)∈P)(p:Y[k]?=some g):j9 S C Y (j++[.set w g x]) (f++[.set w k r]) F K [] n:=
 h.step _ (.set w k r) (ct n) u (λq m=>(by rcases eL.mp m with rfl;exact(h.pb _ a).1)) (λq m=>(by rcases eL.mp m with rfl;exact .inr<|h.got a)) (rW _) λy d _ b t z c e l s=>by refine oM c λv i o=>?_;clear c;subst o;exact(g6 e (by show(d[k]?).bind _=_;rw[AI b p];show(e r).map _=_;rw[s _ a v i];rfl) l λ_ _ _=>rfl)
theorem oD{v w:V}(c:e a=some v)(d:e b=some w):cu e [a,b]=some [v,w]:=by show(e a).bind _=_;refine(bp c)▸?_;show((e b).bind _).map _=_;refine(bp d)▸?_;rfl
theorem j9.bt(h:j9 S C Y j f F K P n){s a b:Nat}{i:Int}{x y:Ag}(N:s<S)(d:(x,a)∈P)(T:(y,b)∈P):j9 S C Y (j++[.bt s i x y]) (f++[.A5 s i [a,b]]) F K [] n:=
 h.step _ (.A5 s i [a,b]) (ct n) (H3 _ _ z) (λB m=>(by
  haveI M:=h.le;haveI A:=(h.pb _ d).1;haveI H:=(h.pb _ T).1;haveI m:=G_ m;rcases m with rfl|rfl|rfl
  ·lia
  ·exact A
  ·exact H)) (λB m=>(by
  haveI m:=G_ m;rcases m with rfl|rfl|rfl
  ·exact .inl q
  ·exact .inr<|(h.got d).imp id λD=>ll _ D
  ·exact .inr<|(h.got T).imp id λD=>cs _ D)) (λs m=>m) λJ L _ _ t Q c e l k=>by
  refine oB c λv o g=>?_;clear c;refine oM g λw p u=>?_;clear g;subst u;exact(g6 (e.put s<|vG i [v,w]) (by show(cu e [a,b]).map _=_;rw[oD (k _ d v o)<|k _ T w p];rfl) l.put λr O _=>b4 _ _<|by lia)
theorem j9.ay(h:j9 S C Y j f F K P n){s a b:Nat}{i:Int}{x y:Ag}(N:s<S)(d:(x,a)∈P)(T:(y,b)∈P):j9 S C Y (j++[.ay (some s) i x y]) (f++[.yK s i [a,b]]) F K [] n:=
 h.step _ (.yK s i [a,b]) (ct n) (H3 _ _ z) (λB m=>(by
  haveI M:=h.le;haveI A:=(h.pb _ d).1;haveI H:=(h.pb _ T).1;haveI m:=G_ m;rcases m with rfl|rfl|rfl
  ·lia
  ·exact A
  ·exact H)) (λB m=>(by
  haveI m:=G_ m;rcases m with rfl|rfl|rfl
  ·exact .inl q
  ·exact .inr<|(h.got d).imp id λD=>ll _ D
  ·exact .inr<|(h.got T).imp id λD=>cs _ D)) (λs m=>m) λJ L _ _ t Q c e l k=>by
  refine oB c λv o g=>?_;clear c;refine oM g λw p u=>?_;clear g;subst u;exact(g6 (e.put s<|yL t.2.length) (by show(cu e [a,b]).map _=_;rw[oD (k _ d v o)<|k _ T w p];rfl) l.put λr O _=>b4 _ _<|by lia)
theorem j9.U_(h:j9 S C Y j f F K P n){a b:Nat}(d:(x,a)∈P)(O:(T,b)∈P):j9 S C Y (j++[.ay none i x T]) (f++[.yK n i [a,b]]) F K []<|n+1:=
 h.step _ (.yK n i [a,b]) (Nat.le_succ n) (H3 _ _ z) (λy m=>(by
  haveI u:=(h.pb _ d).1;haveI A:=(h.pb _ O).1;haveI m:=G_ m;rcases m with rfl|rfl|rfl<;>(first|exact bN 0x1c001d061c001d061 z|exact aG 0x1011c001d06011c101d061c001d061 z u|exact aG 0x1011c001d06011c101d061c001d061 z A))) (λy m=>(by
  haveI m:=G_ m;rcases m with rfl|rfl|rfl
  ·exact .inl q
  ·exact .inr<|(h.got d).imp id λB=>ll _ B
  ·exact .inr<|(h.got O).imp id λB=>cs _ B)) (rW _) λL M _ _ t N c e l k=>by
  refine oB c λv o g=>?_;clear c;refine oM g λw p s=>?_;clear g;subst s;exact(g6 (e.put n<|yL t.2.length) (by show(cu e [a,b]).map _=_;rw[oD (k _ d v o)<|k _ O w p];rfl) (l.UH h.le) λr _ H=>b4 _ _ λJ=>aG 0x101001211011c001d06010 z H J)
theorem j9.fix(h:j9 S C Y j f F K P n){p E a:Nat}{x:Ag}(k:p<S)(o:E<S)(g:(x,a)∈P):j9 S C Y (j++[.fix p E x]) (f++[.fix [(p,1,[E,a]),(E,2,[p])]]) F K [] n:=
 h.step _ (.fix [(p,1,[E,a]),(E,2,[p])]) (ct n) (MC _ _ _ z) (λr m=>(by
  haveI B:=h.le;haveI D:=(h.pb _ g).1;haveI m:r=p\/r=E\/r=a\/r=E\/r=p:=U9 m;rcases m with rfl|rfl|rfl|rfl|rfl<;>(first|exact bF 0x2011c001d0601101201011011c001d061 z B k|exact bF 0x2011c001d0601101201011011c001d061 z B o|exact aG 0x1011c001d06011011c001d061 z D))) (λr m=>(by
  haveI m:r=p\/r=E\/r=a\/r=E\/r=p:=U9 m;rcases m with rfl|rfl|rfl|rfl|rfl
  ·exact .inl q
  ·exact .inl<|N q
  ·exact .inr<|h.got g
  ·exact .inl<|N q
  ·exact .inl q)) (λs m=>m) λCf Gf _ _ t t' c e l A=>by
  refine kf λGz M=>?_;refine oB c λv u J=>?_;clear c;refine oB J λZ T L=>?_;clear J;refine oM L λQ U W=>?_;clear L;refine M ?_;clear M;subst W;haveI w:Le S ((t.1.put p<|bI t.2.length 1).put E<|bI t.2.length 2)<|(e.put p<|bI t.2.length 1).put E<|bI t.2.length 2:=l.put.put;haveI X:((e.put p<|bI t.2.length 1).put E<|bI t.2.length 2) a=some v:=by
   rcases(h.pb _ g).2 with G|G
   ·haveI G:x=.bL a:=G;subst G;by_cases y:a<S;·exact w a y v u
    ·haveI H:((t.1.put p<|bI t.2.length 1).put E<|bI t.2.length 2) a=some v:=u;rw[b4 _ _ (by exactλb=>bF 0x1201111011c201d06311011c001d06010 z o y b),b4 _ _<|by exactλb=>bF 0x1201111011c201d06311011c001d06010 z k y b] at H⊢;exact A _ g v H
   ·haveI z2:∀s,x≠.bL s:=G.2;haveI G:S<=a:=G.1;rw[b4 _ _ (by exactλb=>bF 0x120111201101011011c001d06010 z o G b),b4 _ _<|by exactλb=>bF 0x120111201101011011c001d06010 z k G b];refine A _ g v ?_;clear g;induction x using Ag.casesOn with
    |hD d=>exact u
    |free i=>exact u
    |bL s=>exact absurd z<|z2 s
  refine(g6 _ ?_ w λr O _=>by rw[b4 _ _ (by exactλb=>bF 0x120111201101011011c001d06010 z o O b),b4 _ _<|by exactλb=>bF 0x120111201101011011c001d06010 z k O b]);show(Kz ((e.put p<|bI t.2.length 1).put E<|bI t.2.length 2) [(p,1,[E,a]),(E,2,[p])]).map _=_;haveI I:=oD (w E o Z T) X;haveI R:cu ((e.put p<|bI t.2.length 1).put E<|bI t.2.length 2) [p]=some [Q]:=by show(_:Option V).bind _=_;rw[w p k Q U];rfl
  show((cu _ [E,a]).bind _).map _=_;rw[I];show(((cu _ [p]).bind _).map _).map _=_;rw[R];rfl
end
noncomputable def qd:V->Int×Int
 |.bool b=>(0,if b then 1 else 0)
 |.int i=>(1,i)
 |_=>(5,0)
def Yc(d:V):V:=.aF [.int (qd d).1,.int (qd d).2]
theorem ni(h:a∈dG):(∃b,a=.bool b)\/∃i,a=.int i:=by
 simp only[dG,ew,i3,or_false] at h;rcases h with rfl|rfl|rfl|rfl|rfl
 ·exact .inr ⟨_,z⟩
 ·exact .inl ⟨_,z⟩
 ·exact .inl ⟨_,z⟩
 ·exact .inr ⟨_,z⟩
 ·exact .inr ⟨_,z⟩
theorem NU(h:j∈dG)(f:a∈dG)(e:qd j=qd a):j=a:=by
 rcases ni h with⟨b,rfl⟩|⟨i,rfl⟩<;>rcases ni f with⟨c,rfl⟩|⟨g,rfl⟩
 ·induction b using ff<;>induction c using ff<;>first|rfl|exact absurd e m
 ·exact absurd (congrArg Prod.fst e) (by show(0:Int)≠1;decide)
 ·exact absurd (congrArg Prod.fst e) (by show(1:Int)≠0;decide)
 ·exact congrArg V.int<|congrArg Prod.snd e
theorem RL(a:g∈dG)(q:U e L<|c<|Yc g):U e L<|Tn (n+1) .jz [g] c:=by
 refine db (ni a) ?_ ?_;·rintro⟨b,rfl⟩;exact aZ .a [.fG] lU z rfl rfl<|aR q
 ·rintro⟨i,rfl⟩;exact aZ .a [.fG] lU z rfl rfl<|aR q
theorem NV(a:g∈dG)(q:U e L<|c<|.bool true):U e L<|Tn (n+1) .iQ [g,g] c:=by
 refine db (ni a) ?_ ?_;·rintro⟨b,rfl⟩;induction b using ff<;>exact aZ .a [.one,.bH] kP z rfl rfl<|aR q
 ·rintro⟨i,rfl⟩;refine aZ .a [.one,.bH] kP z rfl rfl<|aR (g:=.bool<|cZ (.int i)<|.int i) ?_;refine(bp<|show cZ (.int i) (.int i)=true from decide_eq_true z)▸?_;exact q
noncomputable def KO(i:Nat):List (V×Nat)->H
 |[]=>[]
 |p::r=>(p.2,.list [.int i])::KO (i+1) r
noncomputable def k9(i:Nat):List Int->List (Int×V)
 |[]=>[]
 |g::r=>(g,.int i)::k9 (i+1) r
def C1(E:List<|V×Nat):List<|(Int×Int)×V:=E.map λp=>(qd p.1,.ref p.2)
structure oF(E:List<|V×Nat)(a:List Int):Prop where
 nd:(E.map λp=>qd p.1).Nodup
 dt:∀p∈E,p.1∈dG
 gn:a.Nodup
 gb:∀g∈a,10<=g/\g<13
theorem rF{b:Type}[DecidableEq b]:∀{l m:List b},l.Nodup->(∀x∈l,x∈m)->l.length<=m.length:=λ{f}=>by
 induction f with
 |nil=>intro _ _ _;exact Nat.zero_le _
 |cons a l g=>intro m n s;haveI c:=s a q;haveI h:=g (m:=m.erase a) (List.nodup_cons.mp n).2 λx d=>(List.mem_erase_of_ne λe=>(List.nodup_cons.mp n).1 (by refine e▸?_;exact d)).mpr<|s x<|N d;rw[List.length_erase_of_mem c] at h;have:=List.length_pos_of_mem c;exact bF 0x1011c201d0611201001011011c001d061 z h<|hB (n:=m.length) (m:=1)<|bN 0x11cc01d06010011c021 z this
theorem oF.small{E:List (V×Nat)}(t:oF E c):E.length<=5/\c.length<=3:=by
 refine⟨?_,?_⟩
 ·have:=rF (m:=dG.map qd) t.nd λx a=>by refine bS (List.mem_map.mp a) ?_;clear a;rintro p b rfl;exact List.mem_map.mpr<|a_ _ (t.dt p b) z
  rw[fZ] at this;exact this
 ·refine rF (m:=[10,11,12]) t.gn λx a=>?_;have:=t.gb x a;have:x=10\/x=11\/x=12:=by lia
  clear a;rcases this with rfl|rfl|rfl
  ·exact .head _
  ·exact N q
  ·exact N<|N q
theorem m5{a b:Type}[BEq a][LawfulBEq a]{k:a}:∀{l:List (a×b)},l.lookup k=none->∀p∈l,p.1≠k:=λ{l}=>by
 induction l with
 |nil=>exactλ_ _ m=>absurd m i3
 |cons x l c=>
  intro h p m;rw[ii] at h;cases q:(k==x.1) with
  |true=>replace h:=q▸h;cases h
  |false=>
   replace h:=q▸h;refine db (ew.mp m) ?_ ?_;·rintro rfl;exactλe=>(ne_of_beq_false q) e.symm
   ·intro m;exact c h p m
theorem gN[BEq c][LawfulBEq c][DecidableEq c]:∀{l:List (c×i)},l.lookup j=none->aE j n l=l++[(j,n)]:=λ{e}=>by
 induction e with
 |nil=>intro _;exact z
 |cons g l f=>
  obtain⟨a,b⟩:=g;intro h;have:=m5 h (a,b) q;rw[ii] at h;cases d:(j==a) with
  |true=>rw[d] at h;cases h
  |false=>rw[d] at h;show(if a=j then _ else _)=_;rw[if_neg this,f h];rfl
theorem j'{c d:Type}[BEq c][LawfulBEq c]{k:c}{v:d}:∀{l:List (c×d)},l.lookup k=none->(l++[(k,v)]).lookup k=some v:=λ{e}=>by
 induction e with
 |nil=>intro _;rw[List.nil_append,ii,beq_self_eq_true]
 |cons g l f=>
  obtain⟨a,b⟩:=g;intro h;rw[ii] at h;rw[List.cons_append,ii];cases q:(k==a) with
  |true=>rw[q] at h;cases h
  |false=>rw[q] at h;exact f h
theorem RM:∀(E:List<|V×Nat)(i:Nat)(d:V)(a:Nat),KO i (E++[(d,a)])=KO i E++[(a,.list [.int (i+E.length:Nat)])]:=λb=>by
 induction b with
 |nil=>intro i d a;exact z
 |cons p E c=>intro i d a;show _::KO (i+1) (E++[(d,a)])=_::(KO (i+1) E++_);rw[c (i+1) d a,jM,show i+1+E.length=i+(E.length+1) by exact ng (aG 0x1c101d001d0a11c001d06d0a1 z)<|aG 0x11c001d06d0a1c101d001d0a1 z]
theorem KA:∀{E:List (V×Nat)}(i:Nat),(C1 E).lookup n=some r->∃j d a,r=.ref a/\E[j]?=some (d,a)/\qd d=n/\(a,a0.list [.int (i+j:Nat)])∈KO i E:=λ{c}=>by
 induction c with
 |nil=>intro g b;exact Ku b
 |cons p E f=>
  intro i h;haveI h:List.lookup n ((qd p.1,V.ref p.2)::C1 E)=some r:=h;rw[ii] at h;cases k:(n==qd p.1) with
  |true=>replace h:=k▸h;cases h;exact(oW 0 p.1 p.2 z rfl ((eq_of_beq k).symm) q)
  |false=>replace h:=k▸h;exact dB (f (i+1) h) λj d a l m o e=>(oW (j+1) d a l m o<|N<|(show i+(j+1)=i+1+j by exact ng (aG 0x11c001d06d0a1c101d001d0a1 z)<|aG 0x1c101d001d0a11c001d06d0a1 z)▸e)
def ie(a c b d:Nat)(E:List<|V×Nat)(G:List Int)(R:H):H:=
 (a,.list<|E.map (·.1))::(c,.dg<|C1 E)::(b,.list<|G.map .int)::(d,.dict false<|k9 0 G)::(KO 0 E++R)
def kO(a c b d:Nat):List<|IK×V:=[(.bE,.ref a),(.se,.ref c),(.dW,.ref b),(.fN,.ref d)]
theorem zA{d:V}{t b c f g:Nat}{E:List (V×Nat)}{G:List Int}{X R:H}{Z:aT}{B:dC}(W:(t,.inst .dh<|kO b c f g)∈R)(I:oF E G)(o:d∈dG)
 (O:∀(T:Nat) Y,E<+:Y->oF Y G->(Y.map (·.1))[T]?=some d->U Z (X++ie b c f g Y G R) (B<|.int T)):U Z (X++ie b c f g E G R)<|Tn (n+2) .jW [.ref t,d] B:=by
 haveI D:(t,a0.inst .dh<|kO b c f g)∈X++ie b c f g E G R:=cs X<|N<|N<|N<|N<|cs _ W;haveI L:(b,a0.list<|E.map (·.1))∈X++ie b c f g E G R:=cs X q;haveI C:(c,a0.dg<|C1 E)∈X++ie b c f g E G R:=cs X<|N q;refine aZ .a [.aq,.fG] jk z rfl rfl<|M .a<|RL o<|Q .e D z<|Kj .b C ?_;cases i:(C1 E).lookup (qd d) with
 |some v=>
  refine dB (KA 0 i) ?_;rintro j P a rfl S e2 e3;rw[Nat.zero_add] at e3;haveI J:P=d:=NU (I.dt (P,a)<|List.mem_of_getElem? S) o e2;clear e2;subst J;haveI s:(a,a0.list [.int j])∈X++ie b c f g E G R:=cs X<|N<|N<|N<|N<|ll _ e3;exact CZ .a z<|Q .a D z<|Ax .a C i<|gd .a s<|aO (x:=.int j) (xs:=[]) .a (df s)<|Q .a D z<|fL .a L (jp j) (by show(E.map (·.1))[j]?=_;rw[oe,S];rfl)<|
   M .a<|NV o<|Fi (df s)<|O j E (sj E) I (by rw[oe,S];rfl)
 |none=>
  haveI F:=I.small;refine Cc .a z<|aW .a λa=>Q .a (N D) z<|Cb (r:=C1 E++[(qd d,.ref a)]) .a (gN i) (.tail<|(At.tail .head).skip X) (by rw[show(C1 E).length=E.length from fZ _];exact bN 0x5c0200101f4240c061c001d061 z F.1) ?_;haveI u:(t,a0.inst .dh<|kO b c f g)∈(a,a0.list [])::(X++(b,a0.list<|E.map (·.1))::(c,.dg<|C1 E++[(qd d,.ref a)])::(f,.list<|G.map .int)::(g,.dict false<|k9 0 G)::(KO 0 E++R)):=
   N<|cs X<|N<|N<|N<|N<|cs _ W
  refine Q .a u z<|Ax .a (N<|cs X<|N q) (j' i)<|gd .a q<|b5 (df q)<|Q .a u z<|gc .a (N<|cs X q) z<|de .a (.tail<|At.head.skip X) (by rw[fZ];exact bN 0x5c0200101f4240c061c001d061 z F.1) ?_;haveI r:∀y,(t,a0.inst .dh<|kO b c f g)∈(a,a0.list y)::(X++(b,a0.list<|E.map (·.1)++[d])::(c,.dg<|C1 E++[(qd d,.ref a)])::(f,.list<|G.map .int)::(g,.dict false<|k9 0 G)::(KO 0 E++R)):=
   λy=>N<|cs X<|N<|N<|N<|N<|cs _ W
  haveI w:∀y,(b,a0.list<|E.map (·.1)++[d])∈(a,a0.list y)::(X++(b,a0.list<|E.map (·.1)++[d])::(c,.dg<|C1 E++[(qd d,.ref a)])::(f,.list<|G.map .int)::(g,.dict false<|k9 0 G)::(KO 0 E++R)):=
   λy=>N<|cs X q
  refine Q .a (r _) z<|Ax .a (N<|cs X<|N q) (j' i)<|gc .a q z<|Q .a (r _) z<|fv .a (w _)<|de .a .head m<|Q .a (r _) z<|fv .a (w _)<|aR ?_;haveI K:((E.map (·.1)++[d]).length:Int)-1=(E.length:Nat):=by rw[eR,fZ];show((E.length+1:Nat):Int)-1=_;lia
  rw[K];refine aA (λk=>?_)<|O E.length (E++[(d,a)]) (List.prefix_append _ _) ⟨?_,?_,I.gn,I.gb⟩ ?_
  ·haveI e:X++ie b c f g (E++[(d,a)]) G R=(X++(b,a0.list<|E.map (·.1)++[d])::(c,.dg<|C1 E++[(qd d,.ref a)])::(f,.list<|G.map .int)::(g,.dict false<|k9 0 G)::KO 0 E)++(a,a0.list [.int (E.length:Nat)])::R:=by unfold ie C1;rw[RM,Nat.zero_add];simp
   rw[e];refine Z.perm k<|List.Perm.trans (.of_eq ?_) List.perm_middle.symm;simp
  ·rw[sn];refine List.nodup_append.mpr<|eP I.nd (List.nodup_cons.mpr ⟨i3,List.nodup_nil⟩) λx A y l e=>?_;refine bS (List.mem_map.mp A) ?_;clear A;rintro p h rfl;have:=eL.mp l;exact m5 i _ (List.mem_map.mpr<|a_ p h z)<|e.trans this
  ·intro p h;rcases mx.mp h with h|h
   ·exact I.dt p h
   ·rw[eL.mp h];exact o
  ·rw[sn,List.getElem?_append_right (by rw[fZ];exact ct _),fZ,Nat.sub_self];rfl
theorem Ha:∀(G:List Int)(i:Nat)(g:Int),k9 i (G++[g])=k9 i G++[(g,.int (i+G.length:Nat))]:=λa=>by
 induction a with
 |nil=>intro _ _;exact z
 |cons x G b=>intro i g;show _::k9 (i+1) (G++[g])=_::(k9 (i+1) G++_);rw[b (i+1) g,jM,show i+1+G.length=i+(G.length+1) by exact ng (aG 0x1c101d001d0a11c001d06d0a1 z)<|aG 0x11c001d06d0a1c101d001d0a1 z]
theorem Eh:∀{G:List Int}(i:Nat),(k9 i G).lookup g=some b->∃j,b=.int (i+j:Nat)/\G[j]?=some g:=λ{G}=>by
 induction G with
 |nil=>exactλ_ h=>Ku h
 |cons x G a=>
  intro i h;haveI h:List.lookup g ((x,V.int i)::k9 (i+1) G)=some b:=h;rw[ii] at h;cases q:(g==x) with
  |true=>rw[q] at h;cases h;exact(a_ 0 z<|by refine(bp<|eq_of_beq q)▸?_;rfl)
  |false=>rw[q] at h;refine bS (a (i+1) h) λj c d=>?_;exact(a_ (j+1) (by refine(bp<|show i+(j+1)=i+1+j by exact ng (aG 0x11c001d06d0a1c101d001d0a1 z)<|aG 0x1c101d001d0a11c001d06d0a1 z)▸?_;exact c) d)
theorem Hb:∀(G:List Int)(i:Nat),(k9 i G).length=G.length:=λa=>by
 induction a with
 |nil=>intro _;exact z
 |cons c G b=>intro i;exact congrArg (·+1)<|b<|i+1
theorem Hc:∀{G:List Int}(i:Nat){g:Int},g∈G->∃v,(g,v)∈k9 i G:=λ{G}=>by
 induction G with
 |nil=>exactλ_ _ m=>absurd m i3
 |cons x G a=>exactλi g m=>(ew.mp m).elim (λe=>⟨.int i,by rw[e];exact .head _⟩) λm=>oE (a (i+1) m) λv h=>⟨v,N h⟩
theorem uX{g:Int}{E:List (V×Nat)}{G:List Int}{X R:H}{Z:aT}{l:dC}(C:(Y,.inst .dh<|kO i L b c)∈R)(I:oF E G)(u:10<=g/\g<13)
 (m:∀(A:Nat) T,G<+:T->oF E T->T[A]?=some g->U Z (X++ie i L b c E T R) (l<|.int A)):U Z (X++ie i L b c E G R)<|Tn (n+1) .kY [.ref Y,.int g] l:=by
 have f:∀(G:List Int) d,(Y,a0.inst .dh<|kO i L b c)∈X++(i,a0.list<|E.map (·.1))::(L,.dg<|C1 E)::(b,.list<|G.map .int)::(c,.dict false d)::(KO 0 E++R):=λG d=>cs X<|N<|N<|N<|N<|cs _ C;have p:∀(G:List Int) d,(b,a0.list<|G.map .int)∈X++(i,a0.list<|E.map (·.1))::(L,.dg<|C1 E)::(b,.list<|G.map .int)::(c,.dict false d)::(KO 0 E++R):=λG d=>cs X<|N<|N q;have o:∀(G:List Int) d,(c,a0.dict false d)∈X++(i,a0.list<|E.map (·.1))::(L,.dg<|C1 E)::(b,.list<|G.map .int)::(c,.dict false d)::(KO 0 E++R):=λG d=>cs X<|N<|N<|N q;refine aZ .a [.aq,.symbol] jY z rfl rfl<|Q .e (f _ _) z<|ou .b (o _ _) ?_;have r:=I.small;cases h:(k9 0 G).lookup g with
 |some v=>refine bS (Eh 0 h) ?_;rintro j rfl B;rw[Nat.zero_add] at h;exact CZ .a z<|Q .a (f _ _) z<|cH .a (o _ _) h<|aR<|m j G (sj G) I B
 |none=>
  haveI s:G.map V.int++[.int g]=(G++[g]).map V.int:=by rw[sn];rfl
  refine Cc .a z<|Q .a (f _ _) z<|fv .a (p _ _)<|Q .a (f _ _) z<|eY .a (gN h) ((At.tail<|.tail<|.tail .head).skip X) (by rw[Hb];exact bN 0x3c0200101f4240c061c001d061 z r.2)<|Q .a (f _ _) z<|gc .a (p _ _) z<|
   fg .a s ((At.tail<|.tail .head).skip X) (by rw[fZ];exact bN 0x3c0200101f4240c061c001d061 z r.2)<|Q .a (f _ _) z<|cH .a (o _ _) (j' h)<|aR ?_
  rw[fZ];refine aA (λk=>?_)<|m G.length (G++[g]) (List.prefix_append _ _) ⟨I.nd,I.dt,?_,?_⟩ ?_;·unfold ie;rw[Ha,Nat.zero_add];exact k
  ·refine List.nodup_append.mpr<|eP I.gn (List.nodup_cons.mpr ⟨i3,List.nodup_nil⟩) λx a y t e=>?_;have:=eL.mp t;exact oE (Hc 0 a) λv w=>m5 h _ w<|e.trans this
  ·intro x a;refine db (mx.mp a) (λa=>?_) λa=>?_;·exact I.gb x a
   ·exact(eL.mp a)▸u
  ·rw[List.getElem?_append_right<|ct _,Nat.sub_self];rfl
def iZ(x:Nat×Int×List Nat):V:=.aF [.int x.1,.int x.2.1,.aF<|G x.2.2]
def cL.v:cL->V
 |.cst r k=>.aF [.str .hD,.int r,.int k]
 |.Fm r k=>.aF [.str .global,.int r,.int k]
 |.iH r n=>.aF [.str .free,.int r,.int n]
 |.zy r s=>.aF [.str .move,.int r,.int s]
 |.set w k s=>.aF [.str w,.int k,.int s]
 |.yK r n a=>.aF [.str .ay,.int r,.int n,.aF<|G a]
 |.A5 r n a=>.aF [.str .closure,.int r,.int n,.aF<|G a]
 |.fix b=>.aF [.str .fix,.aF<|b.map iZ]
noncomputable def fD(F:List<|Int×Nat):List<|Int×V:=F.map λx=>(x.1,.int x.2)
noncomputable def kD(K:cK):List<|Int×V:=K.map λx=>((x.1:Int),.int x.2)
theorem NW:∀{F:List (Int×Nat)},(fD F).lookup i=some c->∃r:Nat,c=.int r/\(i,r)∈F:=λ{b}=>by
 induction b with
 |nil=>intro a;exact Ku a
 |cons x F f=>
  intro h;haveI h:List.lookup i ((x.1,V.int x.2)::fD F)=some c:=h;rw[ii] at h;cases q:(i==x.1) with
  |true=>rw[q] at h;cases h;exact(a_ x.2 z<|by refine(bp<|eq_of_beq q)▸?_;exact .head _)
  |false=>rw[q] at h;refine bS (f h) λr e m=>?_;exact(a_ r e<|N m)
theorem NX{k:Nat}{v:V}:∀{K:cK},(kD K).lookup (k:Int)=some v->∃r:Nat,v=.int r/\(k,r)∈K:=λ{b}=>by
 induction b with
 |nil=>intro a;exact Ku a
 |cons x K f=>
  intro h;haveI h:List.lookup (k:Int) (((x.1:Int),V.int x.2)::kD K)=some v:=h;rw[ii] at h;cases q:((k:Int)==(x.1:Int)) with
  |true=>rw[q] at h;cases h;exact(a_ x.2 z<|by refine(bp<|Int.ofNat.inj<|eq_of_beq q)▸?_;exact .head _)
  |false=>rw[q] at h;refine bS (f h) λr e m=>?_;exact(a_ r e<|N m)
structure W where
 (lo fd cd lu lb lw t tc tk tg tp en bl ZK:Nat) (num ttl xS bA hr free Va NY:V)
def W.uf(A:W)(n:Nat):List<|IK×V:=[(.ax,A.num),(.kr,A.ttl),(.ba,A.xS),(.ah,.ref A.en),(.bA,A.bA),(.fF,A.hr),(.free,A.free),(.aj,.int n),(.bJ,.ref A.bl)]
def W.bf(A:W):List<|IK×V:=[(.ax,A.Va),(.params,.ref A.ZK),(.ao,.ref A.lo),(.cW,A.NY)]
def W.wf(A:W):List<|IK×V:=[(.bO,.ref A.lu),(.cD,.ref A.t),(.ab,.ref A.lb),(.frees,.ref A.fd),(.bE,.ref A.cd)]
def W.C(A:W)(c:List cL)(F:List<|Int×Nat)(K:cK)(n:Nat)(E:List<|V×Nat)(G:List Int)(R:H):H:=
 (A.lo,.list<|c.map cL.v)::(A.fd,.dict false<|fD F)::(A.cd,.dict false<|kD K)::(A.lu,.inst .b7<|A.uf n)::(A.lb,.inst .eZ A.bf)::ie A.tc A.tk A.tg A.tp E G R
structure LS(S B:Nat)(d:List Op)(P:List<|Ag×Nat)(c:List cL)(F:List<|Int×Nat)(K:cK)(n:Nat)(E:List<|V×Nat)(a:List Int)(b:Nat):Prop where
 sim:j9 S (E.map (·.1)) a d c F K P n
 tab:oF E a
 sz:F.length<=b/\K.length<=b/\c.length<=b/\n<=B+b
theorem Cj{b n:Nat}{c:dC}(e:fs.lookup .aj=some (.int n))(f:aE .aj (.int (n+1:Nat)) fs=a)(d:a.lookup .aj=some (.int (n+1:Nat)))
 (m:At b (.inst .b7 fs) (.inst .b7 a) L g)(i:(b,.inst .b7 a)∈g)(q:U j g<|c<|.int n):U j L<|Tn (r+1) .nE [.ref b] c:=by
 haveI h:((n+1:Nat):Int)-1=n:=by lia
 rw[<-h] at q;exact aZ .a [.aq] pP z rfl rfl<|Q .a m.mem e<|aX .a m f z<|Q .a i d<|aR q
theorem NZ{b a d:Nat}(i:(b,.inst .e7 s)∈L)(f:(a,.inst .eZ h)∈L)(k:s.lookup .ab=some (.ref a))(l:h.lookup .ao=some (.ref d))
 (m:At d (.list e) (.list<|e++[w]) L g)(j:e.length<1000000)(q:U n g<|c .none):U n L<|Tn (r+1) .oQ [.ref b,w] c:=
 aZ .a [.aq,.op] qu z rfl rfl<|Q .a i k<|Q .a f l<|gc .a m.mem z<|de .a m j<|dE q
section
variable{A:W}{S B T:Nat}{d:List Op}{P:List (Ag×Nat)}{c:List cL}{F:List (Int×Nat)}{K:cK}{n:Nat}{E:List (V×Nat)}{C:List Int}{R:H}{k:Nat}{Y:dC}
theorem W.mem(m:x∈R):x∈A.C c F K n E C R:=N<|N<|N<|N<|N<|N<|N<|N<|N<|cs _ m
theorem zB{f k o n B T:Nat}(M:Nat)(h:f<=T/\k<=T/\o<=T/\n<=B+T)(e:T<=M):f<=M/\k<=M/\o<=M/\n<=B+M:=(hV (eJ h.1 e) (eJ h.2.1 e) (eJ h.2.2.1 e)<|eJ h.2.2.2<|Nat.add_le_add_left e B)
theorem xT{f k n B T:Nat}(M:Nat)(h:f<=T/\k<=T/\c.length<=T/\n<=B+T)(e:T<M):f<=M/\k<=M/\(c++[a]).length<=M/\n<=B+M:=by rw[eR];exact(hV (eJ h.1<|Nat.le_of_lt e) (eJ h.2.1<|Nat.le_of_lt e) (eJ (s4 h.2.2.1) e)<|eJ h.2.2.2<|Nat.add_le_add_left (Nat.le_of_lt e) B)
theorem KH{k n B T:Nat}{a:Type}{F:List a}{x:a}{c:List cL}{o:cL}(h:F.length<=T/\k<=T/\c.length<=T/\n<=B+T):(F++[x]).length<=T+1/\k<=T+1/\(c++[o]).length<=T+1/\n+1<=B+(T+1):=by rw[eR,eR];exact(hV (s4 h.1) (Nat.le_succ_of_le h.2.1) (s4 h.2.2.1)<|s4 h.2.2.2)
theorem LS.Mt(l:LS S B d P c F K n E C T)(e:T<99999):c.length<100000:=sg l.sz.2.2.1<|Nat.lt_succ_of_lt e
theorem uY(a:U O (A.C c F K (n+1) E C R)<|Y<|.int n):U O (A.C c F K n E C R)<|Tn (k+1) .nE [.ref A.lu] Y:=Cj z rfl rfl (.tail<|.tail<|.tail .head) (N<|N<|N q) a
theorem i0(e:g.v=h)(a:(A.lw,.inst .e7 A.wf)∈R)(b:c.length<100000)(f:U O (A.C (c++[g]) F K n E C R)<|Y .none):U O (A.C c F K n E C R)<|Tn (k+1) .oQ [.ref A.lw,h] Y:=by subst e;refine NZ (W.mem a) (N<|N<|N<|N q) z rfl .head (by rw[fZ];exact ci ‹_› m) ?_;unfold W.C at f;rw[sn] at f;exact f
theorem N1(a:(A.lw,.inst .e7 A.wf)∈R)(l:LS S B d P c F K n E C T)(h:T<1000)
 (o:∀r g j e,n<=e->LS S B d ((.free i,r)::P) g j K e E C (T+1)->U O (A.C g j K e E C R) (Y<|.int (r:Nat))):U O (A.C c F K n E C R)<|Tn (k+2) .jX [.ref A.lw,.int i] Y:=by
 refine aZ .a [.aq,.at_] jm z rfl rfl<|Q .e (W.mem a) z<|ou .b (N q) ?_;cases b:(fD F).lookup i with
 |some v=>refine bS (NW b) ?_;rintro r rfl f;exact CZ .a z<|Q .a (W.mem a) z<|cH .a (N q) b<|aR<|o r c F n (ct n) ⟨l.sim.NS f,l.tab,zB _ l.sz<|Nat.le_succ T⟩
 |none=>
  exact Cc .a z<|Q .a (W.mem a) z<|Az .a 3<|M .a<|uY<|aU .a (W.mem a) z<|M .a<|i0 (g:=.iH n i) z a (l.Mt<|ci ‹_› m)<|
   Q .a (W.mem a) z<|eY (n:=fD<|F++[(i,n)]) .a (by refine(bp<|gN b)▸?_;unfold fD;refine(bp sn)▸?_;rfl) (.tail .head) (by unfold fD;rw[fZ];exact sg l.sz.1<|ci ‹_› m)<|Q .a (W.mem a) z<|
   cH .a (N q) (by unfold fD;refine(bp sn)▸?_;exact j' b)<|aR<|o n _ _ (n+1) (Nat.le_succ n) ⟨l.sim.NT i,l.tab,KH l.sz⟩
end
section
variable{A:W}{S B L:Nat}{h:List Op}{P:List (Ag×Nat)}{f:List cL}{F:List (Int×Nat)}{K:cK}{n:Nat}{E:List (V×Nat)}{C:List Int}{R:H}{k:Nat}{T:dC}
theorem pC(a:b∈dG):∃y,ec b=some y:=by simp only[dG,ew,i3,or_false] at a;rcases a with rfl|rfl|rfl|rfl|rfl<;>exact⟨_,z⟩
theorem N2(b:(A.lw,.inst .e7 A.wf)∈R)(I:(A.t,.inst .dh<|kO A.tc A.tk A.tg A.tp)∈R)(j:Y∈dG)(l:LS S B h P f F K n E C L)(w:L<1000)
 (o:∀r a1 i g a,n<=g->E<+:a->LS S B h ((.hD Y,r)::P) a1 F i g a C (L+1)->U O (A.C a1 F i g a C R) (T<|.int (r:Nat))):U O (A.C f F K n E C R)<|Tn (k+3) .iF [.ref A.lw,Y] T:=by
 refine aZ .a [.aq,.fG] gX z rfl rfl<|Q .a (W.mem b) z<|aU .a (W.mem I) z<|M .e<|zA (X:=[_,_,_,_,_]) I l.tab j λp a G e H=>Q .e (W.mem (E:=a) b) z<|ou .b (N<|N q) ?_;haveI s:LS S B h P f F K n a C L:=⟨l.sim.tab (let ⟨t,u⟩:=G;⟨t.map (·.1),by exact sn▸(bp u)▸rfl⟩)<|sj C,e,l.sz⟩;refine oE (pC j) λy x=>?_;cases c:(kD K).lookup (p:Int) with
 |some v=>refine bS (NX c) ?_;rintro r rfl d;exact CZ .a z<|Q .a (W.mem (E:=a) b) z<|cH .a (N<|N q) c<|aR<|o r f K n a (ct n) G ⟨s.sim.RI d H,e,zB _ l.sz<|Nat.le_succ L⟩
 |none=>
  exact Cc .a z<|Q .a (W.mem (E:=a) b) z<|Az .a 3<|M .a<|uY (E:=a)<|aU .a (W.mem b) z<|M .a<|i0 (g:=.cst n p) z b (l.Mt<|ci ‹_› m)<|
   Q .a (W.mem b) z<|eY (n:=kD<|K++[(p,n)]) .a (by refine(bp<|gN c)▸?_;unfold kD;refine(bp sn)▸?_;rfl) (.tail<|.tail .head) (by unfold kD;rw[fZ];exact sg l.sz.2.1<|ci ‹_› m)<|Q .a (W.mem b) z<|
   cH .a (N<|N q) (by unfold kD;refine(bp sn)▸?_;exact j' c)<|aR<|o n _ _ (n+1) a (Nat.le_succ n) G ⟨s.sim.RK H x,e,let D:=KH (F:=K)<|eP l.sz.2.1 l.sz.1 l.sz.2.2;(eP D.2.1 D.1 D.2.2)⟩
theorem pD(t:(A.lw,.inst .e7 A.wf)∈R)(d:(A.t,.inst .dh<|kO A.tc A.tk A.tg A.tp)∈R)(v:∀x,g=.hD x->x∈dG)(w:∀s,g=.bL s->s<S)(l:LS S B h P f F K n E C L)(u:L<1000)
 (q:∀r j a1 a2 e Y,n<=e->E<+:Y->LS S B h ((g,r)::P) j a1 a2 e Y C (L+1)->U O (A.C j a1 a2 e Y C R) (T<|.int (r:Nat))):U O (A.C f F K n E C R)<|Tn (k+4) .nX [.ref A.lw,g.v] T:=by
 induction g using Ag.casesOn with
 |bL s=>exact aZ .a [.aq,.arg] gH z rfl rfl<|aR<|q s f F K n E (ct n) (sj E) ⟨l.sim.bL<|w s z,l.tab,zB _ l.sz<|Nat.le_succ L⟩
 |free i=>exact aZ .a [.aq,.arg] gH z rfl rfl<|aU .a (W.mem t) z<|M .a<|N1 t l u λr j a1 e a b=>aR<|q r j a1 K e E a (sj E) b
 |hD x=>exact aZ .a [.aq,.arg] gH z rfl rfl<|aU .a (W.mem t) z<|M .a<|N2 t d (v x z) l u λr j a2 e Y a b c=>aR<|q r j F a2 e Y a b c
end
section
variable{A:W}{S B i:Nat}{j:List Op}{P:List (Ag×Nat)}{h:List cL}{F:List (Int×Nat)}{K:cK}{n:Nat}{E:List (V×Nat)}{v:List Int}{R:H}{k:Nat}{w:dC}
def Ag.low(S:Nat)(g:Ag):Prop:=(∀d,g=.hD d->d∈dG)/\∀s,g=.bL s->s<S
theorem oG(e:(A.lw,.inst .e7 A.wf)∈R)(Q:(A.t,.inst .dh<|kO A.tc A.tk A.tg A.tp)∈R)(d:(a7,.list [g.v,s.v])∈R)(t:g.low S)(u:s.low S)(l:LS S B j P h F K n E v i)(T:i<999)
 (I:∀r a1 a6 a4 a5 a3 a2,n<=a3->E<+:a2->LS S B j ((s,a1)::(g,r)::P) a6 a4 a5 a3 a2 v (i+2)->U O (A.C a6 a4 a5 a3 a2 v R) (w<|.aF<|G [r,a1])):U O (A.C h F K n E v R)<|Tn (k+5) .jC [.ref A.lw,.ref a7] w:=
 aZ .a [.aq,.args] iJ z rfl rfl<|uV .a (W.mem d)<|cJ .a (df<|W.mem d)<|aU .a (W.mem e) z<|M .a<|pD e Q t.1 t.2 l (ci ‹_› m) λr p Y Z D X y N a=>cF<|cJ .a (df<|W.mem d)<|aU .a (W.mem e) z<|M .a<|
  pD e Q u.1 u.2 a (ci (sI ‹_› _) m) λa1 C f o J L x H c=>cF<|gB (df<|W.mem d)<|dF λb=>iC .a q<|aR<|aA aT.tl<|I r a1 C f o J L (eJ y x) (N.trans H) c
theorem KI(p:(A.lw,.inst .e7 A.wf)∈R)(J:(A.t,.inst .dh<|kO A.tc A.tk A.tg A.tp)∈R)(d:(s,.list [g.v])∈R)(f:g.low S)(l:LS S B j P h F K n E v i)(C:i<999)
 (o:∀r Y L T e c,n<=e->E<+:c->LS S B j ((g,r)::P) Y L T e c v (i+1)->U O (A.C Y L T e c v R) (w<|.aF<|G [r])):U O (A.C h F K n E v R)<|Tn (k+5) .jC [.ref A.lw,.ref s] w:=
 aZ .a [.aq,.args] iJ z rfl rfl<|uV .a (W.mem d)<|cJ .a (df<|W.mem d)<|aU .a (W.mem p) z<|M .a<|pD p J f.1 f.2 l (ci ‹_› m) λr t y I u x D H a=>cF<|gB (df<|W.mem d)<|dF λb=>iC .a q<|aR<|aA aT.tl<|o r t y I u x D H a
theorem nj{s:Nat}(q:U a L<|w<|.int s):U a L<|Tn (k+2) .lQ [.ref A.lw,.int s] w:=
 aZ .b [.aq,.bL] j4 z rfl rfl<|Ce .a (decide_eq_true<|jp s)<|aR q
theorem Ei(a:(A.lw,.inst .e7 A.wf)∈R)(q:U O (A.C h F K (n+1) E v R)<|w<|.int n):U O (A.C h F K n E v R)<|Tn (k+2) .lQ [.ref A.lw,.int<|-1] w:=
 aZ .a [.aq,.bL] j4 z rfl rfl<|Q .a (W.mem a) z<|Az .a 3<|M .a<|uY<|aR q
theorem ua(l:j9 S a v j h F K P n)(m:(Ag.bL s,r)∈P):r=s:=by
 refine db ((l.pb _ m).2) (λb=>?_) λb=>?_;·haveI b:Ag.bL s=.bL r:=b;clear m;cases b;rfl
 ·exact absurd z<|b.2 s
def Op.low(S:Nat):Op->Prop
 |.hD s d=>s<S/\d∈dG
 |.fS s g=>s<S/\10<=g/\g<13
 |.set c g a=>(c=.jw\/c=.eN)/\10<=g/\g<13/\a.low S
 |.bt s _ a b=>s<S/\a.low S/\b.low S
 |.fix x y a=>x<S/\y<S/\a.low S
 |.ay s _ a b=>(∀x,s=some x->x<S)/\a.low S/\b.low S
theorem KJ(V:(A.lw,.inst .e7 A.wf)∈R)(mt:(A.t,.inst .dh<|kO A.tc A.tk A.tg A.tp)∈R)(r:mH R a4 a2)(H:a2.low S)(l:LS S B j [] h F K n E v i)(hN:i<900)
 (a3:∀jL F' K' n' Y a1,n<=n'->E<+:Y->v<+:a1->LS S B (j++[a2]) [] jL F' K' n' Y a1 (i+4)->U O (A.C jL F' K' n' Y a1 R) (w .none)):U O (A.C h F K n E v R)<|Tn (k+6) .nY [.ref A.lw,a4] w:=by
 cases r with
 |hD a b=>
  exact aZ .a [.aq,.op] cN z rfl rfl<|Q .a (W.mem a) z<|aU .a (W.mem V) z<|aU .a (W.mem V) z<|Q .a (W.mem a) z<|M .a<|nj<|Q .a (W.mem V) z<|aU .a (W.mem mt) z<|Q .a (W.mem a) z<|M .a<|
   zA (X:=[_,_,_,_,_]) mt l.tab H.2 λp Y e1 G e2=>M .a<|i0 (E:=Y) (g:=.cst _ p) z V (l.Mt<|ci ‹_› m)<|dE<|a3 _ F K n Y v (ct n) e1 (sj v) ⟨(l.sim.tab (s:=Y.map (·.1)) (let ⟨t,ht⟩:=e1;⟨t.map (·.1),by exact sn▸(bp ht)▸rfl⟩)<|sj v).hD H.1 e2,G,xT _ l.sz<|bN 0x4c001d061c001d061 z⟩
 |fS a b=>
  exact aZ .a [.aq,.op] cN z rfl rfl<|Q .a (W.mem a) z<|Q .a (W.mem a) z<|aU .a (W.mem V) z<|aU .a (W.mem V) z<|Q .a (W.mem a) z<|M .a<|nj<|Q .a (W.mem V) z<|aU .a (W.mem mt) z<|Q .a (W.mem a) z<|M .a<|
   uX (X:=[_,_,_,_,_]) mt l.tab H.2 λp a1 e1 G e2=>M .a<|i0 (C:=a1) (g:=.Fm _ p) z V (l.Mt<|ci ‹_› m)<|dE<|a3 _ F K n E a1 (ct n) (sj E) e1 ⟨(l.sim.tab (sj _) e1).fS H.1 e2,G,xT _ l.sz<|bN 0x4c001d061c001d061 z⟩
 |@set p lr a5 g x a b=>
  haveI go:∀X T D L J(Z:Nat),n<=L->E<+:J->LS S B j ((x,Z)::[]) X T D L J v (i+1)->∀pl a1,v<+:a1->oF J a1->a1[pl]?=some g->U O (A.C (X++[.set a5 pl Z]) T D L J a1 R) (w .none):=λX T D L J Z o C d pl a1 f1 G f2=>a3 _ T D L J a1 o C f1 ⟨(d.sim.tab (sj _) f1).set H.1 q f2,G,xT _ d.sz<|r_ m _⟩;refine EO H λh1 h2 h3 h4 h5=>?_;clear H a3;rcases h1 with rfl|rfl
  ·exact aZ .a [.aq,.op] cN z rfl rfl<|Q .a (W.mem a) z<|Q .a (W.mem a) z<|Q .a (W.mem a) z<|Q .a (W.mem a) z<|aU .a (W.mem V) z<|Q .a (W.mem a) z<|fL .a (W.mem b) m z<|M .a<|pD V mt h4 h5 l (ci ‹_› m) λZ X T D L J o C d=>aU .a (W.mem V) z<|Q .a (W.mem a) z<|Q .a (W.mem V) z<|aU .a (W.mem mt) z<|Q .a (W.mem a) z<|M .a<|uX (X:=[_,_,_,_,_]) mt d.tab ⟨h2,h3⟩ λpl a1 f1 G f2=>M .a<|i0 (C:=a1) (g:=.set _ pl Z) z V (d.Mt<|ci (sI ‹_› _) m)<|dE<|go _ _ _ _ _ _ o C d pl a1 f1 G f2
  ·exact aZ .a [.aq,.op] cN z rfl rfl<|Q .a (W.mem a) z<|Q .a (W.mem a) z<|Q .a (W.mem a) z<|aU .a (W.mem V) z<|Q .a (W.mem a) z<|fL .a (W.mem b) m z<|M .a<|pD V mt h4 h5 l (ci ‹_› m) λZ X T D L J o C d=>aU .a (W.mem V) z<|Q .a (W.mem a) z<|Q .a (W.mem V) z<|aU .a (W.mem mt) z<|Q .a (W.mem a) z<|M .a<|uX (X:=[_,_,_,_,_]) mt d.tab ⟨h2,h3⟩ λpl a1 f1 G f2=>M .a<|i0 (C:=a1) (g:=.set _ pl Z) z V (d.Mt<|ci (sI ‹_› _) m)<|dE<|go _ _ _ _ _ _ o C d pl a1 f1 G f2
 |bt a b=>
  exact aZ .a [.aq,.op] cN z rfl rfl<|Q .a (W.mem a) z<|Q .a (W.mem a) z<|Q .a (W.mem a) z<|Q .a (W.mem a) z<|Q .a (W.mem a) z<|Q .a (W.mem a) z<|aU .a (W.mem V) z<|Q .a (W.mem a) z<|M .a<|oG V mt b H.2.1 H.2.2 l (ci ‹_› m) λr r' X T D L J o C d=>
   aU .a (W.mem V) z<|aU .a (W.mem V) z<|Q .a (W.mem a) z<|M .a<|nj<|Q .a (W.mem a) z<|M .a<|i0 (g:=.A5 _ _ [r,r']) z V (d.Mt<|ci (sI ‹_› _) m)<|dE<|
   a3 _ T D L J v o C (sj v) ⟨d.sim.bt H.1 (N q) q,d.tab,xT _ d.sz<|r_ m _⟩
 |fix a b c e f=>
  refine aZ .a [.aq,.op] cN z rfl rfl<|Q .a (W.mem a) z<|Q .a (W.mem a) z<|Q .a (W.mem a) z<|Q .a (W.mem a) z<|Q .a (W.mem a) z<|Q .a (W.mem a) z<|Q .a (W.mem a) z<|uV .a (W.mem c)<|cJ .a (df<|W.mem c)<|aU .a (W.mem V) z<|M .a<|
   oG V mt e ⟨nofun,λs hs=>(by cases hs;exact H.2.1)⟩ H.2.2 l (ci ‹_› m) λHd xk X T D L J o C d=>cF<|cJ .a (df<|W.mem c)<|aU .a (W.mem V) z<|M .a<|KI V mt f ⟨nofun,λs hs=>(by cases hs;exact H.1)⟩ d (ci (sI ‹_› _) m) λVb pE xU xV qU t_ lE pF u=>cF<|
   gB (df<|W.mem c)<|dF λrl=>aU .a (N<|W.mem V) z<|iC .a q<|aA aT.tl ?_
  haveI fq:=ua u.sim<|N<|N q;haveI rO:=ua u.sim q;clear c e f d;subst fq rO;exact M .a<|i0 (g:=.fix [(_,1,[_,xk]),(_,2,[_])]) z V (u.Mt<|bN 0x384c041c001d06011869fc061c1c2c001d06d0bd101 z hN)<|dE<|a3 _ xU xV qU t_ v (eJ o lE) (C.trans pF) (sj v) ⟨u.sim.fix H.1 H.2.1<|N q,u.tab,xT _ u.sz<|r_ m _⟩
 |@ay p lr s I x y a b=>
  refine aZ .a [.aq,.op] cN z rfl rfl<|Q .a (W.mem a) z<|Q .a (W.mem a) z<|Q .a (W.mem a) z<|Q .a (W.mem a) z<|Q .a (W.mem a) z<|aU .a (W.mem V) z<|Q .a (W.mem a) z<|M .a<|oG V mt b H.2.1 H.2.2 l (ci ‹_› m) λr r' X T D L J o C d=>aU .a (W.mem V) z<|aU .a (W.mem V) z<|Q .a (W.mem a) z<|M .a ?_;induction s using qG with
  |some s=>exact nj<|Q .a (W.mem a) z<|M .a<|i0 (g:=.yK _ _ [r,r']) z V (d.Mt<|ci (sI ‹_› _) m)<|dE<|a3 _ T D L J v o C (sj v) ⟨d.sim.ay (H.1 s z) (N q) q,d.tab,xT _ d.sz<|r_ m _⟩
  |none=>exact Ei V<|Q .a (W.mem a) z<|M .a<|i0 (g:=.yK _ _ [r,r']) z V (d.Mt<|ci (sI ‹_› _) m)<|dE<|a3 _ T D (L+1) J v (Nat.le_succ_of_le o) C (sj v) ⟨d.sim.U_ (N q) q,d.tab,let a6:=xT (i+3) d.sz<|r_ m _;(hV (Nat.le_succ_of_le a6.1) (Nat.le_succ_of_le a6.2.1) (Nat.le_succ_of_le a6.2.2.1)<|s4 a6.2.2.2)⟩
end
inductive jT where
 |cU (k a b:Nat)|br (r:Nat)|dj (a b:Nat)|call (f k a b:Nat)
noncomputable def jT.ctorIdx(x:jT):Nat:=jT.casesOn (motive:=λ_=>Nat) x (λ_ _ _=>0) (λ_=>1) (λ_ _=>2) λ_ _ _ _=>3
def jT.v:jT->V
 |.cU k a b=>.aF [.str .cU,.int k,.aF<|G [a,b]]
 |.br r=>.aF [.str .branch,.int r,.int 1,.int 2]
 |.dj a b=>.aF [.str .dj,.int 3,.aF<|G [a,b]]
 |.call f k a b=>.aF [.str .call,.int f,.int k,.aF<|G [a,b]]
inductive k_(P:List<|Ag×Nat):La->jT->Prop
 |cU {a b k:Ag} {ra rb rk:Nat} (x:(a,ra)∈P) (c:(b,rb)∈P) (d:(k,rk)∈P):k_ P (.cU a b k) (.cU rk ra rb)
 |iff {a:Ag} {r:Nat} (x:(a,r)∈P):k_ P (.iff a) (.br r)
 |dj {a b:Ag} {ra rb:Nat} (x:(a,ra)∈P) (c:(b,rb)∈P):k_ P (.dj a b) (.dj ra rb)
 |call {f a b k:Ag} {rf ra rb rk:Nat} (w:(f,rf)∈P) (x:(a,ra)∈P) (c:(b,rb)∈P) (d:(k,rk)∈P):k_ P (.call f a b k) (.call rf rk ra rb)
def La.low(S:Nat):La->Prop
 |.cU a b k=>a.low S/\b.low S/\k.low S
 |.iff a=>a.low S
 |.dj a b=>a.low S/\b.low S
 |.call f a b k=>f.low S/\a.low S/\b.low S/\k.low S
section
variable{A:W}{S B T:Nat}{e:List Op}{d:List cL}{F:List (Int×Nat)}{K:cK}{n:Nat}{E:List (V×Nat)}{L:List Int}{R:H}{k:Nat}{Y:dC}
theorem N3{p:Nat}(h:(A.lw,.inst .e7 A.wf)∈R)(mt:(A.t,.inst .dh<|kO A.tc A.tk A.tg A.tp)∈R)(r:mJ R p x)(i:x.low S)(l:LS S B e [] d F K n E L T)(hN:T<900)
 (a4:∀P a2 a3 a6 a1 w a5,n<=w->E<+:a5->LS S B e P a3 a6 a1 w a5 L (T+4)->k_ P x a2->U O ({A with NY:=a2.v}.C a3 a6 a1 w a5 L R) (Y .none)):U O (A.C d F K n E L R)<|Tn (k+6) .lR [.ref A.lw,.ref p] Y:=by
 cases r with
 |call a b c=>
  exact aZ .a [.aq,.last] eD z rfl rfl<|Q .a (W.mem a) z<|aU .a (W.mem h) z<|Q .a (W.mem a) z<|M .a<|pD h mt i.1.1 i.1.2 l (ci ‹_› m) λrf v I X C D V o g=>aU .a (W.mem h) z<|Q .a (W.mem a) z<|M .a<|
   oG h mt b i.2.1 i.2.2.1 g (ci (sI ‹_› _) m) λt u G Z xV H J j s f=>aU .a (W.mem h) z<|Q .a (W.mem a) z<|M .a<|pD h mt i.2.2.2.1 i.2.2.2.2 f (bN 0x384c041c001d06013e8c041c2c1c001d06d0bd101 z hN) λy Yd aai aaj N4 aak Ye Yg j7=>Q .a (W.mem h) z<|
   aX .a (.tail<|.tail<|.tail<|.tail .head) z rfl<|dE<|a4 _ (.call rf y t u) _ _ _ _ _ (eJ V<|eJ j Ye) (o.trans<|s.trans Yg) j7<|.call (N<|N<|N q) (N<|N q) (N q) q
 |cU a b c=>
  exact aZ .a [.aq,.last] eD z rfl rfl<|Q .a (W.mem a) z<|Q .a (W.mem a) z<|aU .a (W.mem h) z<|Q .a (W.mem a) z<|M .a<|pD h mt i.2.2.1 i.2.2.2 l (ci ‹_› m) λy v I X C D V o g=>aU .a (W.mem h) z<|Q .a (W.mem a) z<|M .a<|
   oG h mt b i.1 i.2.1 g (ci (sI ‹_› _) m) λt u G Z xV H J j s f=>Q .a (W.mem h) z<|aX .a (.tail<|.tail<|.tail<|.tail .head) z rfl<|dE<|
   a4 _ (.cU y t u) _ _ _ _ _ (eJ V j) (o.trans s) ⟨f.sim,f.tab,zB _ f.sz<|r_ m _⟩<|.cU (N q) q<|N<|N q
 |dj a b c=>
  exact aZ .a [.aq,.last] eD z rfl rfl<|Q .a (W.mem a) z<|Q .a (W.mem a) z<|Q .a (W.mem a) z<|Q .a (W.mem a) z<|fL .a (W.mem c) m z<|aU .a (W.mem h) z<|Q .a (W.mem a) z<|M .a<|
   oG h mt b i.1 i.2 l (ci ‹_› m) λt u G Z xV H J j s f=>Q .a (W.mem h) z<|aX .a (.tail<|.tail<|.tail<|.tail .head) z rfl<|dE<|a4 _ (.dj t u) _ _ _ _ _ j s ⟨f.sim,f.tab,zB _ f.sz<|Nat.add_le_add_left m _⟩<|.dj (N q) q
 |iff a b c=>
  exact aZ .a [.aq,.last] eD z rfl rfl<|Q .a (W.mem a) z<|Q .a (W.mem a) z<|Q .a (W.mem a) z<|aU .a (W.mem h) z<|Q .a (W.mem a) z<|M .a<|pD h mt i.1 i.2 l (ci ‹_› m) λr v I X C D V o g=>Q .a (W.mem a) z<|fL .a (W.mem c) m z<|
   Q .a (W.mem a) z<|fL .a (W.mem c) m z<|Q .a (W.mem h) z<|aX .a (.tail<|.tail<|.tail<|.tail .head) z rfl<|dE<|a4 _ (.br r) _ _ _ _ _ V o ⟨g.sim,g.tab,zB _ g.sz<|Nat.add_le_add_left m _⟩<|.iff q
end
def ZL(num:V)(b c:Nat)(a:V):List<|IK×V:=[(.ax,num),(.params,.ref b),(.ao,.ref c),(.cW,a)]
theorem Ej(l:Lv){d:Fr}{num:V}{b:Nat}{Z:aT}{L:H}(q:∀g L6,eh Z (Tn<|n+1) e l ((g,.inst .eZ<|ZL num b L6 .none)::(L6,.list [])::L) a c<|.v (.ref g) d):
 J Z (Tn<|n+1) e L a (.new .eZ::c)<|.v (.ref b)<|.v num (.m d):=
 s6 l λg=>aZ .a [.aq,.ax,.params] pO z rfl rfl<|aX .a .head z rfl<|aX .a .head z rfl<|aW .a λo=>aX .a (.tail .head) z rfl<|aX .a (.tail .head) z rfl<|jf<|aA (aT.mv [] [_] [_])<|q g o
theorem He(l:Lv){f:Fr}{u t b:Nat}{Z:aT}{L:H}
 (q:∀i e h,eh Z (Tn<|n+1) g l ((h,.dict false [])::(e,.dict false [])::(i,.inst .e7 [(.bO,.ref u),(.cD,.ref t),(.ab,.ref b),(.frees,.ref e),(.bE,.ref h)])::L) a c<|.v (.ref i) f):
 J Z (Tn<|n+1) g L a (.new .e7::c)<|.v (.ref b)<|.v (.ref t)<|.v (.ref u)<|.m f:=
 s6 l λi=>aZ .a [.aq,.bO,.cD,.ab] qt z rfl rfl<|aX .a .head z rfl<|aX .a .head z rfl<|aX .a .head z rfl<|aW .a λe=>aX .a (.tail .head) z rfl<|aW .a λh=>aX .a (.tail<|.tail .head) z rfl<|jf<|q i e h
structure LB where
 ps:List Nat
 ao:List cL
 en:jT
inductive oI(R:H)(num:Nat)(B:Nat)(a:LB):Prop
 |mk (pr:_) (L6:_) (w0:(B,.inst .eZ<|ZL (.int num) pr L6 a.en.v)∈R) (w1:(pr,.list<|G a.ps)∈R) (w2:(L6,.list<|a.ao.map cL.v)∈R)
theorem oI.mono{R d:H}{num B:Nat}(r:oI R num B g)(k:∀g∈R,g∈d):oI d num B g:=by obtain⟨e,f,a,b,c⟩:=r;exact⟨e,f,k _ a,k _ b,k _ c⟩
inductive Vc(S:Nat)(C:List V)(b:List Int)(n:Nat)(x:s7)(a:LB):Prop
 |mk (F:_) (K:_) (P:_) (w0:j9 S C b x.os a.ao F K P n) (w1:k_ P x.la a.en)
structure xW(S:Nat)(C:List V)(b:List Int)(n:Nat)(x:s7)(a:LB):Prop where
 ps:a.ps=x.ps
 len:a.ao.length<=12
 ex:Vc S C b n x a
def s7.low(S:Nat)(x:s7):Prop:=(∀o∈x.os,o.low S)/\x.la.low S/\x.os.length<=2
section
variable{A:W}{S B:Nat}{R:H}{k:Nat}{T:dC}
theorem RN{e:aV}{c:H}{KK:Kk}(L:(A.lw,.inst .e7 A.wf)∈R)(mt:(A.t,.inst .dh<|kO A.tc A.tk A.tg A.tp)∈R)(a6:∀x∈c,x∈R){I:List V}{os:List Op}(r:vX R I os):
 ∀{dn:List Op}{ao:List cL}{F:List (Int×Nat)}{K:cK}{n P:Nat}{E:List (V×Nat)}{G:List Int}{d:aV},(∀o∈os,o.low S)->LS S B dn [] ao F K n E G P->P+4*os.length<900->d .li=some (.ref A.lw)->(∀x,x≠.op->d x=e x)->
  (∀u s t p g i w,n<=p->E<+:g->G<+:i->LS S B (dn++os) [] u s t p g i (P+4*os.length)->(∀x,x≠.op->w x=e x)->U O (A.C u s t p g i R) λh=>KK .next ⟨w,h⟩)->
  Fo O (Tn<|k+6) (A.C ao F K n E G R) c (.one .op) (.cons (.expr<|.cz (.ai .li) .th<|.cons (.ai .op) Es.nil) Ss.nil) KK I d:=by
 induction r with
 |nil=>exactλ{dn ao F K n P E G d} _ l _ _ e0 a4=>b5 ⟨λh D x m=>O.get D<|W.mem<|a6 x m⟩<|a4 ao F K n E G d (ct n) (sj E) (sj G) (by rw[j0];exact l) e0
 |@cons v o vs os r _ X=>
  intro dn ao F K n P E G d C l j e1 e0 a4;replace j:=jM▸j;haveI a5:P+4*(os.length+1)=P+4+4*os.length:=ng (aG 0x1401e4c001d06d0e1c101d401e001d0e1 z)<|aG 0x1c101d401e001d0e1401e4c001d06d0e1 z;refine aO .v ⟨λh D x m=>O.get D<|W.mem<|a6 x m⟩<|y .a e1<|aU .a (W.mem L) z<|M .a<|KJ L mt r (C o q) l (aG 0x384c041c1c101d401e001d0ed1301384c041c001d061 z j) λu s t p g i a b a2 Y=>aP<|
   X (λo m=>C o<|N m) Y (a5▸j) e1 (λx J=>(if_neg J).trans<|e0 x J) λpE xU xV qU t_ Q a3 Z pF a1 f qe=>a4 pE xU xV qU t_ Q a3 (eJ a Z) (b.trans pF) (a2.trans a1) ?_ qe
  rw[lX] at f;refine(bp jM)▸(bp a5)▸?_;exact f
end
def Ek(num a c:V)(b:Nat)(e g d:V)(n f:Nat):List<|IK×V:=[(.ax,num),(.kr,a),(.ba,c),(.ah,.ref b),(.bA,e),(.fF,g),(.free,d),(.aj,.int n),(.bJ,.ref f)]
theorem kW{P:a->Prop}:∀y∈([]:List a),P y:=λ_ h=>absurd h i3
theorem j9.fh{S n:Nat}(h:S<=n):j9 S b g [] [] [] [] [] n:=
 ⟨h,kW,kW,kW,kW,kW,kW,kW,kW,kW,λ_ _ _ _ s a c e l=>by have:s=a:=me c;clear c;subst this;exact(oV e z l kW kW kW)⟩
theorem KN{D:dC}{A:W}{S n B X w t:Nat}{E:List (V×Nat)}{G:List Int}{R:H}{x:s7}{a':List V}{k:V}{d:aV}
 (o:(A.lw,.inst .e7 A.wf)∈R)(mt:(A.t,.inst .dh<|kO A.tc A.tk A.tg A.tp)∈R)(u:(B,.inst .hJ<|PM k X w<|.ref t)∈R)(v:(w,.list a')∈R)(y:vX R a' x.os)(T:mJ R t x.la)
 (l:x.low S)(I:oF E G)(L:S<=n)(e1:d .li=some (.ref A.lw))(e2:d .ab=some (.ref B))(e3:d .aB=some (.ref A.lb))
 (q:∀a7 h g a3,n<=h->h<=n+12->E<+:g->G<+:a3->oF g a3->xW S (g.map (·.1)) a3 h x a7->a7.ps=x.ps->∀a6 r,U O ({A with NY:=a7.en.v}.C a7.ao a6 r h g a3 R)<|D<|.ref A.lb):
 J O (Tn<|a4+6) (Rt D) (A.C [] [] [] n E G R) d [.ss<|Ss.dr 2 qw] .b:=by
 haveI i:=l.2.2;refine fe .li e1<|fe .ab e2<|fe .aB e3<|aY .a<|Q .a (W.mem u) z<|gd .z (W.mem v)<|RN (A:=A) (S:=S) (B:=n) (dn:=[]) (P:=0) o mt (λa7 a5=>(by rcases eL.mp a5 with rfl;exact v)) y l.1 ⟨.fh L,I,ct 0,ct 0,ct 0,ct n⟩ (bN 0x2c0200104384c041c0401ec01d09d0e1 z i) rfl (λ_ _=>rfl) λjL a6 r h g a3 aI a b c p j=>fe .li (j _ m)<|fe .ab (j _ m)<|fe .aB (j _ m)<|aY .a<|aU .a (W.mem o) z<|Q .a (W.mem u) z<|M .a<|N3 o mt T l.2.1 p (bN 0x2c0200104384c041c0401ec01d09d0e1 z i) λP f a1 C F Y Z N a2 e K=>aR ?_;haveI s:=e.sz;exact q ⟨x.ps,a1,f⟩ Y Z a3 (eJ a N) (bF 0x4c2401ec01d09d101d12001012c0220104cc101d060011 z i s.2.2.2) (b.trans a2) c e.tab ⟨z,by exact aG 0x4c1401ec01d09d0e001012c0210104cc020011 z i s.2.2.1,C,F,P,e.sim,K⟩ z C F
theorem AJ{S n h t l p o r i B s bl:Nat}{num d u bA hr free:V}{E:List (V×Nat)}{f:List Int}{R:H}{x:s7}
 (mt:(t,.inst .dh<|kO l p o r)∈R)(Z:Ec R i B x)(D:x.low S)(I:oF E f)(y:S<=n)
 (X:∀a5 g j e a3 a2,n<=j->j<=n+12->E<+:e->f<+:a3->oF e a3->xW S (e.map (·.1)) a3 j x a5->oI a2 i g a5->U O ((h,.inst .b7<|Ek num d u s bA hr free j bl)::ie l p o r e a3 (a2++R)) (a1<|.ref g)):
 U O ((h,.inst .b7<|Ek num d u s bA hr free n bl)::ie l p o r E f R)<|Tn (a4+7) .lI [.ref h,.ref t,.ref B] a1:=by
 obtain⟨pa,ob,la,ov,v,T,P,W,Y⟩:=Z;have M:∀{x},x∈R->x∈(h,a0.inst .b7<|Ek num d u s bA hr free n bl)::ie l p o r E f R:=λm=>N<|N<|N<|N<|N<|cs _ m;refine aZ .a [.bO,.cD,.ab] qw z rfl rfl<|Q .a (M v) z<|Q .a (M v) z<|mG .a (M T) λw=>Ej .a λg lo=>He .o λC A a6=>aA (λk=>aT.mv [_,_,_] [_] [_]<|aT.mv [_] [_] [_]<|aT.mv [] [_,_,_] [_]<|aT.mv [_,_,_,_] [_,_] (_::_::_::_::_::KO 0 E)<|aT.mv [_,_] [_] [_,_] k) ?_;refine KN (A:={lo:=lo,fd:=A,cd:=a6,lu:=h,lb:=g,lw:=C,t:=t,tc:=l,tk:=p,tg:=o,tp:=r,en:=s,bl:=bl,ZK:=w,num:=num,ttl:=d,xS:=u,bA:=bA,hr:=hr,free:=free,Va:=.int i,NY:=.none})
  (R:=(C,.inst .e7 [(.bO,.ref h),(.cD,.ref t),(.ab,.ref g),(.frees,.ref A),(.bE,.ref a6)])::(w,.list<|G x.ps)::R) q (N<|N mt) (N<|N v) (N<|N P) (W.mono λa5 m=>N<|N m) (Y.mono λa5 m=>N<|N m) D I y rfl rfl rfl
  λa5 j e a3 a J b c F K L F' K'=>aA (λk=>aT.mv [_] [_,_,_,_] (_::_::_::_::KO 0 e)<|aT.mv [] [_,_,_] [_] k)<|X a5 g j e a3 [_,_,_,_,_,_] a J b c F K ⟨w,lo,?_,?_,?_⟩
 ·exact N<|N<|N q
 ·exact L▸N (N<|N<|N<|N q)
 ·exact .head _
theorem Hf(l:Lv)
 (q:∀j b IZ,eh h (Tn<|n+1) g l ((j,.inst .b7<|Ek num i e b (.int 0) (.bool false) (.int 0) 0 IZ)::(b,.list [])::(IZ,.list [])::L) a c<|.v (.ref j) fs):J h (Tn<|n+1) g L a (.new .b7::c)<|.v e<|.v i<|.v num (.m fs):=
 s6 l λj=>aZ .a [.aq,.ax,.kr,.ba] qs z rfl rfl<|aX .a .head z rfl<|aX .a .head z rfl<|aX .a .head z rfl<|aW .a λb=>aX .a (.tail .head) z rfl<|aX .a (.tail .head) z rfl<|aX .a (.tail .head) z rfl<|aX .a (.tail .head) z rfl<|aX .a (.tail .head) z rfl<|
  aW .a λIZ=>aX .a (.tail<|.tail .head) z rfl<|jf<|aA (λH=>aT.mv [_] [_] [_]<|aT.mv [] [_,_] [_] H)<|q j b IZ
noncomputable def Un.dH(U:Un):List Nat:=List.range U.np++(if U.rest then[U.np] else if U.takes then[U.az] else[])
noncomputable def Un.aj(U:Un):Nat:=if !U.rest&&U.takes then U.az+1 else U.az
noncomputable def Un.bA(U:Un):Int:=if U.aD then(U.np:Int)-1 else U.np
structure Vd(R:H)(u:Nat)(num:Nat)(a:Un)(Ms IZ:Nat)(Bs:List Nat):Prop where
 u:(u,.inst .dz<|uF (.int num) (if a.aD then .aD else .cont) (.ref Ms) a.oz (.bool a.takes) (.int 2) a.az IZ<|.str .iO)∈R
 pl:(Ms,.list<|G<|List.range a.np)∈R
 bl:(IZ,.list<|Bs.map V.ref)∈R
 bs:zv R 0 Bs a.mO
theorem El{h C B u E l num:Nat}{F:List Nat}{R:H}(r:Vd R u num A E l F)(p:A.np<=3)
 (k:∀c,U O ((h,.inst .b7<|Ek (.int num) T (.bool<|!A.aD) c (.int A.bA) (.bool<|A.rest||A.takes) (.int 2) A.aj B)::(c,.list<|G A.dH)::R)<|w .none):
 U O ((h,.inst .b7<|Ek (.int num) T (.bool<|!A.aD) C (.int 0) (.bool false) (.int 2) A.az B)::R)<|Tn (L+2) .tn [.ref h,.ref u] w:=by
 haveI e:∀{x y t},x∈R->x∈y::t::R:=λm=>N<|N m;have s:∀(c:Nat)(a:aV),a .bO=some (.ref h)->a .dw=some (.ref u)->J O (Tn<|L+1) (Rt w) ((h,.inst .b7<|Ek (.int num) T (.bool<|!A.aD) c (.int A.bA) (.bool false) (.int 2) A.az B)::(c,.list<|G<|List.range A.np)::R) a [.ss<|Ss.dr 2 uD] .b:=λc a I K=>by
  haveI b:∀{y t},(u,a0.inst .dz<|uF (.int num) (if A.aD then .aD else .cont) (.ref E) A.oz (.bool A.takes) (.int 2) A.az l<|.str .iO)∈y::t::R:=e r.u;haveI o:(G<|List.range A.np).length<1000000:=by rw[bB,List.length_range];exact bN 0x3c0200101f4240c061c001d061 z p
  haveI k:=k c;refine fe .bO I<|fe .dw K ?_;cases v:A.rest with
  |true=>
   haveI i:A.oz=.int A.np:=by unfold Un.oz;refine(bp v)▸?_;rfl
   haveI g:A.dH=List.range A.np++[A.np]:=by unfold Un.dH;refine(bp v)▸?_;rfl
   haveI f:A.aj=A.az:=by unfold Un.aj;refine(bp v)▸?_;rfl
   replace k:=f▸g▸v▸k;rw[i] at b;haveI D:=decide_eq_true<|jp A.np;exact aY .a<|Q .b b z<|xO .b D<|Cc .a D<|aX .a .head z rfl<|uS .a 0<|gc .a (N q) z<|Q .b b z<|Ce .a D<|Q .a b z<|fg .a (dT ..) (.tail .head) o<|dE k
  |false=>
   haveI i:A.oz=.int (-1):=by unfold Un.oz;refine(bp v)▸?_;rfl
   rw[i] at b;cases d:A.takes with
   |true=>
    haveI g:A.dH=List.range A.np++[A.az]:=by unfold Un.dH;refine(bp v)▸(bp d)▸?_;rfl
    haveI f:A.aj=A.az+1:=by unfold Un.aj;refine(bp v)▸(bp d)▸?_;rfl
    replace k:=f▸g▸d▸v▸k;rw[d] at b;exact aY .a<|Q .a b z<|Q .a b z<|aX .a .head z rfl<|uS .a 0<|gc .a (N q) z<|Q .a b z<|Az .a 0<|M .a<|Cj (n:=A.az) z rfl rfl .head q<|fg .a (dT ..) (.tail .head) o<|dE k
   |false=>
    haveI g:A.dH=List.range A.np:=by unfold Un.dH;refine(bp v)▸(bp d)▸?_;exact j0 _
    haveI f:A.aj=A.az:=by unfold Un.aj;refine(bp v)▸(bp d)▸?_;rfl
    replace k:=f▸g▸d▸v▸k;rw[d] at b;exact aY .a<|Q .a b z<|Q .a b z<|dE k
 haveI n:((G<|List.range A.np).length:Int)=A.np:=by rw[bB,List.length_range]
 refine aZ .a [.bO,.dw] uD z rfl rfl<|Q .a (N r.u) z<|mG .a (N r.pl) λc=>aX .a (.tail .head) z rfl<|aA (aT.mv [] [_] [_])<|aY .a<|uS .b 0 ?_;haveI s:=s c;unfold Un.bA at s;cases j:A.aD with
 |true=>replace s:=j▸s;refine NM .a z<|Q .a (e r.u) z<|fv .a (e r.pl)<|aX .z .head z rfl<|(bp n)▸?_;exact s _ z rfl
 |false=>replace s:=j▸s;refine Ce .a z<|Q .a (e r.u) z<|fv .a (e r.pl)<|aX .z .head z rfl<|(bp n)▸?_;exact s _ z rfl
theorem j9.grow{S:Nat}{P:List (Ag×Nat)}(h:j9 S g w s ao j A P n)(c:n<=L)(v:g<+:e)(y:w<+:i):j9 S e i s ao j A P L:=
 ⟨eJ h.le c,λx m=>(by have:=h.fb x m;exact⟨aG 72339138019393553 z this.1,bF 0x2011c001d0601101201011011c001d061 z c this.2⟩),λx m=>(by have:=h.kb x m;exact⟨aG 72339138019393553 z this.1,bF 0x2011c001d0601101201011011c001d061 z c this.2⟩),λx m=>(by have:=h.pb x m;exact⟨by exact bF 0x2011c001d0601101201011011c001d061 z c this.1,this.2⟩),λo m=>⟨(h.rb o m).1,λr q=>(by have:=(h.rb o m).2 r q;exact bF 0x2011c001d0601101201011011c001d061 z c this)⟩,h.gv,h.nw,h.fw,h.kw,h.pw,λf l a b=>h.run f l (v.trans a)<|y.trans b⟩
theorem xW.grow{S n a:Nat}(h:xW S g j n x r)(l:n<=a)(f:g<+:b)(i:j<+:c):xW S b c a x r:=
 let ⟨F,K,P,s,e⟩:=h.ex
 ⟨h.ps,h.len,F,K,P,s.grow l f i,e⟩
def r9(S:Nat)(C:List V)(G:List Int)(n:Nat):List s7->List LB->Prop
 |[],[]=>True
 |x::b,y::a=>xW S C G n x y/\r9 S C G n b a
 |_,_=>False
theorem r9.grow{S n b:Nat}(l:n<=b)(f:g<+:c)(i:j<+:e):∀{o:List s7}{a:List LB},r9 S g j n o a->r9 S c e b o a:=λ{o}=>by
 induction o with
 |nil=>intro a h;induction a using da<;>exact h
 |cons x o m=>intro a h;induction a using da with|nil=>exact h.elim|cons y a=>exact⟨h.1.grow l f i,m h.2⟩
abbrev jg(R:H):Nat->List Nat->List LB->Prop:=pB<|oI R
theorem jg.mono{R a:H}(k:∀c∈R,c∈a){d:List Nat}(h:jg R i d b):jg a i d b:=pB.mono (λ_ _ _ r=>r.mono k) h
theorem N5{a b:Type}{l c:List a}(f:a->b)(h:l<+:c):l.map f<+:c.map f:=let ⟨t,e⟩:=h;⟨t.map f,by exact sn▸(bp e)▸rfl⟩
theorem ub{E a:List (V×Nat)}(h:E<+:a):E.map (·.1)<+:a.map (·.1):=N5 _ h
section
variable{k:Nat}{S w t A b Y u r j T:Nat}{g p e s L d:V}{R:H}{C:Fl->St->Prop}{c:aV}{v:List V}
theorem Hg(mt:(t,.inst .dh<|kO A b Y u)∈R)(mc:(T,.list v)∈R)(f1:c .bO=some (.ref w))(f2:c .cD=some (.ref t)):
 ∀{Bs:List Nat}{xs:List s7}{i:Nat}{dn:List Nat}{n:Nat}{E:List (V×Nat)}{G:List Int}{X:H}{f:aV},zv R i Bs xs->(∀x∈xs,x.low S)->dn.length+xs.length<100->oF E G->S<=n->(∀x,x≠.ab->f x=c x)->
  (∀F D a5 l o P aI,n<=a5->a5<=n+12*xs.length->E<+:l->G<+:o->oF l o->r9 S (l.map (·.1)) o a5 xs F->jg P i D F->(∀x,x≠.ab->aI x=c x)->
   U O ((j,.list<|(dn++D).map V.ref)::(w,.inst .b7<|Ek g p e r s L d a5 j)::ie A b Y u l o (P++(X++R))) λh=>C .next ⟨aI,h⟩)->
  Fo O (Tn<|k+7) ((j,.list<|dn.map V.ref)::(w,.inst .b7<|Ek g p e r s L d n j)::ie A b Y u E G (X++R)) [(T,.list v)] (.one .ab)
   (.cons (.expr<|.iT .append (.ay (.attr .bJ)<|.cons (.ai .bO) Es.nil)<|.cons (.call .lI<|.cons (.ai .bO)<|.cons (.ai .cD)<|.cons (.ai .ab) Es.nil) Es.nil) Ss.nil) C (Bs.map V.ref) f:=λ{Bs}=>by
 induction Bs with
 |nil=>
  intro xs i dn n E G X f a7 b0 b1 I _ e0 a4;clear b0 b1;induction xs using da with
  |cons x xs=>exact a7.elim
  |nil=>exact b5 (df<|N<|N<|N<|N<|N<|N<|cs _<|cs _ mc) (by have:=a4 [] [] n E G [] f (ct n) (ox _ _) (sj E) (sj G) I trivial trivial e0;rw[j0] at this;exact this)
 |cons B Bs ih=>
  intro xs i dn n E G X f a7 a6 K I hn e0 a4;induction xs using da with
  |nil=>exact a7.elim
  |cons x xs=>
   rw[jM] at K a4;refine aO .v (df<|N<|N<|N<|N<|N<|N<|cs _<|cs _ mc)<|y .a ((e0 _ m).trans f1)<|uS .a 1<|gc .v q z<|y .v ((e0 _ m).trans f1)<|y .a ((e0 _ m).trans f2)<|
    aA (aT.mv [] [_]<|_::_::_::_::_::KO 0 E)<|M .a<|AJ (x:=x) (i:=i) (R:=(j,.list<|dn.map V.ref)::(X++R)) (N<|cs _ mt) (a7.1.mono λaf a3=>N<|cs _ a3) (a6 x q) I hn λaf J a5 l o Z a a' Q a1 I' bs rl=>?_
   haveI a2:(KO 0 l++Z)++(X++R)=KO 0 l++((Z++X)++R):=by rw[lX,lX]
   unfold ie;rw[<-lX];refine aA (aT.mv [] (_::_::_::_::_::(KO 0 l++Z)) [_])<|aS<|aJ (a:=.a)<|fg (ys:=(dn++[J]).map V.ref) .a (by rw[sn];rfl) .head (by rw[fZ];exact aG 0x64c031c1c101d001d0ad0f01f4240c061c001d061 z K)<|aP ?_;show Fo _ _ ((j,.list<|(dn++[J]).map V.ref)::(w,.inst .b7<|Ek g p e r s L d a5 j)::(A,.list<|l.map (·.1))::(b,.dg<|C1 l)::(Y,.list<|o.map .int)::(u,.dict false<|k9 0 o)::((KO 0 l++Z)++(X++R))) _ _ _ _ _ _;rw[a2];refine ih a7.2 (λx a3=>a6 x<|N a3) (by rw[eR];exact aG 0x64c031c1c101d001d0ad0f0164c031c11c001d06d0ad0f1 z K) I' (eJ hn a) (λx a6=>(if_neg a6).trans<|e0 x a6) λF D qU t_ KL P jN lE Ve pF W xX Vf Vg rO=>?_;have:=a4 (af::F) (J::D) qU t_ KL (P++Z) jN (eJ a lE) (jQ 0x2c01e301d0900101cc101d06301011c201dc01e101d0e0011 z a' Ve) (Q.trans pF) (a1.trans W) xX ⟨bs.grow lE (ub pF) W,Vf⟩ ⟨rl.mono λaf a3=>cs _ a3,Vg.mono λaf a3=>ll _ a3⟩ rO;rw[lX P] at this;rw[lX dn,lX Z];exact this
end
inductive Vh(R:H)(lu num:Nat)(b:Un)(C:List V)(a:List Int)(n:Nat)(ys:List LB):Prop
 |mk (en:_) (IZ:_) (Ix:_) (w0:(lu,.inst .b7<|Ek (.int num) (.str .iO) (.bool<|!b.aD) en (.int b.bA) (.bool<|b.rest||b.takes) (.int 2) n IZ)∈R) (w1:(en,.list<|G b.dH)∈R) (w2:(IZ,.list<|Ix.map V.ref)∈R) (w3:jg R 0 Ix ys)
structure Hh(R:H)(lu num:Nat)(b:Un)(C:List V)(a:List Int)(n:Nat)(ys:List LB):Prop where
 ex:Vh R lu num b C a n ys
 sim:r9 b.az C a n b.mO ys
 n:b.aj<=n/\n<=b.aj+12*b.mO.length
theorem Hh.grow{R g:H}{i num n:Nat}{C e:List V}{G f:List Int}{j:List LB}(h:Hh R i num r C G n j)(k:∀s∈R,s∈g)(m:C<+:e)(o:G<+:f):Hh g i num r e f n j:=
 let ⟨l,q,p,a,b,c,d⟩:=h.ex
 ⟨⟨l,q,p,k _ a,k _ b,k _ c,d.mono k⟩,h.sim.grow (ct n) m o,h.n⟩
def Un.low(U:Un):Prop:=(∀x∈U.mO,x.low U.az)/\U.np<=3/\U.mO.length<90
theorem Ck(U:Un):U.az<=U.aj:=by unfold Un.aj;split<;>(first|exact bN 30786812510225 z|exact bN 65553 z)
theorem s9{R a:H}(k:∀c∈R,c∈a){d:List Nat}(h:zv R i d b):zv a i d b:=pB.mono (λ_ _ _ r=>r.mono k) h
theorem uW.mono{R e:H}(r:uW R h num g)(k:∀i∈R,i∈e):uW e h num g:=by obtain⟨l,j,f,a,b,c,d⟩:=r;exact⟨l,j,f,k _ a,k _ b,k _ c,s9 k d⟩
theorem Cm{E:List (V×Nat)}{R:H}
 (P:(ag,.inst .dh<|kO af w s x)∈R)(r:uW R ai num a4)(B:a4.low)(I:oF E a2)
 (u:∀i n a1 a6 a' a5,E<+:a6->a2<+:a'->oF a6 a'->Hh a5 i num a4 (a6.map (·.1)) a' n a1->U O (ie af w s x a6 a'<|a5++R) (a3<|.ref i)):U O (ie af w s x E a2 R)<|Tn (a7+8) .nT [.ref ai,.ref ag] a3:=by
 obtain⟨pl,bc,S,j,W,A,J⟩:=r;haveI k:∀{y},y∈R->y∈ie af w s x E a2 R:=λt=>N<|N<|N<|N<|cs _ t;haveI T:(!cZ (.str (if a4.aD then .aD else .cont)) (.str .aD))= !a4.aD:=by cases a4.aD<;>rfl
 refine aZ .a [.dw,.cD] wI z rfl rfl<|Q .a (k j) z<|Q .a (k j) z<|Q .e (k j) z ?_;refine eE (us:=[.str (if a4.aD then .aD else .cont),.str .aD]) .a (.bool<|!a4.aD) (congrArg (λb=>some<|V.bool b) T) ⟨rfl,rfl⟩<|Hf .a λi h C=>Q .a (N<|N<|N<|k j) z<|aX .a .head z rfl<|Q .a (N<|N<|N<|k j) z<|aX .a .head z rfl<|M .a<|
  El (C:=h) (B:=C) (T:=.str .iO) (R:=(h,.list [])::(C,.list [])::ie af w s x E a2 R) ⟨N<|N<|k j,N<|N<|k W,N<|N<|k A,s9 (λy t=>N<|N<|k t) J⟩ B.2.1 λg=>?_
 haveI F:∀{y a b c d},y∈R->y∈a::b::ie af w s x E a2 (c::d::R):=λt=>N<|N<|N<|N<|N<|N<|cs _<|N<|N t;refine aA (λf=>aT.mv [_,_] [_,_] (_::_::_::_::KO 0 E)<|aT.mv [] [_,_,_] [_] f)<|aS<|aJ (a:=.a)<|Q .a (F j) z<|gd .z (F A) ?_;refine Hg (S:=a4.az) (R:=R) (X:=[_,_]) (dn:=[]) (i:=0) (n:=a4.aj) (c:=bX (bX (bX (λ_=>none) .dw<|.ref ai) .cD<|.ref ag) .bO<|.ref i) P A rfl rfl J B.1 (by have:=B.2.2;exact bN 0x5ac031c001d060164c031c0c01d05d0a1 z this) I (Ck a4) (λ_ _=>rfl) λa1 o v a6 a' Y X a L b c K l Z p=>?_;haveI e:KO 0 a6++(Y++([(g,a0.list<|G a4.dH),(h,.list [])]++R))=(KO 0 a6++(Y++[(g,a0.list<|G a4.dH),(h,.list [])]))++R:=by rw[lX,lX]
 haveI D:(KO 0 a6++(Y++[(g,a0.list<|G a4.dH),(h,.list [])]))++([(C,a0.list<|o.map V.ref),(i,.inst .b7<|Ek (.int num) (.str .iO) (.bool<|!a4.aD) g (.int a4.bA) (.bool<|a4.rest||a4.takes) (.int 2) v C)]++R)=
  KO 0 a6++((Y++[(g,a0.list<|G a4.dH),(h,.list []),(C,a0.list<|o.map V.ref),(i,.inst .b7<|Ek (.int num) (.str .iO) (.bool<|!a4.aD) g (.int a4.bA) (.bool<|a4.rest||a4.takes) (.int 2) v C)])++R):=by simp
 refine fe .bO (p _ m)<|aY .a<|aR ?_;unfold ie;refine(bp<|show[]++o=o from rfl)▸(bp e)▸?_;refine aA (aT.mv [] [_,_]<|_::_::_::_::(KO 0 a6++(Y++[(g,a0.list<|G a4.dH),(h,.list [])]))) ?_;have:=u i v a1 a6 a' (Y++[(g,a0.list<|G a4.dH),(h,.list []),(C,a0.list<|o.map V.ref),(i,.inst .b7<|Ek (.int num) (.str .iO) (.bool<|!a4.aD) g (.int a4.bA) (.bool<|a4.rest||a4.takes) (.int 2) v C)]) b c K ⟨⟨g,C,o,cs Y<|N<|N<|N q,cs Y q,cs Y<|N<|N q,Z.mono λy t=>ll _ t⟩,l,a,L⟩;unfold ie at this;rw[<-D] at this;exact this
abbrev vH(R:H):Nat->List Nat->List Un->Prop:=pB λi u U=>uW R u i U
def pX(R:H)(C:List V)(G:List Int):Nat->List Nat->List Un->List (Nat×List LB)->Prop
 |_,[],[],[]=>True
 |i,l::b,U::a,z::h=>Hh R l i U C G z.1 z.2/\pX R C G (i+1) b a h
 |_,_,_,_=>False
theorem pX.grow{R n:H}(k:∀w∈R,w∈n)(r:c<+:g)(s:e<+:j):∀{i:Nat}{m:List Nat}{a:List Un}{b:List (Nat×List LB)},pX R c e i m a b->pX n g j i m a b:=λ{i m a b} h=>by
 induction m generalizing i a b with
 |nil=>induction a using da<;>induction b using da<;>exact h
 |cons l m u=>
  induction a using da with
  |nil=>exact h.elim
  |cons U a=>
   induction b using da with
   |nil=>exact h.elim
   |cons z b=>exact⟨h.1.grow k r s,u h.2⟩
section
variable{k:Nat}{t e d f c j:Nat}{R:H}{o:List V->St->Prop}{T:aV}{g:List V}
theorem Hi(mt:(t,.inst .dh<|kO e d f c)∈R)(K:(j,.list g)∈R)(W:T .cD=some (.ref t)):
 ∀{a6:List Nat}{r:List Un}{i:Nat}{acc:List V}{E:List (V×Nat)}{G:List Int}{X:H}{p:aV},vH R i a6 r->(∀a2∈r,a2.low)->oF E G->(∀x,x≠.dw->p x=T x)->
  (∀A C s v Y Q,E<+:s->G<+:v->oF s v->pX Y (s.map (·.1)) v i A r C->U O (ie e d f c s v<|Y++(X++R)) λh=>o (acc++A.map V.ref) ⟨Q,h⟩)->
  Co O (Tn<|k+8) (ie e d f c E G<|X++R) [(j,.list g)] (.one .dw) .tt (.call .nT<|.cons (.ai .dw)<|.cons (.ai .cD) Es.nil) o (a6.map V.ref) acc p:=λ{a6}=>by
 induction a6 with
 |nil=>
  intro r i acc E G X p w _ I _ a4;induction r using da with
  |cons a2 r=>exact w.elim
  |nil=>have:=a4 [] [] E G [] p (sj E) (sj G) I trivial;rw[List.map_nil,j0] at this;exact gB (df<|N<|N<|N<|N<|cs _<|cs _ K) this
 |cons u a6 ih=>
  intro r i acc E G X p w F I e0 a4;induction r using da with
  |nil=>exact w.elim
  |cons a2 r=>
   refine cJ .v (df<|N<|N<|N<|N<|cs _<|cs _ K)<|y .v z<|y .a ((e0 .cD m).trans W)<|M .a<|
    Cm (ai:=u) (num:=i) (a4:=a2) (R:=X++R) (cs _ mt) (w.1.mono λ_ a3=>cs X a3) (F a2 q) I
    λl n ys s v Z a b D lu=>cF ?_
   rw[<-lX];refine ih w.2 (λa2 a3=>F a2<|N a3) D (λx B=>(if_neg B).trans<|e0 x B) λA C t_ P Y a1 J L xX S=>?_;have:=a4 (l::A) ((n,ys)::C) t_ P (Y++Z) a1 (a.trans J) (b.trans L) xX ⟨lu.grow (λa5 a3=>cs _ a3) (ub J) L,S.grow (λa5 a3=>ll _ a3) (sj _)<|sj _⟩;rw[pc,List.append_cons,lX] at this;rw[lX Z];exact this
end
noncomputable def WA(m:Nat)(a:List Nat):Nat:=a.foldl (λm r=>m|||2^r) m
def No(a:List Nat):Nat:=WA 0 a
noncomputable def Ox(m o:Nat):Nat:=m&&&(m^^^o)
theorem KP(a b:Nat):cZ (.int (((a>>>b)&&&1:Nat):Int)) (.int 1)=a.testBit b:=by
 rw[Nat.testBit,Nat.and_comm];have:=Nat.and_one_is_mod<|a>>>b;rw[Nat.and_comm] at this;refine(bp this)▸?_
 (refine db (Nat.mod_two_eq_zero_or_one<|a>>>b) (λz=>?_) λz=>?_)<;>refine(bp z)▸?_<;>rfl
section
variable{n:Nat}{i:dC}{Z:aT}{L:H}
theorem Hj(f:U Z L<|ch c){b:List Nat}:∀{m:Nat}{a:aV},(∀r∈b,r<10000)->a .aB=some (.int m)->(∀d,d .aB=some (.int (WA m b:Nat))->U Z L λh=>KK .next ⟨d,h⟩)->
 Fo Z T L c (.one .aa) (.cons (.d_ .aB<|.ay (.fA .bor)<|.cons (.ai .aB)<|.cons (.ay (.fA .shl)<|.cons (.hD<|.int 1)<|.cons (.ai .aa) Es.nil) Es.nil) Ss.nil) KK (G b) a:=by
 induction b with
 |nil=>exactλ_ e j=>b5 f<|j _ e
 |cons r b g=>exactλ{m a} k e j=>aO (x:=.int r) (xs:=G b) .v f<|y .v e<|y .e z<|Fg .e (k r q)<|r8 .a<|aP<|g (m:=m|||2^r) (λr m=>k r<|N m) rfl j
theorem nk(m:(a,.list<|G b)∈L)(d:∀r∈b,r<10000)(q:U Z L<|i<|.int (No b:Nat)):U Z L<|Tn (n+1) .gC [.ref a] i:=
 aZ .a [.bi] yQ z rfl rfl<|gd .v m<|Hj (df m) d (m:=0) z λc e=>y .a e<|aR q
theorem s_(q:U Z L<|i<|.int (Ox a b:Nat)):U Z L<|Tn (n+1) .without [.int a,.int b] i:=
 aZ .e [.ku,.bH] yR z rfl rfl<|RA .e<|D_ .a<|aR q
theorem xY{a b:Nat}(c:b<10000)(q:U Z L<|i<|.bool<|a.testBit b):U Z L<|Tn (n+1) .ve [.int a,.int b] i:=
 aZ .e [.ku,.aa] EN z rfl rfl<|Fh .e c<|D_ (j:=1) .e<|eE (us:=[.int (((a>>>b)&&&1:Nat):Int),.int 1]) .a _ (congrArg (λb=>some<|V.bool b)<|KP a b) ⟨rfl,rfl⟩<|aR q
end
def Yi:cL->List (Sy×V)
 |.cst r k=>[(.dv,.int r),(.constant,.int k)]
 |.Fm r k=>[(.dv,.int r),(.global,.int k)]
 |.iH r n=>[(.dv,.int r),(.free,.int n)]
 |.zy r s=>[(.dv,.int r),(.cB,.int s)]
 |.set _ k s=>[(.global,.int k),(.cB,.int s)]
 |.yK r n a=>[(.dv,.int r),(.q9,.int n),(.aQ,.aF<|G a)]
 |.A5 r n a=>[(.dv,.int r),(.q8,.int n),(.aQ,.aF<|G a)]
 |.fix b=>[(.rows,.aF<|b.map iZ)]
def Yj(o:cL):List V:=(Yi o).map λp=>.aF [.str p.1,p.2]
noncomputable def oJ(b:List Nat)(a:List<|Nat×Int×List Nat):List Nat:=a.flatMap λx=>x.2.2.filter λr=> !b.contains r
inductive Rd:Sy×V->List Nat->Prop
 |src (r:Nat):Rd (.cB,.int r) [r]
 |JP (ss:List Nat):Rd (.aQ,.aF<|G ss) ss
 |rows (rows:List<|Nat×Int×List Nat):Rd (.rows,.aF<|rows.map iZ) (oJ (rows.map (·.1)) rows)
 |bH (s:Sy) (v:V) (h:s≠.cB/\s≠.aQ/\s≠.rows):Rd (s,v) []
inductive Wr:Sy×V->List Nat->Prop
 |RO (r:Nat):Wr (.dv,.int r) [r]
 |rows (rows:List<|Nat×Int×List Nat):Wr (.rows,.aF<|rows.map iZ) (rows.map (·.1))
 |bH (s:Sy) (v:V) (h:s≠.dv/\s≠.rows):Wr (s,v) []
section
variable{n:Nat}{A:dC}{Z:aT}{L:H}{T:Sp}
theorem Cn(b:c.nice)(q:∀a,U Z ((a,.list<|Yj c)::L)<|A<|.ref a):U Z L<|Tn (n+1) .fP [c.v] A:=by
 induction c using cL.casesOn with
 |zy=>cases b
 |set w k s=>
  rcases b with rfl|rfl
  ·exact aZ .a [.ae] i7 z rfl rfl<|aW .a λa=>aR<|q a
  ·exact aZ .a [.ae] i7 z rfl rfl<|aW .a λa=>aR<|q a
 |_=>exact aZ .a [.ae] i7 z rfl rfl<|aW .a λa=>aR<|q a
theorem Cp(e:U Z L<|ch c){i:List (Nat×Int×List Nat)}:∀{b:List V}{a:aV},(∀d,U Z L λh=>g (b++G (i.map (·.1))) ⟨d,h⟩)->
 Co Z T L c (.one .row) .tt (.ay .sub<|.cons (.ai .row)<|.cons (.hD<|.int 0) Es.nil) g (i.map iZ) b a:=by
 induction i with
 |nil=>exactλ{b a} q=>gB e (by have:=q a;rw[List.map_nil,show G []=[] from rfl,j0] at this;exact this)
 |cons x i f=>refineλ{b a} q=>cJ (x:=iZ x) (xs:=i.map iZ) .a e<|cF<|f λd=>?_;have:=q d;rw[pc,show G (x.1::i.map (·.1))=V.int x.1::G (i.map (·.1)) from rfl,List.append_cons] at this;exact this
theorem Hk{f:List V->St->Prop}(m:(j,.list<|G own)∈L){c:List Nat}:∀{b:List V}{a:aV},a .own=some (.ref j)->(∀d,U Z L λh=>f (b++G (c.filter λr=> !own.contains r)) ⟨d,h⟩)->
 Co Z T L [] (.one .aa) (.e<|.ay (.eW .gU)<|.cons (.ai .aa)<|.cons (.ai .own) Es.nil) (.ai .aa) f (G c) b a:=by
 induction c with
 |nil=>exactλ{b a} _ q=>gB jS (by have:=q a;rw[List.filter_nil,show G []=[] from rfl,j0] at this;exact this)
 |cons r c i=>
  intro b a e q;refine Kq (x:=.int r) (xs:=G c) .v jS<|y .v z<|y .e e<|xN .a m ?_;cases g:own.contains r with
  |true=>rw[List.filter_cons_of_neg<|by refine(bp g)▸?_;decide] at q;exact ZA z<|i e q
  |false=>refine Fk .a z<|cF<|i e λd=>?_;have:=q d;rw[List.filter_cons_of_pos (by refine(bp g)▸?_;rfl),show G (r::c.filter λr=> !own.contains r)=V.int r::G (c.filter λr=> !own.contains r) from rfl,List.append_cons] at this;exact this
end
section
variable{n:Nat}{Z:aT}{L:H}{T:Sp}
theorem pG(a b:List Nat):G (a++b)=G a++G b:=sn ..
theorem KQ:∀{k:List Nat}{a:aV},k.length+(oJ own A).length<1000000->a .own=some (.ref e)->a .aB=some (.ref w)->
 (∀c,c .aB=some (.ref w)->U Z ((e,.list<|G own)::(w,.list<|G<|k++oJ own A)::L) λh=>s .next ⟨c,h⟩)->
 Fo Z T ((e,.list<|G own)::(w,.list<|G k)::L) [] (.one .row) (.cons (.expr<|.iT .extend (.ai .aB)<|.cons (.comp (.ai .aa) (.one .aa) .it (.cons (.ay .sub<|.cons (.ai .row)<|.cons (.hD<|.int 2) Es.nil) Es.nil) (.e<|.ay (.eW .gU)<|.cons (.ai .aa)<|.cons (.ai .own) Es.nil) [(.fO,.e9),(.aa,.e9),(.own,.iH)]) Es.nil) Ss.nil) s (A.map iZ) a:=by
 induction A with
 |nil=>exactλ{k a} _ _ l f=>b5 jS (by have:=f a l;rw[show oJ own []=[] from rfl,j0] at this;exact this)
 |cons x A g=>intro k a b m l f;haveI d:oJ own (x::A)=(x.2.2.filter λr=> !own.contains r)++oJ own A:=z;rw[d,eR] at b;rw[d,<-lX] at f;exact aO (x:=iZ x) (xs:=A.map iZ) .v jS<|y .v l<|gc .v (N q) z<|y .a z<|tY .a (w:=G x.2.2)<|Hk q m λj=>dF λi=>uU .a (pG k<|x.2.2.filter λr=> !own.contains r).symm (.tail<|.tail .head) q (by rw[bB];rw[bB];exact bF 0xf4240c061c2101d001d09d0e01f4240c061c1001d05d0a1 z b)<|aP<|aA aT.tl<|g (by refine(bp eR)▸?_;exact bF 0xf4240c061c2101d001d09d0e01f4240c061c21001d05d09d0e1 z b) m l f
theorem Vi{b d:List Nat}{s:Sy}{v:V}{a:aV}(r:Rd (s,v) d)(m:a .aH=some (.str s))(o:a .gf=some v)(p:a .aB=some (.ref x))(g:b.length+d.length<1000000)
 (f:∀e,e .aB=some (.ref x)->J Z T w ((x,.list<|G<|b++d)::L) e [] .b):J Z T w ((x,.list<|G b)::L) a [.ss<|bD iA] .b:=by
 rw[pG] at f;refine fe .aH m<|fe .gf o<|fe .aB p ?_;cases r with
 |src r=>exact aY .a<|gc .a q z<|de .a .head (by rw[bB];exact Nat.le_of_lt ‹_›)<|f _ z
 |JP l=>exact aY .a<|gc .a q z<|G7 .a .head (by rw[bB,bB];exact aG 0xf4240c061c1001d05d0a01f4240c061c1001d05d0a1 z g)<|f _ z
 |rows rows=>exact aY .a<|tY .a (w:=rows.map iZ)<|Cp jS λj=>dF λk=>PL .z<|KQ (w:=x) (own:=rows.map (·.1)) (k:=b) g z rfl λh i=>aA aT.tl<|aY .a<|by rw[pG];exact f h i
 |bH _ _ c=>refine aY .e<|pW .e c.1<|pW .e c.2.1<|pW .a c.2.2<|?_;rw[show G []=[] from rfl,j0] at f;exact f _ z
theorem Vj{s:Sy}{v:V}{a:aV}(r:Wr (s,v) e)(k:a .aH=some (.str s))(l:a .gf=some v)(m:a .aB=some (.ref w))(g:b.length+e.length<1000000)
 (f:∀c,c .aB=some (.ref w)->J Z T j ((w,.list<|G<|b++e)::L) c [] .b):J Z T j ((w,.list<|G b)::L) a [.ss<|bD gh] .b:=by
 rw[pG] at f;refine fe .aH k<|fe .gf l<|fe .aB m ?_;cases r with
 |RO r=>exact aY .a<|gc .a q z<|de .a .head (by rw[bB];exact Nat.le_of_lt ‹_›)<|f _ z
 |rows rows=>exact aY .a<|gc .a q z<|tY .a (w:=rows.map iZ)<|Cp jS λh=>dF λi=>Ca .a (.tail .head) q (by rw[bB];show _+(G _).length<_;rw[bB];exact g)<|aA aT.tl<|f _ z
 |bH _ _ d=>refine aY .e<|pW .e d.1<|pW .a d.2<|?_;rw[show G []=[] from rfl,j0] at f;exact f _ z
end
inductive PS:List (Sy×V)->List Nat->Prop
 |nil:PS [] []
 |cons {p:Sy×V} {ps:List (Sy×V)} {a b:List Nat} (x:Rd p a) (c:PS ps b):PS (p::ps) (a++b)
inductive S1:List (Sy×V)->List Nat->Prop
 |nil:S1 [] []
 |cons {p:Sy×V} {ps:List (Sy×V)} {a b:List Nat} (x:Wr p a) (c:S1 ps b):S1 (p::ps) (a++b)
theorem RQ(o:cL):PS (Yi o) o.reads:=by
 haveI b:∀s v,(s≠Nm.cB/\s≠.aQ/\s≠.rows)->Rd (s,v) []:=λs v h=>.bH s v h;induction o using cL.casesOn with
 |cst=>exact .cons (b _ _ m)<|.cons (b _ _ m) .nil
 |Fm=>exact .cons (b _ _ m)<|.cons (b _ _ m) .nil
 |iH=>exact .cons (b _ _ m)<|.cons (b _ _ m) .nil
 |zy=>exact .cons (b _ _ m)<|.cons (.src _) .nil
 |set=>exact .cons (b _ _ m)<|.cons (.src _) .nil
 |yK r n a=>have:=PS.cons (b .dv (.int r) m)<|.cons (b .q9 (.int n) m)<|.cons (.JP a) .nil;rw[j0] at this;exact this
 |A5 r n a=>have:=PS.cons (b .dv (.int r) m)<|.cons (b .q8 (.int n) m)<|.cons (.JP a) .nil;rw[j0] at this;exact this
 |fix c=>have:=PS.cons (.rows c) .nil;rw[j0] at this;exact this
theorem RR(o:cL):S1 (Yi o) o.writes:=by
 haveI a:∀s v,(s≠Nm.dv/\s≠.rows)->Wr (s,v) []:=λs v h=>.bH s v h;induction o using cL.casesOn with
 |cst=>exact .cons (.RO _)<|.cons (a _ _ m) .nil
 |Fm=>exact .cons (.RO _)<|.cons (a _ _ m) .nil
 |iH=>exact .cons (.RO _)<|.cons (a _ _ m) .nil
 |zy=>exact .cons (.RO _)<|.cons (a _ _ m) .nil
 |set=>exact .cons (a _ _ m)<|.cons (a _ _ m) .nil
 |yK=>exact .cons (.RO _)<|.cons (a _ _ m)<|.cons (a _ _ m) .nil
 |A5=>exact .cons (.RO _)<|.cons (a _ _ m)<|.cons (a _ _ m) .nil
 |fix b=>have:=S1.cons (.rows b) .nil;rw[j0] at this;exact this
theorem Cq{o:cL}(h:o.nice):o.reads.length<=3/\o.writes.length<=2:=by
 induction o using cL.casesOn with
 |yK r n e=>refine vP h ?_;clear h;rintro a b rfl;exact⟨by show 2<=3;decide,by show 1<=2;decide⟩
 |A5 r n e=>refine vP h ?_;clear h;rintro a b rfl;exact⟨by show 2<=3;decide,by show 1<=2;decide⟩
 |fix f=>refine MB h ?_;clear h;rintro p q a rfl;refine⟨?_,by show 2<=2;decide⟩;show((([q,a].filter _)++(([p].filter _)++[])):List Nat).length<=3;rw[j0,eR];haveI c:=List.length_filter_le (λr=> !List.contains ([(p,(1:Int),[q,a]),(q,2,[p])].map (·.1)) r) [q,a];haveI d:=List.length_filter_le (λr=> !List.contains ([(p,(1:Int),[q,a]),(q,2,[p])].map (·.1)) r) [p];simp only[jM,List.length_nil] at c d;exact aG 0x1cc01d06101011c1cc01d06d0b001013c021001d051 z c d
 |zy=>cases h
 |_=>exact⟨Nat.le_of_ble_eq_true z,Nat.le_of_ble_eq_true z⟩
theorem ig(o:cL):(∀r∈o.reads,r∈o.bu)/\∀r∈o.writes,r∈o.bu:=by
 induction o using cL.casesOn with
 |fix b=>
  refine⟨λr m=>?_,λr m=>?_⟩;·exact bS (List.mem_flatMap.mp m) λx a c=>List.mem_flatMap.mpr<|a_ x a<|N (List.mem_filter.mp c).1
  ·refine bS (List.mem_map.mp m) ?_;clear m;rintro x a rfl;exact List.mem_flatMap.mpr<|a_ x a q
 |_=>exact⟨λr m=>cs _ m,λr m=>ll _ m⟩
section
variable{n:Nat}{Z:aT}{L:H}{T:Sp}{w:dC}
theorem Vk{f s:Nat}{i:List (Sy×V)}{c:List Nat}(r:PS i c):∀{o:List Nat}{a:aV},o.length+c.length<1000000->a .aB=some (.ref f)->
 (∀d,d .aB=some (.ref f)->U Z ((f,.list<|G<|o++c)::(s,.list g)::L) λh=>KK .next ⟨d,h⟩)->
 Fo Z T ((f,.list<|G o)::(s,.list g)::L) [(s,.list g)] (.many [.aH,.gf]) (bD iA) KK (i.map λp=>.aF [.str p.1,p.2]) a:=by
 induction r with
 |nil=>exactλ{o a} _ e m=>b5 (df<|N q) (by have:=m a e;rw[j0] at this;exact this)
 |cons x _ k=>intro o a b e m;replace b:=eR▸b;rw[<-lX] at m;exact aO .z (df<|N q)<|Vi x z rfl e (bF 0xf4240c061c2101d001d09d0e01f4240c061c1001d05d0a1 z b) λl j=>aP<|k (by refine(bp eR)▸?_;exact bF 0xf4240c061c2101d001d09d0e01f4240c061c21001d05d09d0e1 z b) j m
theorem Vl{f s:Nat}{i:List (Sy×V)}{c:List Nat}(r:S1 i c):∀{o:List Nat}{a:aV},o.length+c.length<1000000->a .aB=some (.ref f)->
 (∀d,d .aB=some (.ref f)->U Z ((f,.list<|G<|o++c)::(s,.list g)::L) λh=>KK .next ⟨d,h⟩)->
 Fo Z T ((f,.list<|G o)::(s,.list g)::L) [(s,.list g)] (.many [.aH,.gf]) (bD gh) KK (i.map λp=>.aF [.str p.1,p.2]) a:=by
 induction r with
 |nil=>exactλ{o a} _ e m=>b5 (df<|N q) (by have:=m a e;rw[j0] at this;exact this)
 |cons x _ k=>intro o a b e m;replace b:=eR▸b;rw[<-lX] at m;exact aO .z (df<|N q)<|Vj x z rfl e (bF 0xf4240c061c2101d001d09d0e01f4240c061c1001d05d0a1 z b) λl j=>aP<|k (by refine(bp eR)▸?_;exact bF 0xf4240c061c2101d001d09d0e01f4240c061c21001d05d09d0e1 z b) j m
theorem Cr{o:cL}(b:o.nice)(g:∀a,U Z ((a,.list<|G o.reads)::L)<|w<|.ref a):U Z L<|Tn (n+2) .fj [o.v] w:=by haveI c:=Cq b;exact aZ .a [.ae] iA z rfl rfl<|aW .a λf=>M .a<|Cn b λh=>aA (aT.mv [] [_] [_])<|aS<|aJ (a:=.a)<|gd .v (N q)<|Vk (o:=[]) (RQ o) (by exact bN 0x3c0200101f4240c061c0c01d05d0a1 z c.1) z λe d=>y .a d<|aR<|aA (λH=>Z.sub H<|.cons_cons _<|.cons _<|.refl _)<|g f
theorem uZ{o:cL}(b:o.nice)(g:∀a,U Z ((a,.list<|G o.writes)::L)<|w<|.ref a):U Z L<|Tn (n+2) .b8 [o.v] w:=by haveI c:=Cq b;exact aZ .a [.ae] gh z rfl rfl<|aW .a λf=>M .a<|Cn b λh=>aA (aT.mv [] [_] [_])<|aS<|aJ (a:=.a)<|gd .v (N q)<|Vl (o:=[]) (RR o) (by exact bN 0x2c0200101f4240c061c0c01d05d0a1 z c.2) z λe d=>y .a d<|aR<|aA (λH=>Z.sub H<|.cons_cons _<|.cons _<|.refl _)<|g f
def mY(o:cL)(m:Nat):Nat:=Ox m (No o.writes)|||No o.reads
theorem Cs{o:cL}(c:o.nice)(f:∀r∈o.bu,r<10000)(d:U Z L<|w<|.int (mY o e:Nat)):U Z L<|Tn (n+3) .i9 [o.v,.int e] w:=
 aZ .a [.op,.eA] tx z rfl rfl<|M .a<|uZ c λa=>M .a<|nk q (λr e=>f r<|(ig o).2 r e)<|M .a<|s_<|M .a<|Cr c λb=>M .e<|nk q (λr e=>f r<|(ig o).1 r e)<|r8 .a<|aR<|aA (λH=>aT.tl<|aT.tl H) d
end
noncomputable def jT.reads:jT->List Nat
 |.cU k a b=>[k,a,b]
 |.br r=>[r]
 |.dj a b=>[a,b]
 |.call f k a b=>[f,k,a,b]
noncomputable def jT.e6:jT->List Nat
 |.dj .. =>[3]
 |.br _=>[1,2]
 |_=>[]
noncomputable def KR(a:List LB)(i:Nat):List Nat:=(a[i]?).elim [] (·.ps)
def pH(b:List LB)(a:List Nat)(m i:Nat):Nat:=m|||Ox (a.getD i 0) (No<|KR b i)
def I5(b:List LB)(a:List Nat)(y:LB):Nat:=y.en.e6.foldl (pH b a)<|No y.en.reads
inductive UF(L:H)(lu:Nat)(ys:List LB):Prop
 |mk (fs:_) (IZ:_) (Ix:_) (w0:(lu,.inst .b7 fs)∈L) (w1:fs.lookup .bJ=some (.ref IZ)) (w2:(IZ,.list<|Ix.map V.ref)∈L) (w3:jg L 0 Ix ys)
theorem UF.mono{e:Nat}(u:UF L e h)(k:∀i∈L,i∈g):UF g e h:=by obtain⟨f,l,j,a,b,c,d⟩:=u;exact⟨f,l,j,k _ a,b,k _ c,d.mono k⟩
theorem UF.tl(u:UF L a b):UF (x::L) a b:=u.mono λ_ m=>N m
section
variable{n:Nat}{Z:aT}{L:H}{Y:dC}
theorem Hl{c:jT}(d:∀a,U Z ((a,.list<|G c.reads)::L)<|Y<|.ref a):U Z L<|Tn (n+1) .jZ [c.v] Y:=by
 induction c using jT.casesOn with
 |call f k a b=>exact aZ .a [.cW] kE z rfl rfl<|aW .a λx=>aW .a λy=>uT .a (N q) q (by show 2+2<1000000;decide) λe=>aR<|aA (λH=>Z.sub H<|.cons_cons _<|.cons _<|.cons _<|.refl _)<|d e
 |cU k a b=>exact aZ .a [.cW] kE z rfl rfl<|aW .a λx=>aW .a λy=>uT .a (N q) q (by show 1+2<1000000;decide) λe=>aR<|aA (λH=>Z.sub H<|.cons_cons _<|.cons _<|.cons _<|.refl _)<|d e
 |dj a b=>exact aZ .a [.cW] kE z rfl rfl<|aW .a λx=>aR<|d x
 |br r=>exact aZ .a [.cW] kE z rfl rfl<|aW .a λx=>aR<|d x
theorem jh{c:jT}(q:∀a,U Z ((a,.list<|G c.e6)::L)<|Y<|.ref a):U Z L<|Tn (n+1) .gE [c.v] Y:=by
 induction c using jT.casesOn with
 |dj a b=>exact aZ .a [.cW] lm z rfl rfl<|aW .a λx=>aR<|q x
 |br r=>exact aZ .a [.cW] lm z rfl rfl<|aW .a λx=>aR<|q x
 |_=>exact aZ .a [.cW] lm z rfl rfl<|aW .a λx=>aR<|q x
theorem Hm{c:H}(o:U Z L<|ch c)(u:UF L a1 b)(T:(A,.list<|G g)∈L)(K:g.length=b.length)(E:∀a2∈b,∀r∈a2.ps,r<10000){d:List Nat}:
 ∀{m:Nat}{a:aV},(∀i∈d,i<b.length)->a .aB=some (.int m)->a .bO=some (.ref a1)->a .dO=some (.ref A)->(∀l,l .aB=some (.int (d.foldl (pH b g) m:Nat))->U Z L λh=>KK .next ⟨l,h⟩)->
 Fo Z (Tn<|n+1) L c (.one .ax) (bD nH) KK (G d) a:=by
 induction d with
 |nil=>exactλ_ e _ _ P=>b5 o<|P _ e
 |cons i d I=>
  intro m a p e e1 e2 P;have f:=p i q;obtain⟨X,bl,S,s,t,v,w⟩:=u;obtain⟨B,x,R⟩:=w.at<|sB f;obtain⟨W,lo,C,F,O⟩:=R;have k:=K▸f;have D:(G g)[((i:Nat):Int).toNat]?=some (.int (g.getD i 0:Nat)):=by refine(bp<|oe)▸(bp<|sB k)▸(bp<|wS)▸(bp<|sB k)▸?_;rfl
  have y:(S.map V.ref)[((i:Nat):Int).toNat]?=some (.ref B):=by refine(bp<|oe)▸(bp x)▸?_;rfl
  haveI J:KR b i=b[i].ps:=by unfold KR;refine(bp<|sB f)▸?_;rfl
  exact aO (x:=.int i) (xs:=G d) .z o<|fe .aB e<|fe .dO e2<|fe .bO e1<|aY .a<|fL .a T (jp i) D<|Q .a s t<|fL .a v (jp i) y<|Q .a C z<|M .a<|nk F (E _<|List.getElem_mem f)<|
   M .e<|s_<|r8 .a<|aP<|I (m:=pH b g m i) (λj m=>p j<|N m) (by unfold pH;exact(bp J)▸rfl) rfl rfl P
end
def KS(a:List cL)(m:Nat):Nat:=a.foldr mY m
def pI:List cL->Nat->List Nat
 |[],_=>[]
 |_::a,m=>KS a m::pI a m
def Fp(s:List Nat×Nat)(o:cL):List Nat×Nat:=(s.1++[s.2],mY o s.2)
theorem zC:∀(c:List cL)(m:Nat),c.reverse.foldl Fp ([],m)=((pI c m).reverse,KS c m):=λa=>by
 induction a with
 |nil=>intro _;exact z
 |cons o d b=>intro m;refine(bp List.reverse_cons)▸(bp List.foldl_append)▸(bp<|b m)▸?_;refine List.reverse_cons▸?_;rfl
section
variable{n:Nat}{Z:aT}{L:H}{w:dC}
structure BF(L:H)(lu B bg:Nat)(ys:List LB)(bs:List Nat)(a:LB):Prop where
 u:UF L lu ys
 b:∃i,oI L i B a
 g:(bg,.list<|G bs)∈L
 len:bs.length=ys.length
 lead:∀i∈a.en.e6,i<ys.length
 er:∀r∈a.en.reads,r<10000
 pr:∀a∈ys,∀r∈a.ps,r<10000
 nice:∀o∈a.ao,o.nice/\∀r∈o.bu,r<10000
theorem Fq{g B c:Nat}(f:BF L g B c r h s)(k:U Z L<|w<|.int (I5 r h s:Nat)):U Z L<|Tn (n+2) .hG [.ref g,.ref B,.ref c] w:=by
 refine oE f.b λi j=>?_;obtain⟨p,t,d,m,o⟩:=j;exact aZ .a [.bO,.ab,.dO] nH z rfl rfl<|Q .a d z<|M .a<|Hl λa=>M .a<|nk q f.er<|Q .a (N d) z<|M .a<|jh λb=>gd .v q<|
  Hm (df q) f.u.tl.tl (N<|N f.g) f.len f.pr f.lead z rfl rfl λl e=>y .a e<|aR<|aA (λH=>aT.tl<|aT.tl H) k
theorem Hn{k:List cL}:∀{l:List Nat}{m:Nat}{a:aV},(∀o∈k,o.nice/\∀r∈o.bu,r<10000)->l.length+k.length<1000000->a .aB=some (.ref j)->a .eA=some (.int m)->
 (∀b,b .aB=some (.ref j)->b .eA=some (.int (k.foldl Fp (l,m)).2)->U Z ((g,.list e)::(j,.list<|G (k.foldl Fp (l,m)).1)::L) λh=>KK .next ⟨b,h⟩)->
 Fo Z (Tn<|n+3) ((g,.list e)::(j,.list<|G l)::L) [(g,.list e)] (.one .op) (bD nI) KK (k.map cL.v) a:=by
 induction k with
 |nil=>exactλ_ _ p s f=>b5 (df q)<|f _ p s
 |cons o k i=>
  intro l m a c d p s f;rw[jM] at d;exact aO .z (df q)<|fe .aB p<|fe .eA s<|aY .a<|gc .a (N q) z<|fg .a (dT l m) (.tail .head) (by rw[bB];exact aG 0xf4240c061c1c101d001d0ad0f01f4240c061c001d061 z d)<|M .a<|Cs (c o q).1 (c o q).2<|aP<|
   i (l:=l++[m]) (m:=mY o m) (λo m=>c o<|N m) (by rw[eR];exact aG 0xf4240c061c1c101d001d0ad0f01f4240c061c11c001d06d0ad0f1 z d) rfl rfl f
theorem Ho{g B d:Nat}{x:LB}(f:BF L g B d c b x)(k:x.ao.length<1000)(v:∀a,U Z ((a,.list<|G<|pI x.ao<|I5 c b x)::L)<|w<|.ref a):
 U Z L<|Tn (n+4) .kx [.ref g,.ref B,.ref d] w:=by
 refine oE f.b λi l=>?_;obtain⟨t,D,h,p,j⟩:=l;refine aZ .a [.bO,.ab,.dO] nI z rfl rfl<|M .a<|Fq f<|aW .a λr=>Q .a (N h) z<|Kl .a (N j) λu=>List.map_reverse▸?_;refine gd .v q<|Hn (l:=[]) (m:=I5 c b x) (λo m=>f.nice o<|List.mem_reverse.mp m) (by refine(bp List.length_reverse)▸?_;exact bN 0x3e8c041c001d0601f4240c061c0c01d05d0a1 z k) rfl rfl λs A C=>y .a A ?_;rw[zC];haveI e:(G (pI x.ao<|I5 c b x).reverse).reverse=G (pI x.ao<|I5 c b x):=by unfold G;rw[<-List.map_reverse,List.reverse_reverse]
 refine Kl .a (N q) λa=>aR<|(bp e)▸?_;exact aA (λH=>Z.sub H<|.cons_cons _<|.cons _<|.cons _<|.refl _)<|v a
theorem Em{i:List cL}:∀{l:List Nat}{m:Nat}{a:aV},(∀o∈i,o.nice/\∀r∈o.bu,r<10000)->a .eA=some (.int m)->
 (∀c,c .eA=some (.int (i.foldl Fp (l,m)).2)->U Z ((e,.list g)::L) λh=>KK .next ⟨c,h⟩)->
 Fo Z (Tn<|n+3) ((e,.list g)::L) [(e,.list g)] (.one .op) (bD kQ) KK (i.map cL.v) a:=by
 induction i with
 |nil=>exactλ_ j d=>b5 (df q)<|d _ j
 |cons o i f=>exactλ{l m a} b j d=>aO .z (df q)<|fe .eA j<|aY .a<|M .a<|Cs (b o q).1 (b o q).2<|aP<|f (l:=l++[m]) (m:=mY o m) (λo m=>b o<|N m) rfl d
theorem KU{b B a:Nat}{p:LB}(f:BF L b B a s bs p)(l:U Z L<|w<|.int (KS p.ao (I5 s bs p):Nat)):U Z L<|Tn (n+4) .iR [.ref b,.ref B,.ref a] w:=by refine oE f.b λi e=>?_;obtain⟨j,t,c,g,d⟩:=e;refine aZ .a [.bO,.ab,.dO] kQ z rfl rfl<|M .a<|Fq f<|Q .a c z<|Kl .a d λk=>List.map_reverse▸?_;refine gd .v q<|Em (l:=[]) (m:=I5 s bs p) (λo m=>f.nice o<|List.mem_reverse.mp m) rfl λh r=>?_;rw[zC] at r;exact y .a r<|aR<|aA aT.tl l
end
inductive i4:List LB->Prop
 |one {c:LB} {k a b:Nat} (h:c.en=.cU k a b) (p:c.ps=[]):i4 [c]
 |four {y0 y1 y2 y3:LB} {r a1 b1 a2 b2 f k a b s t:Nat} (KE:y0.en=.br r) (h1:y1.en=.dj a1 b1) (h2:y2.en=.dj a2 b2) (h3:y3.en=.call f k a b) (p0:y0.ps=[]) (p1:y1.ps=[]) (p2:y2.ps=[]) (p3:y3.ps=[s,t]):i4 [y0,y1,y2,y3]
section
variable{n:Nat}{L:H}{Y:dC}
theorem jg.one{R:H}{i:Nat}{c:List Nat}{y:LB}(h:jg R i c [y]):∃B,c=[B]/\oI R i B y:=by refine jn h.un ?_;clear h;rintro B c rfl a b;exact(a_ B ((bp b.no)▸rfl) a)
theorem jg.four{R:H}{i:Nat}{s:List Nat}{f g j k:LB}(h:jg R i s [f,g,j,k]):∃a b c d,s=[a,b,c,d]/\oI R i a f/\oI R (i+1) b g/\oI R (i+2) c j/\oI R (i+3) d k:=by refine jn h.un ?_;rintro a _ rfl l q;refine jn q.un ?_;rintro b _ rfl m r;refine jn r.un ?_;rintro c _ rfl o e;refine bS (jg.one e) ?_;clear e;rintro d rfl p;exact⟨a,b,c,d,z,l,m,o,p⟩
theorem Hq(u:UF L j [s])(v:s.en=.cU r a b)
 (k:∀e x,U O ((e,.list [.ref x])::(x,.list<|G [])::L)<|Y<|.ref e):U O L<|Tn (n+2) .ij [.ref j] Y:=by
 obtain⟨p,y,w,f,g,c,h⟩:=u;refine bS h.one ?_;clear h;rintro B rfl d;obtain⟨o,A,i,l,m⟩:=d;rw[v] at i;exact aZ .a [.bO] jF z rfl rfl<|Q .a f g<|uV .a c<|cJ .a (df c)<|aW .a λx=>cF<|gB (df<|N c)<|dF λe=>Q .a (N<|N f) g<|gd .a (N<|N c)<|aO .a (df<|N<|N c)<|Q .a (N<|N i) z<|
  M .a<|jh (c:=.cU r a b) λt=>gd .a q<|b5 (df q)<|aP<|b5 (df<|N<|N<|N c)<|aR<|aA aT.tl<|k e x
theorem ud{f B k i x:Nat}{L c:H}(g:(B,.inst .eZ j)∈L)(d:j.lookup .ax=some (.int k))(h:(f,.list s)∈L)(e:s[i]?=some (.ref x))
 (b:At x (.list<|G w) (.list<|G<|w++[k]) L c)(l:w.contains k=false)(o:w.length<1000)(p:a .ab=some (.ref B))(t:a .aB=some (.ref f))(u:a .ax=some (.int i))(q:J O T r c a [] .b):
 J O T r L a [.ss<|bD<|bD jF] .b:=
 aY .v<|y .v p<|Q .v g d<|y .v t<|y .a u<|fL .b h (jp i) e<|xN .b b.mem<|Cc .v (by refine(bp l)▸?_;rfl)<|y .v t<|y .a u<|fL .a h (jp i) e<|gc .v b.mem z<|y .a p<|Q .a g d<|fg .a (dT w k) b (by rw[bB];exact ci ‹_› m) q
theorem Hr(u:UF L lu [y0,y1,y2,y3])(D:y0.en=.br r)(T:y1.en=.dj a1 a3)(l:y2.en=.dj a2 a4)(W:y3.en=.call a5 a6 a b)
 (v:∀a7 a' s af ag,U O ((a7,.list [.ref a',.ref s,.ref af,.ref ag])::(ag,.list<|G [1,2])::(af,.list<|G [0])::(s,.list<|G [0])::(a',.list<|G [])::L)<|Y<|.ref a7):U O L<|Tn (n+2) .ij [.ref lu] Y:=by
 obtain⟨fs,bl,V,x,y,g,A⟩:=u;refine ri A.four ?_;clear A;rintro J P R S rfl C F K k;obtain⟨Z,X,h,_,_⟩:=C;obtain⟨H,E,i,_,_⟩:=F;obtain⟨I,o,j,_,_⟩:=K;obtain⟨KV,ZN,w,_,_⟩:=k;replace h:=D▸h;replace i:=T▸i;replace j:=l▸j;replace w:=W▸w;have f:∀{p a b c d e},p∈L->p∈a::b::c::d::e::L:=λt=>N<|N<|N<|N<|N t;refine aZ .a [.bO] jF z rfl rfl<|Q .a x y<|uV .a g<|cJ .a (df g)<|aW .a λa'=>cF<|cJ .a (df<|N g)<|aW .a λs=>cF<|cJ .a (df<|N<|N g)<|aW .a λaf=>cF<|cJ .a (df<|N<|N<|N g)<|aW .a λag=>cF<|
  gB (df<|N<|N<|N<|N g)<|dF λa7=>Q .a (f x) y<|gd .a (f g) ?_
 refine aO .a (df<|f g)<|Q .a (f h) z<|M .a<|jh (c:=.br r) λB=>gd .a q<|aO .z (df q)<|ud (i:=1) (k:=0) (w:=[]) (N<|f h) z (N q) z (.tail<|.tail<|.tail<|.tail .head) z m z rfl rfl<|aP<|
  aO .z (df q)<|ud (i:=2) (k:=0) (w:=[]) (N<|f h) z (N q) z (.tail<|.tail<|.tail .head) z m z rfl rfl<|aP<|b5 (df q)<|aP<|aA aT.tl ?_
 refine aO .a (df<|f g)<|Q .a (f i) z<|M .a<|jh (c:=.dj a1 a3) λB=>gd .a q<|aO .z (df q)<|ud (i:=3) (k:=1) (w:=[]) (N<|f i) z (N q) z (.tail<|.tail .head) z m z rfl rfl<|aP<|b5 (df q)<|aP<|aA aT.tl<|aO .a (df<|f g)<|Q .a (f j) z<|M .a<|jh (c:=.dj a2 a4) λB=>gd .a q<|aO .z (df q)<|ud (i:=3) (k:=2) (w:=[1]) (N<|f j) z (N q) z (.tail<|.tail .head) z m z rfl rfl<|aP<|b5 (df q)<|aP<|aA aT.tl ?_;exact aO .a (df<|f g)<|Q .a (f w) z<|M .a<|jh (c:=.call a5 a6 a b) λB=>gd .a q<|b5 (df q)<|aP<|aA aT.tl<|b5 (df<|f g)<|aR<|v a7 a' s af ag
end
noncomputable def cy:Ss->Ss
 |.cons (.iI _ b) _=>b
 |.cons _ r=>cy r
 |.nil=>.nil
section
variable{n:Nat}{L:H}{w:dC}{T:Sp}
theorem Ht(f:U O L<|ch c)(m:(x,.list<|G s)∈L):∀{b:List V}{a:aV},(∀p∈r,p∈s)->a .dy=some (.ref x)->(∀j,U O L λh=>i b ⟨j,h⟩)->
 Co O T L c (.one .bH) (.e<|.ay (.eW .gU)<|.cons (.ai .bH)<|.cons (.ai .dy) Es.nil) (.ai .bH) i (G r) b a:=by
 induction r with
 |nil=>exactλ_ _ d=>gB f<|d _
 |cons p r k=>exactλg e d=>Kq (x:=.int p) (xs:=G r) .v f<|y .v z<|y .e e<|xN .a m<|ZA (by refine(bp<|List.contains_iff_mem.mpr<|g p q)▸?_;rfl)<|k (λp m=>g p<|N m) e d
theorem ue{A g d l x i:Nat}{is bs ps:List Nat}{b:List LB}{S:LB}{F:List V}(u:UF L A b)(mf:(l,.list F)∈L)(ex:F[i]?=some (.ref x))(C:(x,.list<|G ps)∈L)(hp:∀a3∈ps,a3∈is)
 (k:b[i]?=some S)(t:bs.length=b.length)(f:∀i∈S.en.e6,i<b.length)(e:∀r∈S.en.reads,r<10000)(H:∀S∈b,∀r∈S.ps,r<10000)(o:∀a2∈S.ao,a2.nice/\∀r∈a2.bu,r<10000)(W8:is.length<1000)
 (e1:a .bO=some (.ref A))(e2:a .dO=some (.ref d))(e3:a .dy=some (.ref g))(X:a .ahead=some (.ref l))
 (P:∀j,(∀a4,a4≠.ax->a4≠.aB->j a4=a a4)->J O (Tn<|n+4) a1 ((g,.list<|G is)::(d,.list<|G<|bs.set i<|KS S.ao<|I5 b bs S)::L) j [] .b):
 J O (Tn<|n+4) a1 ((g,.list<|G<|is++[i])::(d,.list<|G bs)::L) a [.ss<|cy mU] .b:=by
 obtain⟨fs,bl,Bs,p,D,E,I⟩:=id u;refine bS (I.at k) λB U W=>?_;have hi:=(v6.mp k).1;have h:=t▸hi;have Y:(Bs.map V.ref)[((i:Nat):Int).toNat]?=some (.ref B):=by refine(bp<|oe)▸(bp U)▸?_;rfl
 have ev:(G bs)[((i:Nat):Int).toNat]?=some (.int (bs[i]'h:Nat)):=by refine(bp<|oe)▸(bp<|sB h)▸?_;rfl
 refine(bp<|show G (is++[i])=G is++[.int i] from(dT is i).symm)▸?_;have s:∀{v R:V} a4,a4≠.ax->a4≠.aB->bX (bX a .ax v) .aB R a4=a a4:=λa4 n1 n2=>(if_neg n2).trans<|if_neg n1;refine aY .v<|y .v e3<|gc .a q z<|PG .v .head<|y .v e1<|y .v e1<|Q .a (N<|N p) D<|fL .v (N<|N E) (jp i) Y<|y .a e2<|M .v<|
  KU (s:=b) (bs:=bs) ⟨u.tl.tl,⟨0+i,W.mono λ_ K=>N<|N K⟩,N q,t,f,e,H,o⟩<|y .v z<|y .v e2<|y .a z<|fL .e (N q) (jp i) ev<|PK .a .v (λc=>?_) λ_=>?_
 ·have c:=Int.ofNat.inj c;rw[c,List.set_getElem_self] at P;refine(bp c)▸?_;exact P _ s
 ·refine y .v z<|y .v e2<|y .a z<|oy .v (.tail .head) (jp i) (by rw[bB];lia) ?_;haveI Z:(G bs).set ((i:Nat):Int).toNat (.int (KS S.ao (I5 b bs S):Nat))=G (bs.set i<|KS S.ao<|I5 b bs S):=by unfold G;refine(bp List.map_set)▸?_;rfl
  refine(bp Z)▸?_;exact y .v e3<|gc .v q z<|y .v X<|y .a z<|fL .a (N<|N mf) (jp i) ex<|uV .a (N<|N C)<|Ht (df<|N<|N C) q hp e3 λgY=>dF λa4=>uU .a (j0 _) (.tail .head) q (by rw[bB];exact ci ‹_› m)<|aA aT.tl<|P _ s
end
def PT(b:List LB)(a:List Nat):Prop:=a.length=b.length/\∀(i:Nat)(y:LB),b[i]?=some y->a[i]?=some (KS y.ao<|I5 b a y)
structure YB(ys:List LB):Prop where
 er:∀a∈ys,∀r∈a.en.reads,r<10000
 pr:∀a∈ys,∀r∈a.ps,r<10000
 nice:∀a∈ys,∀o∈a.ao,o.nice/\∀r∈o.bu,r<10000
theorem KW(H:O.C h<|a::b::L):O.C h<|a::L:=O.sub H<|.cons_cons _<|.cons _<|.refl L
section
variable{n:Nat}{L:H}{f:dC}
theorem Hu(u:UF L lu a1)(sh:i4 a1)(yb:YB a1)(S:∀a3 a2,PT a1 a2->U O ((a3,.list<|G a2)::L) (f<|.ref a3)):U O L<|Tn (n+5) .nU [.ref lu] f:=by
 obtain⟨fs,bl,Bs,p,v,w,A⟩:=id u;cases sh with
 |@one V k a b h0 p0=>
  refine bS A.one ?_;clear A;rintro B rfl _;refine aZ .a [.bO] mU z rfl rfl<|aW .a λW=>Q .a (N p) v<|fv .e (N w)<|Km .a q (by show(0:Int)<=(1:Nat);decide) (by show((1:Nat):Int)<1000000;decide) λa3=>aA KW<|aS<|aJ (a:=.a)<|Q .a (N p) v<|fv .o (N w)<|
   vD .a (by show(0:Int)<=(1:Nat);decide) (by show((1:Nat):Int)<1000000;decide) λwa=>M .a<|Hq u.tl.tl h0 λZ x=>kp .v 2<|aA (aT.mv [] [_,_] [_,_])<|eI .a<|aW .a λe=>nf .b (N q) q<|C0 .z z<|aA aT.tl<|
   ue (is:=[]) (i:=0) (bs:=[0]) (ps:=[]) (S:=V) u.tl.tl q z (N q) nofun rfl rfl (by refine(bp h0)▸?_;nofun) (yb.er V q) yb.pr (yb.nice V q) m z rfl rfl rfl λxZ K=>iM<|
   eI .v<|y .a (K _ m m)<|aW .a λe=>nf .b (N q) q<|Mr z<|y .a (K _ m m)<|aR<|aA (λH=>O.sub H<|.cons _<|.cons _<|.cons_cons _<|.cons _<|.cons _<|.refl L)<|S a3 _ ⟨z,λi y' hy=>?_⟩
  induction i using wQ with
  |zero=>cases hy;show some _=some _;unfold I5;refine(bp h0)▸?_;rfl
  |succ i=>cases hy
 |@four c d g h r Vn RS Vo RT R k a b s t h0 F D J p0 p1 p2 p3=>
  refine zQ A.four ?_;clear A;rintro B0 B1 B2 B3 rfl _;haveI E:c∈[c,d,g,h]:=.head _;haveI I:d∈[c,d,g,h]:=N q;haveI T:g∈[c,d,g,h]:=N<|N q;haveI P:h∈[c,d,g,h]:=N<|N<|N q;refine aZ .a [.bO] mU z rfl rfl<|aW .a λW=>Q .a (N p) v<|fv .e (N w)<|Km .a q (by show(0:Int)<=(4:Nat);decide) (by show((4:Nat):Int)<1000000;decide) λa3=>aA KW<|aS<|aJ (a:=.a)<|Q .a (N p) v<|fv .o (N w)<|
   vD .a (by show(0:Int)<=(4:Nat);decide) (by show((4:Nat):Int)<1000000;decide) λwa=>M .a<|Hr u.tl.tl h0 F D J λZ x0 x1 x2 x3=>kp .v 5<|aA (aT.mv [] [_,_,_,_,_] [_,_]) ?_
  haveI C:=u.tl (x:=(x0,.list<|G [])) |>.tl (x:=(x1,.list<|G [0])) |>.tl (x:=(x2,.list<|G [0])) |>.tl (x:=(x3,.list<|G [1,2])) |>.tl (x:=(Z,.list [.ref x0,.ref x1,.ref x2,.ref x3]));refine eI .a<|aW .a λe=>nf .b (N q) q<|C0 .z z<|aA aT.tl<|
   ue (is:=[0,1,2]) (i:=3) (bs:=[0,0,0,0]) (ps:=[1,2]) (S:=h) C q z (N q) m z rfl (by refine(bp J)▸?_;nofun) (yb.er h P) yb.pr (yb.nice h P) m z rfl rfl rfl λρ1 e1=>iM ?_
  haveI o:=λW n1 n2=>e1 W n1 n2;refine eI .v<|y .a (o _ m m)<|aW .a λe=>nf .b (N q) q<|C0 .z z<|aA aT.tl<|
   ue (is:=[0,1]) (i:=2) (bs:=[0,0,0,_]) (ps:=[0]) (S:=g) C q z (N<|N q) m z rfl (by refine(bp D)▸?_;show∀i∈[3],i<4;decide) (yb.er g T) yb.pr (yb.nice g T) m (o _ m m) (o _ m m) (o _ m m) (o _ m m) λρ2 e2=>iM ?_
  haveI j:=λW n1 n2=>(e2 W n1 n2).trans<|e1 W n1 n2;clear e1 o e2;refine eI .v<|y .a (j _ m m)<|aW .a λe=>nf .b (N q) q<|C0 .z z<|aA aT.tl<|
   ue (is:=[0]) (i:=1) (bs:=[0,0,_,_]) (ps:=[0]) (S:=d) C q z (N<|N<|N q) m z rfl (by refine(bp F)▸?_;show∀i∈[3],i<4;decide) (yb.er d I) yb.pr (yb.nice d I) m (j _ m m) (j _ m m) (j _ m m) (j _ m m) λρ3 e3=>iM ?_
  haveI l:=λW n1 n2=>(e3 W n1 n2).trans<|j W n1 n2;clear j e3;refine eI .v<|y .a (l _ m m)<|aW .a λe=>nf .b (N q) q<|C0 .z z<|aA aT.tl<|
   ue (is:=[]) (i:=0) (bs:=[0,_,_,_]) (ps:=[]) (S:=c) C q z (N<|N<|N<|N q) m z rfl (by refine(bp h0)▸?_;show∀i∈[1,2],i<4;decide) (yb.er c E) yb.pr (yb.nice c E) m (l _ m m) (l _ m m) (l _ m m) (l _ m m) λρ4 X=>iM ?_
  haveI Y:=λW n1 n2=>(X W n1 n2).trans<|l W n1 n2;clear l X;refine eI .v<|y .a (Y _ m m)<|aW .a λe=>nf .b (N q) q<|Mr z<|y .a (Y _ m m)<|aR<|
   aA (λH=>O.sub H<|.cons _<|.cons _<|.cons_cons _<|.cons _<|.cons _<|.cons _<|.cons _<|.cons _<|.refl L)<|S a3 _ ⟨z,λi y' hy=>?_⟩
  rcases i with _|_|_|_|i
  ·cases hy;show some _=some _;unfold I5;refine(bp h0)▸?_;rfl
  ·cases hy;show some _=some _;unfold I5;refine(bp F)▸?_;rfl
  ·cases hy;show some _=some _;unfold I5;refine(bp D)▸?_;rfl
  ·cases hy;show some _=some _;unfold I5;refine(bp J)▸?_;rfl
  ·cases hy
end
theorem u0(m o b:Nat):(Ox m o).testBit b=(m.testBit b&& !o.testBit b):=by unfold Ox;rw[Nat.testBit_and,Nat.testBit_xor];cases m.testBit b<;>cases o.testBit b<;>rfl
theorem N6:∀(a:List Nat)(m b:Nat),(WA m a).testBit b=(m.testBit b||a.contains b):=λc=>by
 induction c with
 |nil=>intro m b;show m.testBit b=_;simp
 |cons r a d=>
  intro m b;show(WA (m|||2^r) a).testBit b=_;rw[d,Nat.testBit_or,Nat.testBit_two_pow,List.contains_cons];by_cases q:r=b;·subst q;simp
  ·rw[decide_eq_false q,nz.mpr λe=>q e.symm,Bool.or_false,Bool.false_or]
theorem jO(a:List Nat)(b:Nat):(No a).testBit b=a.contains b:=by unfold No;rw[N6,Nat.zero_testBit,Bool.false_or]
section
variable{n:Nat}{L:H}{w:dC}{T:Sp}{Z:aT}
theorem PU(h:a<2^i):a>>>i=0:=by rw[Nat.shiftRight_eq_div_pow];exact Nat.div_eq_of_lt h
theorem Vp(h:¬a<2^i):decide (((a>>>i:Nat):Int)>0)=true:=decide_eq_true<|Int.ofNat_lt.mpr<|by rw[Nat.shiftRight_eq_div_pow];exact Nat.div_pos (Nat.le_of_not_lt h)<|Nat.two_pow_pos i
theorem Hv(m i:Nat):G ((List.range<|i+1).filter m.testBit)=G ((List.range i).filter m.testBit)++(if m.testBit i then[.int i] else[]):=by
 rw[List.range_succ,List.filter_append];cases a:m.testBit i with
 |true=>rw[List.filter_cons_of_pos a];exact(dT ..).symm
 |false=>rw[List.filter_cons_of_neg<|by rw[a];decide];exact(congrArg G<|j0 _).trans (j0 _).symm
theorem Hw{f k K:Nat}(r:k<2^K)(o:K<9000)(l:∀x A,k<2^x->A .aB=some (.ref f)->U Z ((f,.list<|G<|(List.range x).filter k.testBit)::L) λh=>KK .next ⟨A,h⟩)(d:Nat):∀{i:Nat},K=i+d->∀{a:aV},a .aB=some (.ref f)->a .at_=some (.int i)->a .ku=some (.int k)->
 Wo Z T ((f,.list<|G<|(List.range i).filter k.testBit)::L) (.e<|.ay (.eW .gt)<|.cons (.ay (.fA .shr)<|.cons (.ai .ku)<|.cons (.ai .at_) Es.nil)<|.cons (.hD<|.int 0) Es.nil) (cy uE) KK (d+1) a:=by
 induction d with
 |zero=>
  intro i c a u t v;have e:k<2^i:=by rw[c] at r;exact r
  exact eI .v<|y .v v<|y .ev t<|Fh .a (by exact aG 0xc001d05101212328c051c101d06012710c051c001d061 z o c)<|Mr (by refine(bp<|PU e)▸?_;rfl)<|l i a e u
 |succ d s=>
  intro i c a u t v;have j:i<10000:=by exact bF 0x1c201d001d0a101212328c051c101d06012710c051c001d061 z o c
  refine eI .v<|y .v v<|y .ev t<|Fh .a j ?_;by_cases e:k<2^i;·exact Mr (by refine(bp<|PU e)▸?_;rfl)<|l i a e u
  ·refine C0 .v (Vp e)<|y .v v<|y .ev t<|Fh .e j<|D_ (j:=1) .e<|eE (us:=[.int (((k>>>i)&&&1:Nat):Int),.int 1]) .b _ (congrArg (λb=>some<|V.bool b)<|KP k i) ⟨rfl,rfl⟩ ?_;haveI g:=Hv k i;cases p:k.testBit i with
   |true=>rw[p] at g;refine Cc .v z<|y .v u<|gc .v q z<|y .a t<|fg .v (g.trans z).symm .head (by rw[bB];exact sg (eJ (List.length_filter_le _ _)<|Nat.le_of_eq List.length_range)<|f6 j m)<|y .a t<|iM<|s (by exact ng (bF 0x1c201d101d0a0011121c101d06d0a0011 z c)<|bF 0x1c101d001d0a2012120111c001d06d0a1 z c) u z v
   |false=>rw[p] at g;refine CZ .v z<|y .a t<|iM<|((g.trans<|j0 _))▸?_;exact s (by exact ng (bF 0x1c201d101d0a0011121c101d06d0a0011 z c)<|bF 0x1c101d001d0a2012120111c001d06d0a1 z c) u z v
theorem Fs{j K:Nat}(g:j<2^K)(d:K<9000)(q:∀a c,(∀b,b∈c↔j.testBit b)->U Z ((a,.list<|G c)::L) (w<|.ref a)):U Z L<|Tn (n+1) .oN [.int j] w:=
 aZ .a [.ku] uE z rfl rfl<|aW .a λf=>kp .v (K+1)<|Hw (i:=0) (f:=f) g d (λk i e h=>y .a h<|aR<|q f _ λb=>by rw[List.mem_filter,List.mem_range];refine⟨λx=>x.2,λx=>⟨Decidable.byContradiction λl=>?_,x⟩⟩;rw[Nat.testBit_lt_two_pow<|ci e<|Nat.pow_le_pow_right m<|Nat.le_of_not_lt l] at x;cases x) K (Nat.zero_add K).symm rfl rfl rfl
end
structure AM(d:List Nat)(c:Nat):Prop where
 len:d.length=c
 bd:∀a b,(d.getD a 0).testBit b->b<c
 sym:∀a b,(d.getD a 0).testBit b->(d.getD b 0).testBit a=true
def Ge(M c:List Nat):Prop:=∀a b,(M.getD a 0).testBit b->(c.getD a 0).testBit b=true
theorem Ge.refl(M:List Nat):Ge M M:=λ_ _ h=>h
theorem Ge.trans{A B C:List Nat}(x:Ge A B)(y:Ge B C):Ge A C:=λa b h=>y a b<|x a b h
theorem Ct(M:List Nat)(r v a:Nat):(M.set r v).getD a 0=if a=r/\r<M.length then v else M.getD a 0:=by
 rw[wS,List.getElem?_set,wS];by_cases q:r=a
 ·subst q;rw[if_pos z];by_cases b:r<M.length;·rw[if_pos b,if_pos ⟨z,b⟩];rfl
  ·rw[if_neg b,if_neg λh=>b h.2,List.getElem?_eq_none<|by exact aG 0x11c101d06311010011 z b]
 ·rw[if_neg q,if_neg λh=>q h.1.symm]
noncomputable def u6(r:Nat)(M:List Nat)(a:List Nat):List Nat:=a.foldl (λM o=>M.set o<|M.getD o 0|||2^r) M
theorem Eo(r:Nat):∀(a M:List Nat),(u6 r M a).length=M.length:=λb=>by
 induction b with
 |nil=>intro _;exact z
 |cons o a c=>intro M;exact(c _).trans List.length_set
theorem Ep(r:Nat):∀(c M:List Nat)(a b:Nat),((u6 r M c).getD a 0).testBit b↔(M.getD a 0).testBit b\/(a∈c/\b=r/\a<M.length):=λf=>by
 induction f with
 |nil=>intro M a b;simp [u6]
 |cons o c i=>
  intro M a b;show((u6 r (M.set o<|M.getD o 0|||2^r) c).getD a 0).testBit b↔_;rw[i,Ct,List.length_set,ew];by_cases q:a=o/\o<M.length
  ·rw[if_pos q,Nat.testBit_or,Nat.testBit_two_pow,Bool.or_eq_true,decide_eq_true_eq,q.1];constructor
   ·rintro((h|h)|h);·exact .inl h
    ·exact .inr<|eP (.inl z) h.symm q.2
    ·exact .inr ⟨.inr h.1,h.2⟩
   ·rintro(h|h);·exact .inl<|.inl h
    ·exact .inl<|.inr h.2.1.symm
  ·rw[if_neg q];constructor
   ·rintro(h|h);·exact .inl h
    ·exact .inr ⟨.inr h.1,h.2⟩
   ·rintro(h|⟨d|d,g,e⟩);·exact .inl h
    ·exact absurd ⟨d,d▸e⟩ q
    ·exact .inr<|eP d g e
def Hx(M:List Nat)(r o:Nat)(a:List Nat):List Nat:=u6 r (M.set r<|M.getD r 0|||o) a
theorem mK(d:∀b,b∈c↔g.testBit b)(i:r<e.length)(a b:Nat):
 ((Hx e r g c).getD a 0).testBit b↔(e.getD a 0).testBit b\/(a=r/\g.testBit b)\/(g.testBit a/\b=r/\a<e.length):=by
 unfold Hx;rw[Ep,Ct,List.length_set,d];by_cases q:a=r
 ·rw[if_pos ⟨q,i⟩,Nat.testBit_or,Bool.or_eq_true,q];constructor
  ·rintro((h|h)|h);·exact .inl h
   ·exact .inr<|.inl ⟨z,h⟩
   ·exact .inr<|.inr h
  ·rintro(h|h|h);·exact .inl<|.inl h
   ·exact .inl<|.inr h.2
   ·exact .inr h
 ·rw[if_neg λf=>q f.1];constructor
  ·rintro(h|h);·exact .inl h
   ·exact .inr<|.inr h
  ·rintro(h|h|h);·exact .inl h
   ·exact absurd h.1 q
   ·exact .inr h
theorem N7(A:AM n s)(l:r<s)(f:∀b,w.testBit b->b<s)(c:∀b,b∈g↔(Ox w<|2^r).testBit b):
 AM (Hx n r (Ox w<|2^r) g) s/\Ge n (Hx n r (Ox w<|2^r) g)/\∀b,w.testBit b->b≠r->((Hx n r (Ox w<|2^r) g).getD r 0).testBit b:=by
 have d:r<n.length:=by rw[A.len];exact l
 have i:∀b,(Ox w<|2^r).testBit b->w.testBit b/\b≠r:=λb h=>by rw[u0,Nat.testBit_two_pow,oH] at h;refine⟨h.1,λe=>?_⟩;rw[e] at h;simp at h
 refine(eP ⟨?_,λa b h=>?_,λa b h=>?_⟩ (λa b h=>(mK c d a b).mpr<|.inl h) λb h j=>(mK c d r b).mpr<|.inr<|.inl ⟨z,?_⟩);·unfold Hx;rw[Eo,List.length_set];exact A.len
 ·rcases(mK c d a b).mp h with k|k|k
  ·exact A.bd a b k
  ·exact f b (i b k.2).1
  ·exact k.2.1▸l
 ·rcases(mK c d a b).mp h with k|k|k
  ·exact(mK c d b a).mpr<|.inl<|A.sym a b k
  ·exact(mK c d b a).mpr<|.inr<|.inr<|eP k.2 k.1<|by rw[A.len];exact f b (i b k.2).1
  ·exact(mK c d b a).mpr<|.inr<|.inl ⟨k.2.1,k.1⟩
 ·rw[u0,Nat.testBit_two_pow,h,decide_eq_false λe=>j e.symm];rfl
theorem nb(h:∀b,g.testBit b->b<e):g<2^e:=Nat.lt_pow_two_of_testBit g λi a=>by
 cases q:g.testBit i with
 |false=>rfl
 |true=>exact absurd (h i q) λc=>aG 0x11c101d0601101001010 z a c
section
variable{n:Nat}{L:H}{w:dC}
theorem qV{r:Nat}(h:r<a.length):(G a)[((r:Nat):Int).toNat]?=some (.int (a.getD r 0:Nat)):=by show(a.map λ(s:Nat)=>V.int s)[r]?=_;rw[oe,wS,sB h];rfl
theorem zD{r v:Nat}:(G a).set ((r:Nat):Int).toNat (.int v)=G (a.set r v):=by unfold G;rw[List.map_set];rfl
theorem Cu(h:r<a.length):((r:Nat):Int)<((G a).length:Nat):=Int.ofNat_lt.mpr<|bB a▸h
theorem KY{f e r t:Nat}{d:List V}(j:(f,.inst .aK [(.iP,.ref e)])∈L)(x:r<9000){c:List Nat}:
 ∀{M:List Nat}{a:aV},(∀b∈c,b<M.length)->a .aq=some (.ref f)->a .aa=some (.int r)->(∀k,U O ((t,.list d)::(e,.list<|G<|u6 r M c)::L) λh=>KK .next ⟨k,h⟩)->
  Fo O T ((t,.list d)::(e,.list<|G M)::L) [(t,.list d)] (.one .bH) (bD qz) KK (G c) a:=by
 induction c with
 |nil=>exactλ{M a} _ _ _ s=>b5 (df q)<|s a
 |cons o c l=>intro M a g u v s;haveI i:=g o q;refine aO (x:=.int o) (xs:=G c) .v (df q)<|y .a u<|Q .a (N<|N j) z<|fL .v (N q) (jp o) (qV i)<|y .e v<|Fg .e (f6 x m)<|r8 .v<|y .a u<|Q .a (N<|N j) z<|oy .a (.tail .head) (jp o) (Cu i)<|aP ?_;rw[zD];exact l (λb p=>by rw[List.length_set];exact g b<|N p) u v s
theorem RU{g c r u t:Nat}(d:(g,.inst .aK [(.iP,.ref c)])∈L)(A:AM s t)(h:t<9000)(C:r<t)(j:∀b,u.testBit b->b<t)
 (v:∀a,AM a t->Ge s a->(∀b,u.testBit b->b≠r->(a.getD r 0).testBit b)->U O ((c,.list<|G a)::L) (w .none)):U O ((c,.list<|G s)::L)<|Tn (n+2) .yO [.ref g,.int r,.int u] w:=by
 haveI l:=A.len▸C;haveI f:=f6 C h;refine aZ .e [.aq,.aa,.ku] qz z rfl rfl<|Fg .a (f6 f m)<|M .a<|s_<|Q .a (N d) z<|fL .e q (jp r) (qV l)<|r8 .a<|Q .a (N d) z<|oy .a .head (jp r) (Cu l) ?_;rw[zD];haveI k:∀b,(Ox u<|2^r).testBit b->b<t:=λb i=>j b (by rw[u0,oH] at i;exact i.1);refine M .a<|Fs (nb k) h λD o e=>gd .a q<|KY d f (λb u=>by rw[List.length_set,A.len];exact k b<|(e b).mp u) rfl rfl λp=>dE<|aA aT.tl ?_;exact F5 (N7 A C j e) λx y B=>v _ x y B
end
def hK(o:cL)(a:Nat):Nat:=match o with
 |.fix b=>(a|||No (cL.fix b).writes)|||No (cL.fix b).reads
 |o=>a|||No o.writes
def z5(M a:List Nat)(m:Nat):Prop:=∀r∈a,∀b,m.testBit b->b≠r->(M.getD r 0).testBit b=true
theorem z5.ge(o:z5 h e i)(g:Ge h a):z5 a e i:=λr f b c d=>g r b<|o r f b c d
def Bd(N m:Nat):Prop:=∀b,m.testBit b->b<N
theorem Bd.or(x:Bd c a)(y:Bd c b):Bd c<|a|||b:=λi h=>by rw[Nat.testBit_or,Bool.or_eq_true] at h;exact h.elim (x i)<|y i
theorem Bd.vY{a:List Nat}(h:∀r∈a,r<b):Bd b<|No a:=λi q=>h i<|List.contains_iff_mem.mp<|(jO a i)▸q
theorem Bd.wo(x:Bd c a):Bd c<|Ox a b:=λi h=>x i (by rw[u0,oH] at h;exact h.1)
theorem Hy(x:Bd e a)(h:∀r∈g.bu,r<e):Bd e<|hK g a:=by
 haveI b:=Bd.vY λr m=>h r<|(ig g).2 r m;induction g using cL.casesOn with
 |fix c=>exact(x.or b).or<|Bd.vY λr m=>h r<|(ig _).1 r m
 |_=>exact x.or b
section
variable{n:Nat}{L:H}{Y:dC}
theorem AK{i f s E m:Nat}{X:Vr}(j:X≠.aa)(k:(i,.inst .aK [(.iP,.ref f)])∈L)(l:(s,.list a1)∈L)(C:E<9000)(B:Bd E m){d:List Nat}:
 ∀{D:List Nat}{a:aV},(∀r∈d,r<E)->AM D E->a .apart=some (.ref i)->a X=some (.int m)->
  (∀e g,AM e E->Ge D e->z5 e d m->(∀x,x≠.aa->g x=a x)->U O ((f,.list<|G e)::L) λh=>KK .next ⟨g,h⟩)->
  Fo O (Tn<|n+2) ((f,.list<|G D)::L) [(s,.list a1)] (.one .aa) (.cons (.expr<|.cz (.ai .apart) .put<|.cons (.ai .aa)<|.cons (.ai X) Es.nil) Ss.nil) KK (G d) a:=by
 induction d with
 |nil=>exactλ{D a} _ A _ _ P=>b5 (df<|N l)<|P D a A (Ge.refl D) (rW _) λ_ _=>rfl
 |cons r d J=>
  exactλ{D a} R A S V P=>aO (x:=.int r) (xs:=G d) .v (df<|N l)<|y .v S<|aU .v (N k) z<|y .v z<|y .a ((if_neg j).trans V)<|M .a<|RU k A C (R r q) B λT t K u=>aP<|
   J (λr m=>R r<|N m) t S ((if_neg j).trans V) λw Q I o v p=>P w Q I (K.trans o) (λx c=>by
    rcases ew.mp c with c|c
    ·clear R P p;subst c;exactλb F H=>o _ b<|u b F H
    ·exact v x c) λx c=>(p x c).trans<|if_neg c
theorem KZ(u:(i,.inst .aK [(.iP,.ref g)])∈L)(A:AM T a1)(j:a1<9000)(d:a2.nice)(F:∀r∈a2.bu,r<a1)(t:Bd a1 a)
 (B:∀c,AM c a1->Ge T c->z5 c a2.writes (hK a2 a)->U O ((g,.list<|G c)::L) (Y .none)):U O ((g,.list<|G T)::L)<|Tn (n+3) .uy [.ref i,a2.v,.int a] Y:=by
 haveI f:a1<10000:=f6 j m;haveI E:∀{b:aV}{e:Nat},b .around=some (.int (hK a2 a:Nat))->b .written=some (.ref e)->b .apart=some (.ref i)->J O (Tn<|n+2) (Rt Y) ((e,.list<|G a2.writes)::(g,.list<|G T)::L) b [.ss .nil,.ss<|Ss.dr 3 wJ] .b:=λ{b e} I K P=>aA (aT.mv [] [_] [_])<|aY .v<|y .a K<|gd .a (N q)<|AK (X:=.around) m (N u) q j (Hy t F) (λr o=>F r<|(ig a2).2 r o) A P I λc x l p v _=>dE<|aA (λH=>O.sub H<|.cons_cons _<|.cons _<|.refl L)<|B c l p v;refine aZ .a [.apart,.op,.eA] wJ z rfl rfl<|M .a<|uZ d λe=>M .e<|nk q (λr o=>f6 (F r<|(ig a2).2 r o) f)<|r8 .z ?_;induction a2 using cL.casesOn with
 |fix C=>exact aY .b<|Cc .a z<|M .a<|Cr d λD=>M .e<|nk q (λr o=>f6 (F r<|(ig<|.fix C).1 r o) f)<|r8 .o<|aA aT.tl<|E z rfl rfl
 |zy=>cases d
 |set w k s=>
  rcases d with h|h
  ·clear F;subst h;exact aY .b<|Cd z<|E z rfl rfl
  ·clear F;subst h;exact aY .b<|Cd z<|E z rfl rfl
 |_=>exact aY .b<|Cd z<|E z rfl rfl
end
theorem K1(x:Bd a b)(h:∀r∈c.bu,r<a):Bd a<|mY c b:=(Bd.wo x).or<|Bd.vY λr q=>h r<|(ig c).1 r q
theorem K2(x:Bd c e):∀{d:List cL},(∀o∈d,∀r∈o.bu,r<c)->Bd c (KS d e):=λ{a}=>by
 induction a with
 |nil=>intro _;exact x
 |cons o d b=>intro h;exact K1 (b λo e=>h o<|N e)<|h o q
theorem N8:∀{a:List Nat}{m:Nat},(∀i∈a,Bd g<|b.getD i 0)->Bd g m->Bd g (a.foldl (pH e b) m):=λ{c}=>by
 induction c with
 |nil=>intro _ _ x;exact x
 |cons i a d=>intro m h x;exact d (λj f=>h j<|N f)<|x.or<|Bd.wo<|h i q
theorem Ft(h:∀i∈e.en.e6,Bd c<|a.getD i 0)(x:∀r∈e.en.reads,r<c):Bd c<|I5 b a e:=N8 h<|Bd.vY x
structure YN(ys:List LB)(b:Nat):Prop where
 er:∀a∈ys,∀r∈a.en.reads,r<b
 pr:∀a∈ys,∀r∈a.ps,r<b
 ao:∀a∈ys,∀o∈a.ao,o.nice/\∀r∈o.bu,r<b
theorem YN.yb(y:YN b c)(h:c<=10000):YB b:=
 ⟨λa m r q=>ci (y.er a m r q) h,λa m r q=>ci (y.pr a m r q) h,λa m o p=>⟨(y.ao a m o p).1,λr q=>ci ((y.ao a m o p).2 r q) h⟩⟩
theorem Vq{d:List LB}(f:PT d a)(w:i4 d)(r:YN d n):∀i,Bd n (a.getD i 0):=by
 have A:∀{i:Nat}{y:LB},d[i]?=some y->(∀j∈y.en.e6,Bd n<|a.getD j 0)->Bd n (a.getD i 0):=λ{i y} e h=>by rw[wS,f.2 i y e];have q:=List.mem_of_getElem? e;exact K2 (Ft h<|r.er y q) λo m=>(r.ao y q o m).2
 have c:∀{i:Nat},a.length<=i->Bd n (a.getD i 0):=λ{i} h b p=>by rw[wS,List.getElem?_eq_none h] at p;simp at p
 cases w with
 |one B x=>
  intro i;match i with
  |0=>exact A z (by rw[B];exact(rW _))
  |i+1=>exact c (by rw[f.1];exact bN 492589000278049 z)
 |four B t u v=>
  have g:Bd n<|a.getD 3 0:=A z (by rw[v];exact(rW _));have l:Bd n<|a.getD 2 0:=A z (by rw[u];intro j m;rcases eL.mp m with rfl;exact g);have k:Bd n<|a.getD 1 0:=A z (by rw[t];intro j m;rcases eL.mp m with rfl;exact g);have s:Bd n<|a.getD 0 0:=A z (by rw[B];intro j m;exact(ew.mp m).elim (λe=>e▸k) λm=>eL.mp m▸l);intro i;match i with
  |0=>exact s
  |1=>exact k
  |2=>exact l
  |3=>exact g
  |i+4=>exact c (by rw[f.1];exact bN 0x4c001d064c021 z)
def kX(M:List Nat)(c:List cL)(b:List Nat):Prop:=match c with
 |[]=>True
 |o::c=>(match b with
  |[]=>True
  |a::b=>z5 M o.writes (hK o a)/\kX M c b)
theorem kX.ge(g:Ge e c):∀{b:List Nat},kX e i b->kX c i b:=by
 induction i with
 |nil=>exactλ_=>trivial
 |cons o i k=>
  intro b h;induction b using da with
  |nil=>exact trivial
  |cons a b=>exact⟨h.1.ge g,k h.2⟩
structure u7(b:List Nat)(ys:List LB)(bs:List Nat)(i:Nat)(a:LB):Prop where
 ps:z5 b a.ps (No a.ps|||bs.getD i 0)
 ao:kX b a.ao (pI a.ao<|I5 ys bs a)
theorem u7.ge(g:Ge e a)(b:u7 e h c i j):u7 a h c i j:=⟨b.ps.ge g,b.ao.ge g⟩
structure AF(ah:List Nat)(ys:List LB)(bs b:List Nat):Prop where
 en:z5 b ah (No ah|||bs.getD 0 0)
 bl:∀(i:Nat)(a:LB),ys[i]?=some a->u7 b ys bs i a
inductive UG(L:H)(lu:Nat)(ah:List Nat)(a:Nat)(ys:List LB):Prop
 |mk (fs:_) (en:_) (IZ:_) (Ix:_) (w0:(lu,.inst .b7 fs)∈L) (w1:fs.lookup .bJ=some (.ref IZ)) (w2:fs.lookup .aj=some (.int a)) (w3:fs.lookup .ah=some (.ref en)) (w4:(en,.list<|G ah)∈L) (w5:(IZ,.list<|Ix.map V.ref)∈L) (w6:jg L 0 Ix ys)
theorem UG.mono{h N:Nat}{m:List Nat}{i:List LB}(u:UG L h m N i)(k:∀n∈L,n∈j):UG j h m N i:=by obtain⟨o,l,q,p,a,b,c,d,e,f,g⟩:=u;exact⟨o,l,q,p,k _ a,b,c,d,k _ e,k _ f,g.mono k⟩
theorem UG.uf(u:UG L c ah h i):UF L c i:=by obtain⟨e,_,j,d,a,b,_,_,_,f,g⟩:=u;exact⟨e,j,d,a,b,f,g⟩
section
variable{n:Nat}{L:H}{A:dC}
theorem N9(l:Lv)(d:g<1000000)(f:∀h b,eh O (Tn<|n+1) e l ((b,.list<|G<|List.replicate g 0)::(h,.inst .aK [(.iP,.ref b)])::L) a c<|.v (.ref h) fs):J O (Tn<|n+1) e L a (.new .aK::c)<|.v (.int g)<|.m fs:=
 s6 l λh=>aZ .e [.aq,.aj] tA z rfl rfl<|aW .e λi=>Km .a q (jp g) (Int.ofNat_lt.mpr d) λb=>aX .a (.tail<|.tail .head) z rfl<|jf<|by haveI f:=f h b;rw[show G (List.replicate g 0)=List.replicate ((g:Nat):Int).toNat (V.int 0) by unfold G;rw[List.map_replicate];rfl] at f;exact aA (λH=>O.sub H<|.cons_cons _<|.cons _<|.refl _) f
theorem K3(N:Nat):AM (List.replicate N 0) N:=by
 haveI e:∀a,(List.replicate N 0).getD a 0=0:=λa=>by rw[wS,List.getElem?_replicate];split<;>rfl
 exact⟨List.length_replicate,λa b h=>(by rw[e] at h;simp at h),λa b h=>(by rw[e] at h;simp at h)⟩
end
section
variable{n:Nat}{L:H}{Y:dC}
theorem PV{C D:a0}(m:(a,C)∈L)(c:(b,D)∈L):U e L<|ch [(a,C),(b,D)]:=⟨λ_ H=>G2 H m c⟩
theorem kX.nil:kX b [] a:=trivial
theorem kX.Yk:kX a os []:=by induction os using da<;>trivial
theorem Cv{l i S k D:Nat}(H:(l,.inst .aK [(.iP,.ref i)])∈L)(f:(S,.list a1)∈L)(g:(k,.list a2)∈L)(F:D<9000){Q:List cL}:
 ∀{c B:List Nat}{b:aV},(∀o∈Q,o.nice/\∀r∈o.bu,r<D)->(∀a∈c,Bd D a)->AM B D->b .apart=some (.ref l)->
  (∀d j,AM d D->Ge B d->kX d Q c->(∀x,x≠.op->x≠.eA->j x=b x)->U O ((i,.list<|G d)::L) λh=>KK .next ⟨j,h⟩)->
  Fo O (Tn<|n+3) ((i,.list<|G B)::L) [(S,.list a1),(k,.list a2)] (.many [.op,.eA]) (.cons (.expr<|.call .uy<|.cons (.ai .apart)<|.cons (.ai .op)<|.cons (.ai .eA) Es.nil) Ss.nil) KK (bn (Q.map cL.v)<|G c) b:=by
 induction Q with
 |nil=>exactλ{c B b} _ _ A _ P=>b5 (PV (N f)<|N g)<|P B b A (Ge.refl B) .nil λ_ _ _=>rfl
 |cons o Q z=>
  intro c;induction c using da with
  |nil=>exactλ{B b} _ _ A _ P=>b5 (PV (N f)<|N g)<|P B b A (Ge.refl B) .Yk λ_ _ _=>rfl
  |cons a c=>
   exactλ{B b} e p A R P=>aO (x:=.aF [o.v,.int a]) (xs:=bn (Q.map cL.v)<|G c) .v (PV (N f)<|N g)<|y .a R<|M .a<|KZ H A F (e o q).1 (e o q).2 (p a q) λT t J u=>aP<|
    z (λo m=>e o<|N m) (λa m=>p a<|N m) t R λw C E s v K=>P w C E (J.trans s) ⟨u.ge s,v⟩ λx I W=>(K x I W).trans<|(if_neg W).trans<|if_neg I
theorem HA(x:Bd c g){d:List cL}:(∀o∈d,∀r∈o.bu,r<c)->∀a∈pI d g,Bd c a:=by
 induction d with
 |nil=>exactλ_ a q=>absurd q i3
 |cons o d b=>exactλh a q=>(ew.mp q).elim (λe=>e▸K2 x λo g=>h o<|N g) λq=>b (λo g=>h o<|N g) a q
theorem HB{lu v D bl R I:Nat}{s:List Nat}{d:List LB}(u:UF L lu d)(mp:(v,.inst .aK [(.iP,.ref D)])∈L)(mb:(bl,.list cc)∈L)(mg:(R,.list<|G s)∈L)(F:I<9000)(f:PT d s)(Z:∀i,Bd I<|s.getD i 0)(c:YN d I)
 (hl:∀a3∈d,∀i∈a3.en.e6,i<d.length)(Q_:∀a3∈d,a3.ao.length<1000){k:List LB}:
 ∀{Bs:List Nat}{i:Nat}{E:List Nat}{a:aV},jg L i Bs k->(∀(j:Nat)(a3:LB),k[j]?=some a3->d[i+j]?=some a3)->AM E I->a .apart=some (.ref v)->a .bO=some (.ref lu)->a .dO=some (.ref R)->
  (∀l T,AM l I->Ge E l->(∀(j:Nat)(a3:LB),k[j]?=some a3->u7 l d s (i+j) a3)->T .apart=some (.ref v)->U O ((D,.list<|G l)::L) λh=>KK .next ⟨T,h⟩)->
  Fo O (Tn<|n+5) ((D,.list<|G E)::L) [(bl,.list cc)] (.one .ab) (bD<|Ss.dr 4 su) KK (Bs.map V.ref) a:=by
 induction k with
 |nil=>intro Bs i E a J _ A e1 _ _ a2;rw[J.no];exact b5 (df<|N mb)<|a2 E a A (Ge.refl E) (λj a3 e=>Ku e) e1
 |cons a4 k ih=>
  intro Bs i E a J hz A e1 e2 e3 a2;refine jn J.un λB Bs e P S2=>?_;rw[e];have S:d[i]?=some a4:=hz 0 a4 z;have b:=List.mem_of_getElem? S;have hi:i<d.length:=(v6.mp S).1;have p:I<10000:=f6 F m;have X:∀j,i+(j+1)=i+1+j:=λj=>(Nat.add_right_comm i 1 j).symm;obtain⟨pr,lo,t,w,W⟩:=id P;refine aO (xs:=Bs.map V.ref) .a (df<|N mb)<|Q .a (N t) z<|M .v<|nk (N w) (λr a1=>f6 (c.pr a4 b r a1) p)<|y .a e3<|Q .a (N t) z<|fL .e (N mg) (jp i) (qV<|f.1▸hi)<|r8 .a<|Q .a (N t) z<|gd .v (N w)<|
   AK (X:=.params) m mp w F ((Bd.vY λr a1=>c.pr a4 b r a1).or<|Z i) (λr a1=>c.pr a4 b r a1) A e1 rfl λRV gY AL qT Et g=>y .a ((g _ m).trans z)<|Q .v (N t) z<|y .v ((g _ m).trans e2)<|y .v ((g _ m).trans z)<|y .a ((g _ m).trans e3)<|M .a<|
   Ho ⟨u.tl,⟨i,P.mono λ_ a1=>N a1⟩,N mg,f.1,hl a4 b,λr a1=>f6 (c.er a4 b r a1) p,λa3 my r a1=>f6 (c.pr a3 my r a1) p,λo a1=>⟨(c.ao a4 b o a1).1,λr a2=>f6 ((c.ao a4 b o a1).2 r a2) p⟩⟩ (Q_ a4 b) λaf=>aA (aT.mv [] [_] [_])<|
   aY .a<|Kp .a (N<|N W) (N q)<|Cv (N mp) (N W) q F (c.ao a4 b) (HA (Ft (λi _=>Z i)<|c.er a4 b) λo a1=>(c.ao a4 b o a1).2) AL ((g _ m).trans e1) λHz jN yM nQ Eu rO=>aP<|aA (λH=>O.sub H<|.cons_cons _<|.cons _<|.refl L) ?_
  have C:∀x,x≠.op->x≠.eA->x≠.aa->x≠.params->x≠.ab->jN x=a x:=λx n1 n2 n3 n4 n5=>(rO x n1 n2).trans<|(g x n3).trans<|(if_neg n4).trans<|if_neg n5;refine ih S2 (λj a3 e=>X j▸hz (j+1) a3 e) yM ((C _ m m m m m).trans e1)
   ((C _ m m m m m).trans e2) ((C _ m m m m m).trans e3) λYl lg Vs K Ym RX=>a2 Yl lg Vs (qT.trans<|nQ.trans K) (λj a3 e=>?_) RX
  induction j using wQ with
  |zero=>cases e;exact u7.ge K ⟨Et.ge nQ,Eu⟩
  |succ j=>rw[X];exact Ym j a3 e
theorem i4.e6(f:i4 b):∀y∈b,∀i∈y.en.e6,i<b.length:=by
 cases f with
 |one a p=>intro y m;clear p;rcases eL.mp m with rfl;rw[a];exact(rW _)
 |four a c d e=>
  intro y m;simp only[ew,i3,or_false] at m;clear p0 p1 p2 p3;rcases m with rfl|rfl|rfl|rfl
  ·rw[a];show∀i∈[1,2],i<4;decide
  ·rw[c];show∀i∈[3],i<4;decide
  ·rw[d];show∀i∈[3],i<4;decide
  ·rw[e];exact(rW _)
theorem i4.pos(a:i4 b):0<b.length:=by cases a<;>exact Nat.succ_pos _
theorem K4(u:UG L lu ah a2 a3)(s:i4 a3)(w:YN a3 a2)(v:∀r∈ah,r<a2)(l:a2<9000)(T:∀a5∈a3,a5.ao.length<1000)
 (I:∀h a4 i a1,PT a3 i->AM a1 a2->AF ah a3 i a1->U O ((a4,.list<|G a1)::(h,.inst .aK [(.iP,.ref a4)])::L) (Y<|.ref h)):U O L<|Tn (n+6) .qn [.ref lu] Y:=by
 obtain⟨fs,en,bl,S,g,W,X,A,t,C,D⟩:=id u;have P:a2<10000:=f6 l m;have a1:∀{x a b c},x∈L->x∈a::b::c::L:=λE=>N<|N<|N E;have f:∀{x b c},x∈L->x∈b::c::L:=λE=>N<|N E;refine aZ .a [.bO] su z rfl rfl<|M .a<|Hu u.uf s (w.yb<|Nat.le_of_lt P) λbg i k=>?_;have F:=Vq k s w;refine Q .a (N g) X<|N9 .a (f6 l m) λh a4=>Q .a (a1 g) A<|M .a<|nk (a1 t) (λr E=>f6 (v r E) P)<|fL .e (N<|N q) m (qV (r:=0)<|by rw[k.1];exact s.pos)<|r8 .a<|Q .a (a1 g) A<|gd .v (a1 t)<|
  AK (X:=.ah) m q (f t) l ((Bd.vY v).or<|F 0) v (K3 a2) z rfl λV jN d qT J p=>y .a ((p _ m).trans z)<|Q .a (a1 g) W<|gd .v (a1 C)<|
  HB (i:=0) (u.uf.mono λ_ E=>f E) q (f C) (N q) l k F w s.e6 T (D.mono λ_ E=>f E) (λj a5 e=>by rw[Nat.zero_add];exact e) d ((p _ m).trans z) ((p _ m).trans z) ((p _ m).trans z) λo lg R Z K B=>y .a B<|aR ?_
 exact aA (λH=>O.sub H<|.cons_cons _<|.cons_cons _<|.cons _<|.refl L)<|I h a4 i o k R ⟨J.ge Z,λj a5 e=>by have:=K j a5 e;rw[Nat.zero_add] at this;exact this⟩
end
noncomputable def gD(a:List Nat):List<|Int×V:=a.map λ(r:Nat)=>((r:Int),V.bool true)
noncomputable def ww(a:List Nat)(r:Nat):List Nat:=if r∈a then a else a++[r]
theorem K5:∀(c:List Nat)(r:Nat),aE (r:Int) (V.bool true) (gD c)=gD (ww c r):=λa=>by
 induction a with
 |nil=>intro r;exact z
 |cons g c b=>
  intro r;show(if (g:Int)=r then((g:Int),V.bool true)::gD c else((g:Int),V.bool true)::aE (r:Int) (.bool true) (gD c))=_;by_cases d:g=r;·subst d;rw[if_pos z];unfold ww;rw[if_pos q];rfl
  ·rw[if_neg λe:(g:Int)=r=>d<|Int.ofNat.inj e,b r];unfold ww;by_cases f:r∈c;·rw[if_pos f,if_pos<|N f];rfl
   ·rw[if_neg f,if_neg λm=>(ew.mp m).elim (λe=>d e.symm) f];rfl
structure GI(gs:List Nat)(a:Nat):Prop where
 nd:gs.Nodup
 lt:∀r∈gs,r<a
theorem GI.len(g:GI gs b):gs.length<=b:=by have:=rF (m:=List.range b) g.nd λx a=>List.mem_range.mpr<|g.lt x a;rwa [List.length_range] at this
theorem GI.more(g:GI gs c)(d:r<c):GI (ww gs r) c/\(∀x∈gs,x∈ww gs r)/\r∈ww gs r:=by
 unfold ww;by_cases z:r∈gs;·rw[if_pos z];exact(eP g (λ_ m=>m) z)
 ·rw[if_neg z];refine(eP ⟨List.nodup_append.mpr<|eP g.nd (List.nodup_cons.mpr ⟨i3,List.nodup_nil⟩) λx a y b e=>z<|(eL.mp b)▸e▸a,λx a=>?_⟩ (λx m=>ll _ m)<|cs _ q);rcases mx.mp a with m|m
  ·exact g.lt x m
  ·rw[eL.mp m];exact d
section
variable{n:Nat}{L:H}{Y:dC}{T:Sp}
def PW:Ss:=.cons (.bR (.ai .aB) (.ai .aa)<|.hD<|.bool true) Ss.nil
theorem K6{i o t:Nat}(l:(o,.list a1)∈L)(u:t<9000){c:List Nat}:∀{F:List Nat}{a:aV},(∀r∈c,r<t)->GI F t->a .aB=some (.ref i)->
 (∀f j,GI f t->(∀x∈F,x∈f)->(∀x∈c,x∈f)->(∀x,x≠.aa->j x=a x)->U O ((i,.dict false<|gD f)::L) λh=>KK .next ⟨j,h⟩)->
 Fo O T ((i,.dict false<|gD F)::L) [(o,.list a1)] (.one .aa) PW KK (G c) a:=by
 induction c with
 |nil=>exactλ{F a} _ g _ D=>b5 (df<|N l)<|D F a g (λ_ B=>B) (rW _) λ_ _=>rfl
 |cons r c v=>
  intro F a H g e D;refine F5 (g.more<|H r q) λE d p=>?_;exact aO (x:=.int r) (xs:=G c) .v (df<|N l)<|y .a e<|eY .a (K5 F r) .head (by unfold gD;rw[fZ];exact sg g.len<|f6 u m)<|aP<|
   v (λr B=>H r<|N B) E e λA s w b C z=>D A s w (λx B=>b x<|d x B) (λx B=>(ew.mp B).elim (λe=>e▸b _ p)<|C x) λx k=>(z x k).trans<|if_neg k
theorem Vt{f R D:Nat}(l:(R,.list a1)∈L)(u:D<9000){Q:List cL}:∀{K:List Nat}{a:aV},(∀o∈Q,o.nice/\∀r∈o.bu,r<D)->GI K D->a .aB=some (.ref f)->
 (∀d j,GI d D->(∀x∈K,x∈d)->(∀x∈t9 Q,x∈d)->(∀x,x≠.aa->x≠.op->j x=a x)->U O ((f,.dict false<|gD d)::L) λh=>KK .next ⟨j,h⟩)->
 Fo O (Tn<|n+2) ((f,.dict false<|gD K)::L) [(R,.list a1)] (.one .op) (.cons (.du (.one .aa) .it (.cons (.call .b8<|.cons (.ai .op) Es.nil) Es.nil) PW) Ss.nil) KK (Q.map cL.v) a:=by
 induction Q with
 |nil=>exactλ{K a} _ g _ P=>b5 (df<|N l)<|P K a g (λ_ I=>I) (rW _) λ_ _ _=>rfl
 |cons o Q v=>
  exactλ{K a} i g e P=>aO (x:=o.v) (xs:=Q.map cL.v) .a (df<|N l)<|M .z<|uZ (i o q).1 λC=>aA (aT.mv [] [_] [_])<|aY .a<|gd .a (N q)<|
   K6 (L:=(C,.list<|G o.writes)::L) q u (λr I=>(i o q).2 r ((ig o).2 r I)) g e λt J y c p k=>aP<|aA (λH=>O.sub H<|.cons_cons _<|.cons _<|.refl L)<|
   v (λo I=>i o<|N I) y ((k _ m).trans e) λA s w b F z=>P A s w (λx I=>b x<|c x I) (λx I=>(mx.mp<|show x∈o.writes++t9 Q from I).elim (λI=>b x<|p x I)<|F x) λx B E=>(z x B E).trans<|(k x B).trans<|if_neg E
theorem RY{j bl D:Nat}{A:List V}(F:(bl,.list A)∈L)(C:D<9000){f:List LB}:∀{Bs:List Nat}{i:Nat}{gs:List Nat}{a:aV},jg L i Bs f->(∀a2∈f,(∀r∈a2.ps,r<D)/\∀o∈a2.ao,o.nice/\∀r∈o.bu,r<D)->GI gs D->a .aB=some (.ref j)->
 (∀c t,GI c D->(∀x∈gs,x∈c)->(∀a2∈f,(∀x∈a2.ps,x∈c)/\∀x∈t9 a2.ao,x∈c)->t .aB=some (.ref j)->U O ((j,.dict false<|gD c)::L) λh=>KK .next ⟨t,h⟩)->
 Fo O (Tn<|n+2) ((j,.dict false<|gD gs)::L) [(bl,.list A)] (.one .ab) (bD<|Ss.dr 2 nJ) KK (Bs.map V.ref) a:=by
 induction f with
 |nil=>intro Bs i gs a s _ g e S;rw[s.no];exact b5 (df<|N F)<|S gs a g (λ_ R=>R) (rW _) e
 |cons a2 f W=>
  intro Bs i gs a s p g e S;refine jn s.un λB Bs I J K=>?_;obtain⟨pr,lo,u,v,a1⟩:=J;rw[I];exact aO (xs:=Bs.map V.ref) .a (df<|N F)<|Q .a (N u) z<|gd .v (N v)<|K6 v C (p a2 q).1 g e λPX gY Z d H k=>y .a ((k _ m).trans z)<|Q .a (N u) z<|gd .a (N a1)<|
   Vt a1 C (p a2 q).2 Z ((k _ m).trans e) λvI cY P b xk qe=>aP<|W K (λa2 R=>p a2<|N R) P ((qe _ m m).trans<|(k _ m).trans e) λE X G l M rO=>S E X G (λx R=>l x<|b x<|d x R)
    (λw R=>(ew.mp R).elim (λe=>e▸⟨λx R=>l x<|b x<|H x R,λx R=>l x<|xk x R⟩)<|M w) rO
theorem K7{W:List Nat}{d:List LB}(u:UG L w W a1 d)(k:YN d a1)(v:∀r∈W,r<a1)(j:a1<9000)
 (R:∀a a2,GI a2 a1->(∀x∈W,x∈a2)->(∀a3∈d,(∀x∈a3.ps,x∈a2)/\∀x∈t9 a3.ao,x∈a2)->U O ((a,.list<|G a2)::L) (Y<|.ref a)):U O L<|Tn (n+3) .kz [.ref w] Y:=by
 obtain⟨I,M,Z,X,f,o,J,s,g,h,t⟩:=u;refine aZ .a [.bO] nJ z rfl rfl<|aW .a λD=>Q .a (N f) s<|gd .v (N g)<|K6 (F:=[]) g j v ⟨List.nodup_nil,(rW _)⟩ z λB E A _ l i=>y .a ((i _ m).trans z)<|Q .a (N f) o<|gd .v (N h)<|
  RY h j t (λa3 P=>⟨k.pr a3 P,k.ao a3 P⟩) A ((i _ m).trans z) λc K S b F C=>y .a C<|Ay .a q λa=>aR ?_
 haveI e:((gD c).map λp=>V.int p.1)=G c:=by unfold gD G;rw[List.map_map];rfl
 rw[e];exact aA (λH=>O.sub H<|.cons_cons _<|.cons _<|.refl L)<|R a c S (λx P=>b x<|l x P) F
end
def cA(A:List<|Nat×List Nat):H:=A.map λx=>(x.1,.list<|G x.2)
theorem PY:∀{A:List (Nat×List Nat)}{j:Nat},A[j]?=some (a,c)->At a (.list<|G c) (.list<|G<|c++[b]) (cA A++L) (cA (A.set j (a,c++[b]))++L)
 |x::A,0,e=>by cases e;exact .head
 |x::A,j+1,e=>.tail<|PY (A:=A) e
theorem N_{A:List (Nat×List Nat)}(e:A[j]?=some (a,b)):(A.set j (a,r)).map (·.1)=A.map (·.1):=by
 apply List.ext_getElem?;intro i;rw[oe,List.getElem?_set,oe];by_cases q:j=i;·subst q;rw[if_pos z,e];have:=(v6.mp e).1;rw[if_pos this];rfl
 ·rw[if_neg q]
noncomputable def jr(A:List<|Nat×List Nat):List V:=A.map λx=>.ref x.1
structure WI(A:List<|Nat×List Nat)(a c:Nat):Prop where
 len:A.length=a
 sm:∀x∈A,x.2.length<=c
section
variable{n:Nat}{L:H}{w:dC}{T:Sp}
theorem RZ(l:Lv)(m:(a,.list e)∈L)(k:Fo r T L [(a,.list e)] g b (Kf j<|sZ l T j c fs) (bn i e) s):J r T j L s (.fr g .zip b::c)<|.v (.ref a)<|.v (.aF i)<|.m fs:=by rw[hU] at k;exact aS ⟨λh H=>Ri (KK:=Kf j<|io T j c fs) H m<|k.at_ h H⟩
theorem R0:∀{A:List (Nat×List Nat)}{b:aV},(∀x∈A,x.2=[])->(∀c d,(∀x∈c,x.2=[])->c.length=A.length+r.length->U O (cA c++L) λh=>g (jr c) ⟨d,h⟩)->
 Co O T (cA A++L) [] (.one .aa) .tt (.ay .bb Es.nil) g r (jr A) b:=by
 induction r with
 |nil=>exactλ{A b} e q=>gB jS<|q A b e z
 |cons x r j=>
  intro A b e q;refine cJ .a jS<|aW .a λa=>cF ?_;rw[show jr A++[.ref a]=jr (A++[(a,[])]) by unfold jr;rw[sn];rfl];refine aA (λH=>?_)<|j (A:=A++[(a,[])]) (λx m=>?_) λc d f i=>q c d f (by rw[i,eR,jM,Nat.add_right_comm];rfl);·refine O.perm H ?_;rw[show cA (A++[(a,[])])++L=cA A++(a,a0.list [])::L by unfold cA;rw[sn,lX];rfl];exact List.perm_middle.symm
  ·refine db (mx.mp m) (λm=>?_) λm=>?_;·exact e x m
   ·rw[eL.mp m]
theorem Fu(l:Lv){K:Kk}{a:aV}{b N c i k:Nat}{A:List (Nat×List Nat)}{X Y:Vr}(W:WI A N c)(s:i<N)(r:c<1000)(u:a .aB=some (.ref b))(v:a X=some (.int i))(B:a Y=some (.int k))
 (t:∀a1,WI a1 N (c+1)->eh O T K l ((b,.list<|jr a1)::(cA a1++L)) a j (.v .none fs)):J O T K ((b,.list<|jr A)::(cA A++L)) a (.e (.iT .append (.ay .sub<|.cons (.ai .aB)<|.cons (.ai X) Es.nil)<|.cons (.ai Y) Es.nil)::j) fs:=by
 haveI g:=W.len▸s;haveI e:A[i]?=some (A[i].1,A[i].2):=sB g;haveI o:(jr A)[((i:Nat):Int).toNat]?=some (.ref A[i].1):=by show(A.map λx=>V.ref x.1)[i]?=_;rw[oe,e];rfl
 haveI f:=At.tail (x:=(b,a0.list<|jr A))<|PY (L:=L) (b:=k) e;haveI h:=W.sm A[i]<|List.getElem_mem g;haveI p:jr A=jr (A.set i (A[i].1,A[i].2++[k])):=by have:=N_ (r:=A[i].2++[k]) e;unfold jr;rw[show(λx:Nat×List Nat=>V.ref x.1)=V.ref∘(·.1) from rfl,<-List.map_map,<-List.map_map,this]
 haveI t:=t (A.set i (A[i].1,A[i].2++[k])) ⟨by rw[List.length_set];exact W.len,λx d=>?_⟩;·rw[<-p] at t;exact aY .v<|y .v u<|y .a v<|fL .a q (jp i) o<|gc .v f.mem z<|y .a B<|fg l (dT ..) f (by rw[bB];exact sg h<|f6 r m) t
 ·rcases List.mem_or_eq_of_mem_set d with d|d
  ·exact Nat.le_succ_of_le<|W.sm x d
  ·rw[d];rw[eR];exact s4 h
theorem K8{v l u c B R r p a b s t:Nat}{P:List V}(W:WI A u c)(g:c+4<1000)
 (o:(B,.inst .eZ a2)∈L)(j:a2.lookup .cW=some (jT.dj a b).v)(m1:(v,.inst .b7 fs)∈L)(e1:fs.lookup .bJ=some (.ref R))(m2:(R,.list P)∈L)(e2:P[3]?=some (.ref p))(m3:(p,.inst .eZ a1)∈L)(e3:a1.lookup .params=some (.ref r))(h:(r,.list<|G [s,t])∈L)
 (U:a<u)(X:b<u)(Y:s<u)(Z:t<u)(f:a4 .aB=some (.ref l))(k:a4 .ab=some (.ref B))(D:a4 .bO=some (.ref v))
 (q:∀i a5,WI i u (c+4)->(∀x,x≠.cB->x≠.dv->a5 x=a4 x)->J O T a3 ((l,.list<|jr i)::(cA i++L)) a5 [] .b):J O T a3 ((l,.list<|jr A)::(cA A++L)) a4 [.ss<|bD<|Ss.dr 1 mV] .b:=by
 have M:∀{x I A},x∈L->x∈I::(cA A++L):=λE=>N<|cs _ E;have e:=(hV (sg (ox c 4) g) (sg (ox (c+1) 3) g) (sg (ox (c+2) 2) g)<|sg (ox (c+3) 1) g);refine aY .v<|y .a k<|Q .v (M o) j<|y .a k<|Q .v (M o) j<|y .a D<|Q .v (M m1) e1<|y .a k<|Q .a (M o) j<|fL .a (M m2) m e2<|Q .a (M m3) e3<|RZ .a (M h)<|
  aO (x:=.aF [.int a,.int s]) (xs:=[.aF [.int b,.int t]]) .o (df<|M h)<|aY .o<|Fu .o (X:=.cB) (Y:=.dv) W U e.1 f z rfl λAL K=>aY .o<|aY .o<|Fu .a (X:=.dv) (Y:=.cB) K Y e.2.1 f z rfl λyM H=>aP<|
  aO (x:=.aF [.int b,.int t]) (xs:=[]) .o (df<|M h)<|aY .o<|Fu .o (X:=.cB) (Y:=.dv) H X e.2.2.1 f z rfl λVs C=>aY .o<|aY .o<|Fu .a (X:=.dv) (Y:=.cB) C Z e.2.2.2 f z rfl λF d=>aP<|
  b5 (df<|M h) ?_
 exact q F _ d λx S n2=>(if_neg n2).trans<|(if_neg S).trans<|(if_neg n2).trans<|if_neg S
theorem Ex{B:Nat}{d:List (IK×V)}{j:jT}(h:(B,.inst .eZ d)∈L)(e:d.lookup .cW=some j.v)(g:∀a b,j≠.dj a b)(f:c .ab=some (.ref B))(q:J O T i L c [] .b):
 J O T i L c [.ss<|bD<|Ss.dr 1 mV] .b:=by
 induction j using jT.casesOn with
 |dj a b=>exact absurd z<|g a b
 |_=>exact aY .v<|y .a f<|Q .a h e q
theorem HC{F:List LB}(u:UG L lu ah a1 F)(sh:i4 F)(C:YN F a1)(hN:a1<9000)
 (P:∀i A,A.length=a1->U O ((i,.list<|jr A)::(cA A++L)) (w<|.ref i)):U O L<|Tn (n+1) .nV [.ref lu] w:=by
 obtain⟨fs,en,bl,Bs,j,R,Z,a4,a5,c,l⟩:=u;have M:∀{x S A},x∈L->x∈S::(cA A++L):=λI=>N<|cs _ I;refine aZ .a [.bO] mV z rfl rfl<|Q .a j Z<|AA .a (jp a1) (Int.ofNat_lt.mpr<|f6 hN m)<|R0 (A:=[]) (rW _) λA gY hA hl=>dF λi=>?_;have W:WI A a1 0:=⟨by rw[hl];unfold bY;rw[fZ,List.length_range];exact Nat.zero_add a1,λx I=>by rw[hA x I];exact ct 0⟩;refine Q .a (M j) R<|gd .v (M c) ?_;cases sh with
 |@one S k a b h0 p0=>refine bS l.one λB e d=>?_;clear l;subst e;obtain⟨pr,lo,o,V,g⟩:=d;exact aO (xs:=[]) .z (df<|M c)<|Ex (M o) (by rw[h0];rfl) (λ_ _=>by nofun) rfl<|aP<|b5 (df<|M c)<|y .a z<|aR<|P i A W.len
 |@four y0 y1 y2 y3 r Vn RS Vo RT f k a b s t h0 J K h3 p0 p1 p2 D=>
  refine ri l.four λB0 E G p e d0 d1 d2 h=>?_;clear l;subst e;obtain⟨pr0,lo0,H,_,_⟩:=d0;obtain⟨pr1,lo1,o,_,_⟩:=d1;obtain⟨pr2,lo2,V,_,_⟩:=d2;obtain⟨KV,ZN,g,h,_⟩:=id h;rw[D] at h;have e1:=C.er _<|N q;rw[J] at e1;have e2:=C.er _<|N<|N q;rw[K] at e2;have e3:=C.pr _<|N<|N<|N q;rw[D] at e3;rw[h0] at H;rw[J] at o;rw[K] at V;rw[h3] at g;refine aO (xs:=[.ref E,.ref G,.ref p]) .z (df<|M c)<|Ex (j:=.br _) (M H) z (λ_ _=>by nofun) rfl<|aP<|aO (xs:=[.ref G,.ref p]) .z (df<|M c)<|
   K8 W m o z j R c z g z h (e1 _ q) (e1 _<|N q) (e3 _ q) (e3 _<|N q) z rfl rfl λAL jN Y v=>aP<|aO (xs:=[.ref p]) .z (df<|M c)<|
   K8 Y m V z j R c z g z h (e2 _ q) (e2 _<|N q) (e3 _ q) (e3 _<|N q) ((v _ m m).trans z) z ((v _ m m).trans z) λyM lg X qg=>aP<|aO (xs:=[]) .z (df<|M c)<|
   Ex (j:=.call _ _ _ _) (M g) z (λ_ _=>by nofun) rfl<|aP<|b5 (df<|M c)<|y .a ((qg .aB m m).trans<|(v .aB m m).trans z)<|aR<|P i yM X.len
end
theorem iE(r:Nat):∀O:cK,(kD O).lookup (r:Int)=(O.lookup r).map λp=>V.int (p:Nat):=λa=>by
 induction a with
 |nil=>exact z
 |cons x O b=>
  show List.lookup (r:Int) (((x.1:Int),V.int x.2)::kD O)=_;rw[ii,show List.lookup r (x::O)=List.lookup r ((x.1,x.2)::O) from rfl,ii,b];by_cases q:r=x.1;·subst q;rw[beq_self_eq_true,beq_self_eq_true];rfl
  ·rw[nz.mpr q,nz.mpr λe:(r:Int)=x.1=>q<|Int.ofNat.inj e]
theorem cv{d e:Type}[BEq d][LawfulBEq d]{k:d}{v:e}:∀{l:List (d×e)},l.lookup k=some v->(k,v)∈l:=λ{g}=>by
 induction g with
 |nil=>intro f;exact Ku f
 |cons j l i=>
  obtain⟨a,b⟩:=j;intro h;rw[ii] at h;cases q:(k==a) with
  |true=>rw[q] at h;cases h;rw[eq_of_beq q];exact .head _
  |false=>rw[q] at h;exact N<|i h
section
variable{n:Nat}{L:H}{Y:dC}{T:Sp}{C:cK}{c:Nat}
theorem Oa{J:Nat}(u:(c,.dict false<|kD C)∈L)(s:(J,.list A)∈L)(v:∀x∈C,x.2<9000):∀{t:Nat}{a:aV},a .of=some (.ref c)->a .aB=some (.int t)->
 (∀f g,(∀b,Nat.testBit g b↔t.testBit b\/∃o∈j,C.lookup o=some b)->f .aB=some (.int (g:Nat))->U O L λh=>KK .next ⟨f,h⟩)->
 Fo O T L [(J,.list A)] (.one .bH) (bD lV) KK (G j) a:=by
 induction j with
 |nil=>exactλ{t a} _ I D=>b5 (df s)<|D a t (λb=>⟨.inl,λF=>F.elim id nofun⟩) I
 |cons o j r=>
  intro t a H I D;refine aO (x:=.int o) (xs:=G j) .v (df s)<|y .v z<|y .a H<|PC .b u ?_;haveI i:=iE o C;cases F:C.lookup o with
  |none=>rw[F] at i;exact CZ .a (by rw[i];rfl)<|aP<|r H I λf g l k=>D f g (λb=>(l b).trans ⟨λE=>E.imp id λ⟨w,B,e⟩=>(a_ w (N B) e),λE=>E.imp id λ⟨w,B,e⟩=>(ew.mp B).elim (λd=>Ku<|(d▸F:C.lookup w=none).symm.trans e) λB=>(a_ w B e)⟩) k
  |some p=>
   rw[F] at i;refine Cc .v (by rw[i];rfl)<|y .v I<|y .a H<|cH (w:=.int p) .e u i<|Fg .e (f6 (v _<|cv F) m)<|r8 .a<|aP<|r (t:=t|||2^p) H z λf g l k=>D f g (λb=>(l b).trans ?_) k;rw[Nat.testBit_or,Nat.testBit_two_pow,Bool.or_eq_true,decide_eq_true_eq];constructor
   ·rintro((E|E)|⟨w,B,e⟩);·exact .inl E
    ·exact .inr<|a_ o q<|E▸F
    ·exact .inr<|a_ w (N B) e
   ·rintro(E|⟨w,B,e⟩);·exact .inl<|.inl E
    ·rcases ew.mp B with d|B
     ·rw[d,F] at e;cases e;exact .inl<|.inr z
     ·exact .inr<|a_ w B e
theorem K_(k:(a1,.inst .aK [(.iP,.ref a3)])∈L)(l:(a3,.list<|G A)∈L)(s:(c,.dict false<|kD C)∈L)(i:∀x∈C,x.2<9000)(p:r<A.length){K:Nat}(h:∀b,(A.getD r 0).testBit b->b<K)(g:K<9000)
 (d:∀a4,(∀b,Nat.testBit a4 b↔∃a2,(A.getD r 0).testBit a2/\C.lookup a2=some b)->U O L (Y<|.int (a4:Nat))):U O L<|Tn (n+2) .jA [.ref a1,.ref c,.int r] Y:=
 aZ .a [.apart,.of,.aa] lV z rfl rfl<|Q .a k z<|fL .a l (jp r) (qV p)<|M .a<|Fs (nb h) g λt w a=>gd .v q<|Oa (t:=0) (N s) q i z rfl λv u j f=>y .a f<|aR<|aA aT.tl<|
  d u λb=>(j b).trans ⟨λo=>o.elim (λo=>by rw[Nat.zero_testBit] at o;cases o) λ⟨a2,m,e⟩=>(a_ a2 ((a a2).mp m) e),λ⟨a2,o,e⟩=>.inr<|a_ a2 ((a a2).mpr o) e⟩
theorem Ob{t K:Nat}(g:K<9000)(e:t.testBit K=false)(q:∀s r,s<=K->t.testBit s=false->r .at_=some (.int (s:Nat))->U O L λh=>KK .next ⟨r,h⟩)(d:Nat):∀{i:Nat},K=i+d->∀{a:aV},a .ku=some (.int t)->a .at_=some (.int i)->
 Wo O (Tn<|n+1) L (.e<|.call .ve<|.cons (.ai .ku)<|.cons (.ai .at_) Es.nil) (cy nK) KK (d+1) a:=by
 induction d with
 |zero=>exactλ{i} b{a} k f=>eI .v<|y .v k<|y .a f<|M .a<|xY (by exact aG 0xc001d05101212328c051c101d06012710c051c001d061 z g b)<|Mr (by rw[b] at e;exact e)<|q i a (by exact aG 0xc001d05101211010011 z b) (by rw[b] at e;exact e) f
 |succ d l=>
  intro i b a k f;refine eI .v<|y .v k<|y .a f<|M .a<|xY (by exact bF 0x1c201d001d0a101212328c051c101d06012710c051c001d061 z g b) ?_;cases j:t.testBit i with
  |false=>exact Mr z<|q i a (by exact bF 0x1c201d001d0a101211010011 z b) j f
  |true=>exact C0 .v z<|y .a f<|iM<|l (by exact ng (bF 0x1c201d101d0a0011121c101d06d0a0011 z b)<|bF 0x1c101d001d0a2012120111c001d06d0a1 z b) k z
theorem HD{t K:Nat}(a:K<9000)(d:t.testBit K=false)(q:∀h,h<=K->t.testBit h=false->U O L (Y<|.int (h:Nat))):U O L<|Tn (n+2) .ky [.int t] Y:=
 aZ .a [.ku] nK z rfl rfl<|kp .v (K+1)<|Ob (i:=0) a d (λh g b f e=>y .a e<|aR<|q h b f) K (Nat.zero_add K).symm rfl rfl
theorem Oc{l t:Nat}{i:List V}(f:(c,.dict false<|kD C)∈L)(g:(l,.list i)∈L)(d:∀x∈C,x.2<9000)(q:∀s,s .taken=some (.int t)->U O L λh=>KK .next ⟨s,h⟩)(r:∀s w A,C.lookup w=some A->t.testBit A=false->U O L λh=>KK (.ret<|.int (A:Nat)) ⟨s,h⟩){e:List Nat}:
 ∀{a:aV},a .of=some (.ref c)->a .taken=some (.int t)->Fo O (Tn<|n+1) L [(l,.list i)] (.one .bH) (bD lW) KK (G e) a:=by
 induction e with
 |nil=>exactλ{a} _ v=>b5 (df g)<|q a v
 |cons w e k=>
  intro a u v;refine aO (x:=.int w) (xs:=G e) .v (df g)<|y .v z<|y .a u<|PC .b f ?_;haveI b:=iE w C;cases p:C.lookup w with
  |none=>
   haveI j:((kD C).lookup (w:Int)).isSome=false:=by rw[b,p];rfl
   exact xO .b j<|CZ .a j<|aP<|k u v
  |some A=>
   rw[p] at b;refine zt .v (by rw[b];rfl)<|y .v v<|y .a u<|cH (w:=.int A) .a f b<|M .b<|xY (f6 (d _<|cv p) m) ?_;cases o:t.testBit A with
   |true=>exact xO .b z<|CZ .a z<|aP<|k u v
   |false=>exact zt .b z<|Cc .v z<|y .a u<|cH (w:=.int A) .a f b<|Fi (df g)<|r _ w A p o
theorem HE{B:List Nat}{A:List (Nat×List Nat)}(H:(w,.inst .aK [(.iP,.ref a2)])∈L)(J:(a2,.list<|G B)∈L)(l:(c,.dict false<|kD C)∈L)(K:(wl,.list<|jr A)∈L)(D:∀x∈cA A,x∈L)
 (o:A.length=a1)(h:AM B a1)(F:a1<9000)(N:r<a1)(d:∀x∈C,x.2<C.length)(i:C.length<9000)
 (q:∀a4,a4<=C.length->(∀a3,(B.getD r 0).testBit a3->C.lookup a3≠some a4)->U O L (Y<|.int (a4:Nat))):U O L<|Tn (n+3) .jB [.ref w,.ref c,.ref wl,.int r] Y:=by
 haveI f:∀x∈C,x.2<9000:=λx m=>f6 (d x m) i;refine aZ .a [.apart,.of,.qm,.aa] lW z rfl rfl<|M .a<|K_ H J l f (h.len▸N) (h.bd r) F λt j=>?_;haveI W:∀{a4},t.testBit a4=false->∀a3,(B.getD r 0).testBit a3->C.lookup a3≠some a4:=λa a3 b e=>by rw[(j _).mpr<|a_ a3 b e] at a;cases a
 haveI g:=o▸N;haveI E:(jr A)[((r:Nat):Int).toNat]?=some (.ref A[r].1):=by show(A.map λx=>V.ref x.1)[r]?=_;rw[oe,sB g];rfl
 haveI s:=D _<|List.mem_map.mpr<|a_ (A[r]) (List.getElem_mem g) z;refine fL .a K (jp r) E<|gd .v s<|Oc (t:=t) l s f (λu v=>?_) (λu a3 a4 e a=>q a4 (Nat.le_of_lt<|d _<|cv e)<|W a) rfl rfl;refine y .a v<|M .a<|HD (K:=C.length) i ?_ λk p a=>aR<|q k p<|W a;cases I:t.testBit C.length with
 |false=>rfl
 |true=>exact bS ((j _).mp I) λa3 _ e=>absurd (d _<|cv e)<|Nat.lt_irrefl _
end
section
variable{p:P}{u:List V}{a:Nat}{Y:aV}{h:Hp}{L t:H}{Z:aT}
theorem Vv{j:List (Int×V)}{o:V->(aV)->Option (aV)}{d:(Fl->St->Prop)->St->Prop}{f:Fl->St->Prop}(b:Z.C h L)(m:At a (.dict false j) (.dict true j) L t)
 (k:∀i,Z.C i t->mA [(a,.dict true j)] o d (λg n=>f g ⟨n.ρ,h9 n.h a<|.dict false j⟩) (j.map λp=>.int p.1) ⟨Y,i⟩):
 ∃l c,gO .it [.ref a] h=some (l,c)/\mA c o d (λg n=>f g ⟨n.ρ,dK (a9 .it [.ref a] h) false n.h⟩) l ⟨Y,dK (a9 .it [.ref a] h) true h⟩:=by
 haveI e:a9 .it [.ref a] h=some (a,j):=bj (o:=h a) (Z.get b m.mem) z;rw[e];exact(fJ _ _ (bj (o:=h a) (Z.get b m.mem) z)<|k _<|Z.put b m)
theorem R2{d:V->(aV)->Option (aV)}(b:Z.C h L)(m:(a,.list g)∈L)(k:mA [(a,.list g)] d i KK (fk 0 g) ⟨Y,h⟩):
 ∃g c,gO .uz [.ref a] h=some (g,c)/\mA c d i (λf e=>KK f ⟨e.ρ,dK (a9 .uz [.ref a] h) false e.h⟩) g ⟨Y,dK (a9 .uz [.ref a] h) true h⟩:=
 (fJ _ _ (cR (o:=f8 h a)<|cT<|Z.get b m) k)
end
def ZW(a:Nat)(C:a0)(c:Kk):Kk:=λb s=>c b ⟨s.ρ,h9 s.h a C⟩
theorem PZ(l:Lv)(m:At a (.dict false bo) (.dict true bo) L s)(k:Fo n T s [(a,.dict true bo)] g b (ZW a (.dict false bo)<|Kf j<|sZ l T j c fs) (bo.map λr=>.int r.1) i):J n T j L i (.fr g .it b::c)<|.v (.ref a)<|.m fs:=by rw[hU] at k;exact aS ⟨λh d=>Vv (f:=Kf j<|io T j c fs) d m λf e=>k.at_ f e⟩
theorem R3(m:At a (.dict true bo) (.dict false bo) L i)(k:U g i λh=>KK c ⟨e,h⟩):U g L λh=>ZW a (.dict false bo) KK c ⟨e,h⟩:=⟨λ_ b=>k.at_ _<|g.put b m⟩
theorem Ez(l:Lv)(m:(a,.list xs)∈L)(k:Fo j T L [(a,.list xs)] e b (Kf i<|sZ l T i c fs) (fk 0 xs) g):J j T i L g (.fr e .uz b::c)<|.v (.ref a)<|.m fs:=by rw[hU] at k;exact aS ⟨λh d=>R2 (KK:=Kf i<|io T i c fs) d m<|k.at_ h d⟩
theorem qW{b c:Type}[BEq b]{k:b}{d:List (b×c)}:∀{O:List (b×c)},(O++d).lookup k=(O.lookup k).or (d.lookup k):=λ{e}=>by
 induction e with
 |nil=>exact z
 |cons x O f=>rw[List.cons_append,show List.lookup k (x::(O++d))=List.lookup k ((x.1,x.2)::(O++d)) from rfl,ii,f,show List.lookup k (x::O)=List.lookup k ((x.1,x.2)::O) from rfl,ii];cases k==x.1<;>rfl
theorem na{b c:Type}[BEq b][LawfulBEq b]{k:b}:∀{O:List (b×c)},k∈O.map (·.1)->∃v,O.lookup k=some v:=λ{f}=>by
 induction f with
 |nil=>intro d;exact absurd d i3
 |cons x O g=>
  intro m;rw[show List.lookup k (x::O)=List.lookup k ((x.1,x.2)::O) from rfl,ii];cases q:k==x.1 with
  |true=>exact⟨_,z⟩
  |false=>
   rcases ew.mp m with e|m
   ·exact absurd e<|ne_of_beq_false q
   ·exact g m
theorem AN{r p:Nat}(h:a.lookup r=none):aE (r:Int) (V.int p) (kD a)=kD (a++[(r,p)]):=by rw[gN<|by rw[iE,h];rfl];unfold kD;rw[sn];rfl
noncomputable def eO(i:Nat):List Nat->cK
 |[]=>[]
 |r::b=>(r,i)::eO (i+1) b
theorem Lb:∀(b:List Nat)(i:Nat),(eO i b).length=b.length:=λc=>by
 induction c with
 |nil=>intro _;exact z
 |cons e b d=>intro i;exact congrArg (·+1)<|d<|i+1
theorem R4:∀(b:List Nat)(i r:Nat),eO i (b++[r])=eO i b++[(r,i+b.length)]:=λc=>by
 induction c with
 |nil=>intro _ _;exact z
 |cons e b d=>intro i r;show _::eO (i+1) (b++[r])=_::(eO (i+1) b++_);rw[d (i+1) r,jM,Nat.add_right_comm,Nat.add_assoc]
theorem wq:∀(b:List Nat)(i:Nat),(eO i b).map (·.1)=b:=λc=>by
 induction c with
 |nil=>intro _;exact z
 |cons e b d=>intro i;exact congrArg (e:: ·)<|d<|i+1
theorem AO:∀{d:List Nat}{i:Nat}{x:Nat×Nat},x∈eO i d->x.2<i+d.length/\i<=x.2/\d[x.2-i]?=some x.1:=λ{g}=>by
 induction g with
 |nil=>intro k l f;exact absurd f i3
 |cons e d j=>
  intro i x m;rcases ew.mp m with rfl|m
  ·exact(eP (Nat.lt_add_of_pos_right<|Nat.succ_pos _) (ct i)<|by rw[Nat.sub_self];rfl)
  ·refine F5 (j m) λa b c=>?_;exact(eP (by rw[jM];exact bF 0x21c101d06d0a1c001d06011c201d101d0a1c001d061 z a) (Nat.le_of_lt ‹_›)<|by rw[show x.2-i=(x.2-(i+1))+1 by exact ng (jQ 0x3011c201d101d0a213012001d05111c101d060011 z (hB (n:=x.snd) (m:=i)<|aG 0x1011c001d06011010011 z b)<|hB (n:=x.snd) (m:=i+1)<|aG 0x1011c001d06011011c001d061 z b)<|jQ 0x3011c201d001d0a113012101d05211011c001d061 z (hB (n:=x.snd) (m:=i)<|aG 0x1011c001d06011010011 z b)<|hB (n:=x.snd) (m:=i+1)<|aG 0x1011c001d06011011c001d061 z b];exact c)
theorem Od(d:b.Nodup)(e:b[j]?=some r):(eO 0 b).lookup r=some j:=by refine oE (na (k:=r) (O:=eO 0 b)<|by rw[wq];exact List.mem_of_getElem? e) λv c=>?_;have:=(AO<|cv c).2.2;rw[Nat.sub_zero] at this;obtain⟨f,a⟩:=v6.mp this;obtain⟨g,h⟩:=v6.mp e;exact c.trans<|congrArg some<|(List.getElem_inj d).mp<|a.trans h.symm
structure OI(d:List Nat)(e:cK)(c:Nat):Prop where
 g:GI (e.map (·.1)) c
 lt:∀x∈e,x.2<e.length
 ap:∀a b p,(d.getD a 0).testBit b->a≠b->e.lookup a=some p->e.lookup b≠some p
theorem OI.len(o:OI a c b):c.length<=b:=by have:=o.g.len;rwa [fZ] at this
theorem OI.fh(g:c.Nodup)(d:∀r∈c,r<i):OI h (eO 0 c) i:=
 ⟨⟨by rw[wq];exact g,by rw[wq];exact d⟩,λx m=>by rw[Lb];have:=(AO m).1;rwa [Nat.zero_add] at this,
  λa b p _ n e f=>n<|me<|(AO<|cv e).2.2.symm.trans (AO<|cv f).2.2⟩
theorem OI.more(o:OI A T L)(s:AM A L)(t:r<L)(e:T.lookup r=none)(w:Y<=T.length)(h:∀x,(A.getD r 0).testBit x->T.lookup x≠some Y):OI A (T++[(r,Y)]) L:=by
 have g:r∉T.map (·.1):=λm=>by refine oE (na m) λv p=>?_;rw[e] at p;cases p
 have lk:∀x,(T++[(r,Y)]).lookup x=if x=r then some Y else T.lookup x:=λx=>by
  rw[qW,ii];by_cases q:x=r;·clear h t g;subst q;rw[if_pos z,e,beq_self_eq_true];rfl
  ·rw[if_neg q,nz.mpr q];exact Option.or_none
 have u:∀x∈T++[(r,Y)],x.2<(T++[(r,Y)]).length:=λx m=>by
  rw[eR,List.length_singleton];refine db (mx.mp m) (λm=>?_) λm=>?_;·exact Nat.lt_succ_of_lt<|o.lt x m
  ·exact(eL.mp m)▸Nat.lt_succ_of_le w
 have j:(T++[(r,Y)]).map (·.1)=ww (T.map (·.1)) r:=by unfold ww;rw[if_neg g,sn];rfl
 refine⟨by rw[j];exact(o.g.more t).1,u,λa b c i n f d=>?_⟩;rw[lk] at f d;by_cases k:a=r;·clear e t j lk u g;subst k;rw[if_pos z] at f;cases f;rw[if_neg λp=>n p.symm] at d;exact h b i d
 ·rw[if_neg k] at f;by_cases l:b=r;·clear e t j lk u g k;subst l;rw[if_pos z] at d;cases d;exact h a (s.sym a b i) f
  ·rw[if_neg l] at d;exact o.ap a b c i n f d
structure PO(ah:List Nat)(ys:List LB)(e:List Nat)(f:cK)(c:Nat):Prop where
 en:∀i r,ah[i]?=some r->f.lookup r=some i
 ps:∀d∈ys,(∀x∈d.ps,∃p,f.lookup x=some p)/\∀x∈t9 d.ao,∃p,f.lookup x=some p
 ap:∀a b p,(e.getD a 0).testBit b->a≠b->f.lookup a=some p->f.lookup b≠some p
 lt:∀r p,f.lookup r=some p->p<c
 ge:ah.length<=c
 sm:c<9000
section
variable{n:Nat}{L:H}{A:dC}{T:Sp}
theorem R5(i:(w,.list Y)∈L){b:List Nat}:∀{dn:List Nat}{H:aV},(dn++b).Nodup->(dn++b).length<9000->H .of=some (.ref j)->
 (∀c,(∀x,x≠.bG->x≠.aa->c x=H x)->U O ((j,.dict false<|kD<|eO 0<|dn++b)::L) λh=>KK .next ⟨c,h⟩)->
 Fo O T ((j,.dict false<|kD<|eO 0 dn)::L) [(w,.list Y)] (.many [.bG,.aa]) (bD kF) KK (fk dn.length<|G b) H:=by
 induction b with
 |nil=>intro dn H d f e p;rw[j0] at p;exact b5 (df<|N i)<|p H λ_ _ _=>rfl
 |cons r b t=>
  intro dn H d f e p;haveI s:(eO 0 dn).lookup r=none:=by
   cases u:(eO 0 dn).lookup r with
   |none=>rfl
   |some v=>haveI l:=List.mem_map_of_mem (f:=(·.1))<|cv u;rw[wq] at l;exact absurd z<|(List.nodup_append.mp d).2.2 r l r q
  haveI k:dn.length<1000000:=sg (eR▸ox ..)<|f6 f m;haveI g:kD (eO 0 dn++[(r,dn.length)])=kD (eO 0<|dn++[r]):=by rw[R4,Nat.zero_add]
  rw[List.append_cons] at d f p;refine aO (x:=.aF [.int dn.length,.int r]) (xs:=fk (dn.length+1)<|G b) .v (df<|N i)<|y .v z<|y .a e<|eY .a ((AN s).trans g) .head (by unfold kD;rw[fZ,Lb];exact k)<|aP ?_;rw[show dn.length+1=(dn++[r]).length by rw[eR];rfl];exact t (dn:=dn++[r]) d f e λc o=>p c λx a C=>(o x a C).trans<|(if_neg C).trans<|if_neg a
theorem Oe{o:cK}(j:(Y,.dict true<|kD o)∈L){B:cK}:∀{c:Nat}{H:aV},(∀x∈B,x∈o)->H .of=some (.ref Y)->H .aj=some (.int c)->
 (∀b e,c<=b->(∀x∈B,∀p,o.lookup x.1=some p->p<b)->(∀d,c<=d->(∀x∈o,x.2<d)->b<=d)->e .of=some (.ref Y)->e .aj=some (.int (b:Nat))->U O L λh=>KK .next ⟨e,h⟩)->
 Fo O T L [(Y,.dict true<|kD o)] (.one .aa) (bD<|Ss.dr 6 kF) KK ((kD B).map λp=>.int p.1) H:=by
 induction B with
 |nil=>exactλ{c H} _ D E t=>b5 (df j)<|t c H (ct c) (rW _) (λd l _=>l) D E
 |cons x B a=>
  intro c H k D E t;refine oE (na<|List.mem_map_of_mem (f:=(·.1))<|k x q) λp f=>?_;have s:(if (c:Int)<(p:Nat)+1 then((p:Nat)+1:Int) else c)=((max c (p+1):Nat):Int):=by split<;>lia
  show Fo O T L _ _ _ _ (V.int x.1::(kD B).map λp=>.int p.1) H;refine aO .v (df j)<|y .v E<|y .a D<|cH (w:=.int p) .a j (by rw[iE,f];rfl)<|aP<|
   a (c:=max c (p+1)) (λu m=>k u<|N m) D (congrArg (λi=>some<|V.int i) s) λb e r C F v w=>t b e (eJ (Nat.le_max_left ..) r) (λu m z g=>?_) (λd l m=>F d (qc.mpr ⟨l,m _<|cv f⟩) m) v w
  refine db (ew.mp m) (λd=>?_) λm=>?_;·rw[d,f] at g;cases g;exact ci (Nat.lt_succ_self p)<|eJ (Nat.le_max_right ..) r
  ·exact C u m z g
end
section
variable{n:Nat}{L:H}{Y:dC}{T:Sp}
theorem Lc(l:Lv)(q:∀h,eh O (Tn<|n+1) e l ((h,.inst .hH [(.of,.ref g),(.aj,b)])::L) a c<|.v (.ref h) fs):J O (Tn<|n+1) e L a (.new .hH::c)<|.v b<|.v (.ref g)<|.m fs:=
 s6 l λh=>aZ .a [.aq,.of,.aj] rT z rfl rfl<|aX .a .head z rfl<|aX .a .head z rfl<|jf<|q h
theorem R6{s t F J gl D:Nat}{A:List (Nat×List Nat)}(I:(t,.inst .aK [(.iP,.ref F)])∈L)(Z:(F,.list<|G a1)∈L)(m3:(J,.list<|jr A)∈L)(m4:∀x∈cA A,x∈L)(C:(gl,.list a2)∈L)
 (K:A.length=D)(u:AM a1 D)(v:D<9000){g:List Nat}:∀{E:cK}{c:aV},(∀r∈g,r<D)->OI a1 E D->c .of=some (.ref s)->c .apart=some (.ref t)->c .qm=some (.ref J)->
 (∀d f,OI a1 d D->(∀r p,E.lookup r=some p->d.lookup r=some p)->(∀r∈g,∃p,d.lookup r=some p)->(∀x,x≠.aa->f x=c x)->U O ((s,.dict false<|kD d)::L) λh=>KK .next ⟨f,h⟩)->
 Fo O (Tn<|n+3) ((s,.dict false<|kD E)::L) [(gl,.list a2)] (.one .aa) (bD<|Ss.dr 4 kF) KK (G g) c:=by
 induction g with
 |nil=>exactλ{E c} _ o _ _ _ Q=>b5 (df<|N C)<|Q E c o (λ_ _ e=>e) (rW _) λ_ _=>rfl
 |cons r g w=>
  intro E c hr o V e2 e3 Q;refine aO (x:=.int r) (xs:=G g) .v (df<|N C)<|y .v z<|y .a V<|ou .b q ?_;haveI R:=iE r E;cases S:E.lookup r with
  |some p=>exact CZ .a (by rw[R,S];rfl)<|aP<|w (λr P=>hr r<|N P) o V e2 e3 λd f l i k j=>Q d f l i (λx P=>(ew.mp P).elim (λe=>⟨p,i _ _<|e▸S⟩)<|k x) λx n=>(j x n).trans<|if_neg n
  |none=>
   haveI B:=sg o.len v;haveI H:=hr r q;exact Cc .v (by rw[R,S];rfl)<|y .v e2<|y .v V<|y .a e3<|M .v<|HE (N I) (N Z) q (N m3) (λx P=>N<|m4 x P) K u v H o.lt B λp W X=>y .a V<|eY .a (AN S) .head (by unfold kD;rw[fZ];exact f6 B m)<|aP<|
    w (λr P=>hr r<|N P) (o.more u H S W X) V e2 e3 λd f l i k j=>Q d f l (λa b e=>i a b<|by rw[qW,e];rfl) (λx P=>(ew.mp P).elim (λe=>⟨p,i _ _<|by rw[e];exact j' S⟩)<|k x) λx n=>(j x n).trans<|if_neg n
theorem HF(u:UG L lu ah a4 g)(D:i4 g)(F:YN g a4)(k:∀r∈ah,r<a4)(l:ah.Nodup)(b:a4<9000)(S:∀ag∈g,ag.ao.length<1000)
 (I:∀Ms a' j a1 a5 c,PT g j->AF ah g j a1->PO ah g a1 a5 c->U O ((Ms,.inst .hH [(.of,.ref a'),(.aj,.int (c:Nat))])::(a',.dict false<|kD a5)::L) (Y<|.ref Ms)):U O L<|Tn (n+7) .lJ [.ref lu] Y:=by
 obtain⟨fs,B,bl,Bs,o,a2,a3,J,t,a6,a7⟩:=id u;have K:ah.length<=a4:=by have:=rF (m:=List.range a4) l λx hx=>List.mem_range.mpr<|k x hx;rwa [List.length_range] at this
 refine aZ .a [.bO] kF z rfl rfl<|M .a<|K4 u D F k b S λv d j a1 fx am af=>M .a<|HC (u.mono λ_ E=>N<|N E) D F b λZ A hA=>?_;have s:∀{x},x∈(d,a0.list<|G a1)::(v,a0.inst .aK [(.iP,.ref d)])::L->x∈(Z,a0.list<|jr A)::(cA A++(d,a0.list<|G a1)::(v,a0.inst .aK [(.iP,.ref d)])::L):=λE=>N<|cs _ E;have a:∀{x},x∈L->x∈(Z,a0.list<|jr A)::(cA A++(d,a0.list<|G a1)::(v,a0.inst .aK [(.iP,.ref d)])::L):=λE=>s<|N<|N E;refine aW .a λa'=>Q .a (N<|a o) J<|Ez .v (N<|a t)<|R5 (dn:=[]) (a t) l (sg K b) z λlg h=>?_;refine y .a ((h _ m m).trans z)<|M .z<|K7 (u.mono λ_ E=>N<|a E) F k b λgl gs gi g1 W=>aA (aT.mv [] [_] [_])<|aY .a<|gd .v (N q)<|
  R6 (N<|s<|N q) (N<|s q) (N q) (λx E=>N<|N<|ll _ E) q hA am b gi.lt (OI.fh l k) ((h _ m m).trans z) ((h _ m m).trans z) ((h _ m m).trans z) λa5 xZ C k1 X Yu=>?_
 have f:∀x,x≠.bG->x≠.aa->xZ x=_:=λx n1 R=>(Yu x R).trans<|h x n1 R;have ol:=C.len;have B:∀i r,ah[i]?=some r->a5.lookup r=some i:=λi r e=>k1 r i<|Od l e;refine y .a ((f _ m m).trans z)<|Q .a (N<|N<|a o) J<|fv .v (N<|N<|a t)<|y .a ((f _ m m).trans z)<|PZ .v .head<|
  Oe (B:=a5) (c:=ah.length) q (λ_ E=>E) ((f _ m m).trans z) (congrArg (λi:Nat=>some<|V.int i)<|bB ah) λc Vw c1 c2 c3 e1 e2=>R3 .head<|y .v e1<|y .a e2<|Lc .a λMs=>aR<|
  aA (λH=>O.sub H<|.cons_cons _<|.cons_cons _<|.cons _<|.cons _<|List.Sublist.trans (.cons _<|.cons _<|.refl L)<|List.sublist_append_right ..)<|I Ms a' j a1 a5 c fx af ⟨B,λP E=>⟨λx w=>X x<|(W P E).1 x w,λx w=>X x<|(W P E).2 x w⟩,C.ap,λr p e=>c2 _ (cv e) p e,c1,?_⟩
 exact sg (c3 a4 K λx E=>ci (C.lt x E) ol) b
end
section
variable{L C:H}{Z:aT}{T:Sp}{K:Kk}{Y:aV}{c:List I}{r:Fr}{A:Tg}{b:Ss}{a:Nat}{s:List V}{g:List (Int×V)}
theorem Of(l:Lv)(k:Fo Z T L [] A b (Kf K<|sZ l T K c r) (bn i j) Y):J Z T K L Y (.fr A .zip b::c)<|.v (.aF j)<|.v (.aF i)<|.m r:=by rw[hU] at k;exact aS ⟨λh e=>(fJ _ ([]) z<|k.at_ h e)⟩
theorem Vx(l:Lv){d:B}(m:(a,.dict true g)∈L)(k:Co Z T L [(a,.dict true g)] A d n (wP (λa1 x=>sZ l T K c (.v a1 r) x) Y) (g.map λw=>.int w.1) []<|gW A Y):J Z T K L Y (.cp n A .it d::c)<|.v (.ref a)<|.m r:=by rw[hU] at k;refine aS ⟨λh f=>?_⟩;haveI e:a9 .it [.ref a] h=none:=rg (o:=h a) (Z.get f m) z;show∃s j,gO .it [.ref a] h=some (s,j)/\kC j (dA A) (qh T d) (gg T n) (λi q=>∀b,q.h b=none->io T K c (.v (.ref b) r) ⟨Y,h9 (dK (a9 .it [.ref a] h) false q.h) b<|.list i⟩) s [] ⟨gW A Y,dK (a9 .it [.ref a] h) true h⟩;rw[e];exact(fJ _ _ (bj (o:=h a) (Z.get f m) z)<|k.at_ h f)
theorem Yv:∀e:List Bool,(e.map V.bool).mapM uA=some e:=λf=>by
 induction f with
 |nil=>exact z
 |cons b e h=>rw[pc,List.mapM_cons,h];rfl
theorem P0(l:Lv){f:List Bool}(m:(a,.list<|f.map V.bool)∈L)(k:eh Z T K l L Y c<|.v (.bool<|f.any id) r):J Z T K L Y (.p .anyOf::c)<|.v (.ref a)<|.m r:=aS ⟨λh e=>(a_ (.val<|.bool<|f.any id) (bj (o:=mT (.ref a) h) (cT<|Z.get e m)<|(congrArg (Option.map λ(f:List Bool)=>R.val<|V.bool<|f.any id)<|Yv f).trans rfl)<|(aJ k).at_ h e)⟩
theorem Ld(l:Lv){b:Nat}{lk f:Bool}(m:(a,.dict lk g)∈L)(i:(b,.dict f [])∈L)(k:eh Z T K l L Y c<|.v (.bool<|!g.isEmpty) r):J Z T K L Y (.p (.eW .ne)::c)<|.v (.ref b)<|.v (.ref a)<|.m r:=aS ⟨λh e=>(a_ (.val<|.bool<|!g.isEmpty) (cR (f:=λb=>R.val<|V.bool b)<|cR (f:=not) (x:=g.isEmpty) (o:=zO (.ref a) (.ref b) h)<|bj (Z.get e m)<|bj (Z.get e i) z)<|(aJ k).at_ h e)⟩
theorem Vy(l:Lv)(m:(a,.dict lk g)∈L)(f:F3 i true)(k:eh Z T K l L Y (.es x::.mq i true::c)<|.v (.ref a)<|.m r):J Z T K L Y (.mp i x::c)<|.v (.ref a) r:=PF l ⟨λh e=>bj (o:=h a) (Z.get e m) z⟩ f k
theorem R7(l:Lv)(e:g.lookup i=some n)(o:co i g=j)(m:At a (.dict false g) (.dict false j) L C)(k:eh Z T K l C Y c<|.v n r):J Z T K L Y (.mq .nZ true::c)<|.v (.int i)<|.v (.ref a)<|.m r:=by subst o;exact aS ⟨λh f=>(F6 (bj (o:=h a) (Z.get f m.mem) z) (.upd a (.dict false<|co i g) n) (bj (o:=h a) (Z.get f m.mem)<|cR (o:=g.lookup i) e)<|(aJ k).at_ _<|Z.put f m)⟩
end
theorem x7(i j:Nat):cZ (.int (i:Nat)) (.int (j:Nat))=(i==j):=by
 by_cases q:i=j;·subst q;rw[beq_self_eq_true];exact decide_eq_true z
 ·rw[nz.mpr q];exact decide_eq_false λe=>q<|Int.ofNat.inj e
theorem Lf(t:Nat):∀D:cK,co (t:Int) (kD D)=kD (co t D):=λf=>by
 induction f with
 |nil=>exact z
 |cons x D h=>
  show(if (x.1:Int)=t then kD D else((x.1:Int),V.int x.2)::co (t:Int) (kD D))=kD (if x.1=t then D else x::co t D);by_cases q:x.1=t;·rw[if_pos q,if_pos<|show(x.1:Int)=t from congrArg Int.ofNat q]
  ·rw[if_neg q,if_neg λe:(x.1:Int)=t=>q<|Int.ofNat.inj e,h];rfl
def rP(x:Nat×Nat):V:=(cL.zy x.1 x.2).v
noncomputable def fy(D:cK)(t:Nat):Bool:=(D.map λx=>x.2==t).any id
def x8(D:cK)(a:cK):V:=match a.find? λx=> !fy D x.1 with
 |some x=>.int x.1
 |none=>.none
section
variable{n:Nat}{L:H}{w:dC}{T:Sp}{D:cK}{d u:Nat}
theorem HG{t:Nat}(o:(d,.inst .dY [(.aQ,.ref u)])∈L)(f:(u,.dict true<|kD D)∈L)(k:∀x∈D,D.lookup x.1=some x.2):∀{g:List Bool}{H:aV},(∀x∈r,x∈D)->H .aq=some (.ref d)->H .aa=some (.int t)->
 (∀e,U O L λh=>i ((g++r.map λx=>x.2==t).map V.bool) ⟨e,h⟩)->
 Co O T L [(u,.dict true<|kD D)] (.one .dv) .tt (.ay (.eW .eq)<|.cons (.ay .sub<|.cons (.ay (.attr .aQ)<|.cons (.ai .aq) Es.nil)<|.cons (.ai .dv) Es.nil)<|.cons (.ai .aa) Es.nil) i ((kD r).map λp=>.int p.1) (g.map V.bool) H:=by
 induction r with
 |nil=>exactλ{g H} _ _ _ a=>gB (df f) (by have:=a H;rw[List.map_nil,j0] at this;exact this)
 |cons x r l=>intro g H j s v a;show Co O T L _ _ _ _ i (V.int x.1::(kD r).map λp=>.int p.1) _ H;refine cJ .v (df f)<|y .a s<|Q .a o z<|cH (w:=.int x.2) .v f (by rw[iE,k x<|j x q];rfl)<|y .e v<|eE (us:=[.int x.2,.int t]) .a (.bool<|x.2==t) (congrArg (λb=>some<|V.bool b)<|x7 _ _) ⟨rfl,rfl⟩<|cF ?_;rw[show g.map V.bool++[V.bool<|x.2==t]=(g++[x.2==t]).map V.bool by rw[sn];rfl];refine l (λc m=>j c<|N m) s v λe=>?_;have:=a e;rw[pc,List.append_cons] at this;exact this
theorem Og(e:(d,.inst .dY [(.aQ,.ref u)])∈L)(f:(u,.dict true<|kD D)∈L)(h:∀x∈D,D.lookup x.1=some x.2)(a:U O L<|w<|.bool<|fy D c):U O L<|Tn (n+1) .mQ [.ref d,.int c] w:=
 aZ .a [.aq,.aa] k4 z rfl rfl<|Q .a e z<|Vx .a f<|HG (g:=[]) e f h (λ_ m=>m) rfl rfl λi=>dF λb=>P0 .a q<|aR<|aA aT.tl a
theorem HH(k:(d,.inst .dY [(.aQ,.ref u)])∈L)(e:(u,.dict true<|kD D)∈L)(l:∀x∈D,D.lookup x.1=some x.2):∀{H:aV},
 (∀f,(b.find? λx=> !fy D x.1)=none->U O L λh=>KK .next ⟨f,h⟩)->(∀x f,(b.find? λx=> !fy D x.1)=some x->U O L λh=>KK (.ret<|.int x.1) ⟨f,h⟩)->H .aq=some (.ref d)->
 Fo O (Tn<|n+1) L [(u,.dict true<|kD D)] (.one .dv) (bD gP) KK ((kD b).map λp=>.int p.1) H:=by
 induction b with
 |nil=>exactλ{H} q _ _=>b5 (df e)<|q H z
 |cons x b m=>
  intro H q i c;show Fo O _ L _ _ _ _ (V.int x.1::(kD b).map λp=>.int p.1) H;refine aO .v (df e)<|y .v c<|aU .a k z<|M .b<|Og k e l ?_;haveI j:((x::b).find? λx=> !fy D x.1)=if fy D x.1 then b.find? λx=> !fy D x.1 else some x:=by rw[List.find?_cons];cases fy D x.1<;>rfl
  cases a:fy D x.1 with
  |false=>exact Cc .a z<|Fi (df e)<|i x _ (by rw[j,a];rfl)
  |true=>rw[j,a] at q i;exact CZ .a z<|aP<|m q i c
theorem Fv(f:(d,.inst .dY [(.aQ,.ref u)])∈L)(i:∀x∈D,D.lookup x.1=some x.2)(a:U O ((u,.dict false<|kD D)::L)<|w<|x8 D D):U O ((u,.dict false<|kD D)::L)<|Tn (n+2) .kZ [.ref d] w:=by
 refine aZ .a [.aq] gP z rfl rfl<|Q .a (N f) z<|PZ .a .head<|HH (b:=D) (N f) q i (λh e=>R3 .head<|?_) (λx h e=>R3 .head<|?_) rfl;·unfold x8 at a;rw[e] at a;exact aR a
 ·unfold x8 at a;rw[e] at a;exact a
end
noncomputable def td(t s:Nat):cK:=if t=s then[] else[(t,s)]
def zE(g e a b c:Nat):cK:=
 if g=a then td e b else if e=b then[(g,a)] else if b=g then(if a=e then[(c,g),(g,e),(e,c)] else[(e,b),(g,a)]) else[(g,a),(e,b)]
section
variable{n:Nat}{L:H}{r:dC}{T:Sp}{D:cK}{d f:Nat}
theorem Fw{t s:Nat}(g:(d,.inst .dY [(.aQ,.ref f)])∈L)(b:D.length<9)(c:D.lookup t=none)(l:a .aq=some (.ref d))(j:a .dv=some (.int t))(k:a .cB=some (.int s))
 (q:J O T h ((f,.dict false<|kD<|D++td t s)::L) a [] .b):J O T h ((f,.dict false<|kD D)::L) a [.ss<|bD lY] .b:=by
 unfold td at q;refine aY .v<|y .v j<|y .e k<|PK .a .v (λi=>?_) λi=>?_;·rw[if_pos<|Int.ofNat.inj i,j0] at q;exact q
 ·rw[if_neg λe=>i<|congrArg Int.ofNat e] at q;exact y .v k<|y .a l<|Q .v (N g) z<|y .a j<|eY .a (AN c) .head (by unfold kD;rw[fZ];exact f6 b m) q
theorem HI(l:Lv){j:Fr}{h g b e:Nat}(i:h≠g)(k:∀d f,eh O (Tn<|n+1) s l ((f,.dict false<|kD<|td h b++td g e)::(d,.inst .dY [(.aQ,.ref f)])::L) a c<|.v (.ref d) j):
 J O (Tn<|n+1) s L a (.new .dY::c)<|.v (.aF<|G [b,e])<|.v (.aF<|G [h,g])<|.m j:=
 s6 l λd=>aZ .a [.aq,.i5,.aQ] lY z rfl rfl<|aW .a λf=>aX .a (.tail .head) z rfl<|Of .a<|aO (x:=.aF [.int h,.int b]) (xs:=[.aF [.int g,.int e]]) .z jS<|Fw (D:=[]) q m z rfl rfl rfl<|aP<|
  aO (x:=.aF [.int g,.int e]) (xs:=[]) .z jS<|Fw (D:=td h b) q (by unfold td;split;exact Nat.succ_pos 8;exact(by decide:1<9)) (by unfold td;split;rfl;rw[ii,nz.mpr i.symm];rfl) z rfl rfl<|aP<|b5 jS<|jf<|k d f
theorem Oh(a:(d,.inst .dY [(.aQ,.ref f)])∈L)(e:D.lookup c=some s)(b:U O ((f,.dict false<|kD<|co c D)::L)<|r<|.int s):U O ((f,.dict false<|kD D)::L)<|Tn (n+1) .tu [.ref d,.int c] r:=
 aZ .a [.aq,.dv] qA z rfl rfl<|Q .a (N a) z<|Vy .a q z<|R7 .a (by rw[iE,e];rfl) (Lf c D) .head<|aR b
theorem Fx(c:(d,.inst .dY [(.aQ,.ref f)])∈L)(e:D.lookup w=some s)(g:h.length<9)
 (l:a .row=some (.ref d))(o:a .aB=some (.ref b))(k:a .dv=some (.int w))(j:J O (Tn<|n+1) i ((b,.list<|(h++[(w,s)]).map rP)::(f,.dict false<|kD<|co w D)::L) a [] .b):
 J O (Tn<|n+1) i ((b,.list<|h.map rP)::(f,.dict false<|kD D)::L) a [.ss<|Ss.dr 2<|cy fH] .b:=
 aY .v<|y .v o<|gc .v q z<|y .v k<|y .v l<|aU .v (N<|N c) z<|y .a k<|M .z<|aA (aT.mv [] [_] [_])<|Oh (N c) e<|aA (aT.mv [] [_] [_])<|aY .a<|
  fg .a (by rw[sn];rfl) .head (by rw[fZ];exact f6 g m) j
theorem Oi(b:(d,.inst .dY [(.aQ,.ref f)])∈L)(g:∀x∈D,D.lookup x.1=some x.2)(e:(D.find? λx=> !fy D x.1)=some x)(i:j.length<9)
 (k:a .row=some (.ref d))(l:a .aB=some (.ref c))(q:J O (Tn<|n+3) s ((c,.list<|(j++[x]).map rP)::(f,.dict false<|kD<|co x.1 D)::L) (bX a .dv<|.int x.1) [] .b):
 J O (Tn<|n+3) s ((c,.list<|j.map rP)::(f,.dict false<|kD D)::L) a [.ss<|cy fH] .b:=by
 haveI h:x8 D D=.int x.1:=by unfold x8;rw[e]
 refine aY .v<|y .v k<|aU .a (N<|N b) z<|M .z<|aA (aT.mv [] [_] [_])<|Fv (N b) g ?_;rw[h];exact aA (aT.mv [] [_] [_])<|aY .b<|CZ .o z<|Fx b (g x<|List.mem_of_find?_eq_some e) i k l z q
def S3:B:=.e<|.ay (.eW .ne)<|.cons (.ay (.attr .aQ)<|.cons (.ai .row) Es.nil)<|.cons (.ay .emptyDict Es.nil) Es.nil
theorem Lh{j:Kk}{a:aV}{F:List V}(g:(d,.inst .dY [(.aQ,.ref f)])∈L)(k:a .row=some (.ref d))(i:J O T (U1 T S3 b j h) ((c,.list F)::(f,.dict false<|kD D)::L) a [.ret]<|.v (.bool<|!D.isEmpty) .b):
 Wo O T ((c,.list F)::(f,.dict false<|kD D)::L) S3 b j (h+1) a:=by
 have:(kD D).isEmpty=D.isEmpty:=by induction D using da<;>rfl
 rw[<-this] at i;exact eI .v<|y .a k<|Q .a (N<|N g) z<|aW .a λe=>Ld .a (N<|N q) q<|aA aT.tl i
end
section
variable{n:Nat}{L:H}{Y:dC}{T:Sp}{D:cK}{d f:Nat}
theorem Li(a:(d,.inst .dY [(.aQ,.ref f)])∈L)(c:U O ((f,.dict false<|kD<|x::D)::L)<|Y<|.int x.1):U O ((f,.dict false<|kD<|x::D)::L)<|Tn (n+1) .kB [.ref d] Y:=
 aZ .a [.aq] jG z rfl rfl<|Q .a (N a) z<|Ay .a q λb=>fL .a q m z<|aR<|aA aT.tl c
theorem Oj(i:g≠a)(h:(d,.inst .dY [(.aQ,.ref f)])∈L)(m:U O ((f,.dict false<|kD [(g,a),(a,c)])::L)<|Y .none):U O ((f,.dict false<|kD [(g,a),(a,g)])::L)<|Tn (n+1) .jD [.ref d,.int g,.int c] Y:=by
 haveI j:((a:Int)==(g:Int))=false:=nz.mpr λe=>i (Int.ofNat.inj e).symm;haveI k:List.lookup (g:Int) [((g:Int),V.int a),((a:Int),V.int g)]=some (.int a):=by rw[ii,beq_self_eq_true]
 haveI l:List.lookup (a:Int) [((g:Int),V.int a),((a:Int),V.int g)]=some (.int g):=by rw[ii,j,ii,beq_self_eq_true]
 haveI e:aE (a:Int) (V.int c) (kD [(g,a),(a,g)])=kD [(g,a),(a,c)]:=by show(if (g:Int)=a then _ else _)=_;rw[if_neg λe:(g:Int)=a=>i<|Int.ofNat.inj e];show _::(if (a:Int)=a then _ else _)=_;rw[if_pos z];rfl
 exact aZ .a [.aq,.aa,.bH] iV z rfl rfl<|Q .a (N h) z<|Ay .a q λb=>gd .a q<|aO (x:=.int g) (xs:=[.int a]) .a (df q)<|Q .a (N<|N h) z<|cH (w:=.int a) .e (N q) k<|
  nh .z .a (λo=>absurd (Int.ofNat.inj o) i.symm) λ_=>aP<|aO (x:=.int a) (xs:=[]) .a (df q)<|Q .a (N<|N h) z<|cH (w:=.int g) .e (N q) l<|
  nh .a .z (λ_=>Q .a (N<|N h) z<|eY .a e (.tail .head) (by show 2<1000000;decide)<|aP<|b5 (df q)<|dE<|aA aT.tl m) λo=>absurd z o
theorem Ol{i g b c:Nat}(j:g≠b)(h:(d,.inst .dY [(.aQ,.ref f)])∈L)
 (u:a .row=some (.ref d))(v:a .aB=some (.ref i))(A:a .gF=some (.int c))(t:∀w,(∀x,x≠.dv->w x=a x)->J O (Tn<|n+3) s ((i,.list<|[(c,g),(g,b)].map rP)::(f,.dict false<|kD [(b,c)])::L) w [] .b):
 J O (Tn<|n+3) s ((i,.list [])::(f,.dict false<|kD [(g,b),(b,g)])::L) a [.ss<|cy fH] .b:=by
 haveI o:(g==b)=false:=nz.mpr j;haveI k:(b==g)=false:=nz.mpr j.symm;haveI p:x8 [(g,b),(b,g)] [(g,b),(b,g)]=.none:=by simp [x8,fy,o,k]
 haveI r:co g [(g,b),(b,c)]=[(b,c)]:=if_pos z;refine aY .v<|y .v u<|aU .a (N<|N h) z<|M .z<|aA (aT.mv [] [_] [_])<|Fv (N h) (λx l=>?_) ?_
 ·rcases ew.mp l with e|l
  ·rw[e,ii,beq_self_eq_true]
  ·rw[eL.mp l,ii,k,ii,beq_self_eq_true]
 rw[p];refine aA (aT.mv [] [_] [_])<|aY .b<|Cc .v z<|y .v u<|aU .a (N<|N h) z<|M .z<|aA (aT.mv [] [_] [_])<|Li (N h)<|aA (aT.mv [] [_] [_])<|aY .v<|y .v v<|gc .v q z<|y .a A<|fg .v (ys:=[(c,g)].map rP) z .head m<|
  y .v u<|aU .v (N<|N h) z<|y .v z<|y .a A<|M .z<|aA (aT.mv [] [_] [_])<|Oj j (N h)<|aA (aT.mv [] [_] [_])<|aY .o<|aY .o<|
  Fx (h:=[(c,g)]) (w:=g) (s:=b) (D:=[(g,b),(b,c)]) h (by rw[ii,beq_self_eq_true]) (by decide:1<9) u v z ?_
 rw[r];exact t _ λx n=>(if_neg n).trans<|if_neg n
theorem u9{g:Kk}{b:Ss}{k c:Nat}{a:aV}{F:List V}(e:(d,.inst .dY [(.aQ,.ref f)])∈L)(i:a .row=some (.ref d))(q:U O ((c,.list F)::(f,.dict false<|kD [])::L) λh=>g .next ⟨a,h⟩):
 Wo O T ((c,.list F)::(f,.dict false<|kD [])::L) S3 b g (k+1) a:=Lh e i<|Mr z q
theorem pJ{l:Kk}{k b:Nat}{a:aV}{x y:Nat×Nat}{D j F:cK}(c:(d,.inst .dY [(.aQ,.ref f)])∈L)(i:∀x∈y::D,(y::D).lookup x.1=some x.2)(e:((y::D).find? λx=> !fy (y::D) x.1)=some x)(g:co x.1 (y::D)=j)(h:F.length<9)
 (m:a .row=some (.ref d))(o:a .aB=some (.ref b))(q:Wo O (Tn<|n+3) ((b,.list<|(F++[x]).map rP)::(f,.dict false<|kD j)::L) S3 (cy fH) l k<|bX a .dv<|.int x.1):
 Wo O (Tn<|n+3) ((b,.list<|F.map rP)::(f,.dict false<|kD<|y::D)::L) S3 (cy fH) l (k+1) a:=by
 subst g;exact Lh c m<|C0 .z z<|Oi c i e h m o<|iM q
theorem Vz{t s:Nat}:∀x∈[(t,s)],[(t,s)].lookup x.1=some x.2:=λx m=>by rw[eL.mp m,ii,beq_self_eq_true]
theorem VA(n:a≠s):([(a,s)].find? λx=> !fy [(a,s)] x.1)=some (a,s):=by have:(s==a)=false:=nz.mpr n.symm;simp [fy,this]
theorem R8{P:Kk}(F:a3≠i)(W:i≠c)(j:(d,.inst .dY [(.aQ,.ref f)])∈L)(I:a .row=some (.ref d))(M:a .aB=some (.ref a2))(Q:a .gF=some (.int c))
 (q:∀a1,(∀x,x≠.dv->a1 x=a x)->U O ((a2,.list<|(zE a3 i g b c).map rP)::(f,.dict false<|kD [])::L) λh=>P .next ⟨a1,h⟩):
 Wo O (Tn<|n+3) ((a2,.list [])::(f,.dict false<|kD<|td a3 g++td i b)::L) S3 (cy fH) P 4 a:=by
 haveI o:∀{t s:Nat}{r:cK},co t ((t,s)::r)=r:=if_pos z;haveI J:∀{v:V} x,x≠.dv->bX a .dv v x=a x:=λ_ n=>if_neg n;haveI K:∀{v w:V} x,x≠.dv->bX (bX a .dv v) .dv w x=a x:=λ_ n=>(if_neg n).trans<|if_neg n;unfold td;unfold zE td at q;by_cases p:a3=g
 ·rw[if_pos p] at q⊢;by_cases k:i=b;·rw[if_pos k] at q⊢;exact u9 j I<|q a λ_ _=>rfl
  ·rw[if_neg k] at q⊢;exact pJ (F:=[]) (D:=[]) j Vz (VA k) o m I M<|u9 j I<|q _ J
 ·rw[if_neg p] at q⊢;by_cases k:i=b;·rw[if_pos k] at q⊢;exact pJ (F:=[]) (D:=[]) j Vz (VA p) o m I M<|u9 j I<|q _ J
  ·rw[if_neg k] at q⊢;haveI N:(i==a3)=false:=nz.mpr F.symm;haveI G:(g==a3)=false:=nz.mpr<|Ne.symm p;haveI H:(b==i)=false:=nz.mpr<|Ne.symm k;haveI y:∀x∈[(a3,g),(i,b)],[(a3,g),(i,b)].lookup x.1=some x.2:=λx E=>by
    refine db (ew.mp E) (λe=>?_) λE=>?_;·rw[e,ii,beq_self_eq_true]
    ·rw[eL.mp E,ii,N,ii,beq_self_eq_true]
   by_cases A:b=a3
   ·subst A;rw[if_pos z] at q;by_cases C:g=i
    ·clear H y k;subst C;rw[if_pos z] at q;exact Lh j I<|C0 .z z<|Ol F j I M Q λX u=>iM<|pJ (F:=[(c,b),(b,g)]) (D:=[]) j Vz (VA W) o (by decide:2<9) ((u _ m).trans I) ((u _ m).trans M)<|
      u9 j ((if_neg m).trans<|(u _ m).trans I)<|q _ λx n=>(if_neg n).trans<|u x n
    ·rw[if_neg C] at q;haveI B:(g==i)=false:=nz.mpr C;exact pJ (F:=[]) (x:=(i,b)) (j:=[(b,g)]) j y (by simp [fy,G,H,B]) (by show(if b=i then _ else _::(if i=i then _ else _))=_;rw[if_neg F,if_pos z]) m I M<|pJ (D:=[]) j Vz (VA p) o (by decide:1<9) I M<|u9 j I<|q _ K
   ·rw[if_neg A] at q;haveI l:(b==a3)=false:=nz.mpr A;exact pJ (F:=[]) (x:=(a3,g)) (j:=[(i,b)]) j y (by simp [fy,G,l]) o m I M<|pJ (D:=[]) j Vz (VA k) o (by decide:1<9) I M<|u9 j I<|q _ K
theorem Lj(j:i≠h)(k:h≠c)(o:∀g,U O ((g,.list<|(zE i h a b c).map rP)::L)<|Y<|.ref g):U O L<|Tn (n+4) .lM [.aF<|G [i,h],.aF<|G [a,b],.int c] Y:=
 aZ .a [.i5,.aQ,.gF] fH z rfl rfl<|HI .a j λd f=>aW .a λg=>kp .v 4<|R8 j k q z rfl rfl λl e=>y .a (e .aB m)<|aR<|aA (λH=>O.sub H<|.cons_cons _<|.cons _<|.cons _<|.refl L)<|o g
end
noncomputable def Ms(O:cK)(r:Nat):Nat:=(O.lookup r).getD 0
noncomputable def cL.re(f:Nat->Nat):cL->cL
 |.cst r k=>.cst (f r) k
 |.Fm r k=>.Fm (f r) k
 |.iH r n=>.iH (f r) n
 |.zy r s=>.zy (f r)<|f s
 |.set w k s=>.set w k<|f s
 |.yK r n a=>.yK (f r) n<|a.map f
 |.A5 r n a=>.A5 (f r) n<|a.map f
 |.fix b=>.fix<|b.map λx=>(f x.1,x.2.1,x.2.2.map f)
def jU(O:cK)(r:Nat):Prop:=∃p,O.lookup r=some p
theorem jU.kd(i:jU a r):(kD a).lookup (r:Int)=some (.int (Ms a r:Nat)):=by refine oE i λp e=>?_;clear i;unfold Ms;rw[iE,e];rfl
section
variable{n:Nat}{L:H}{C:dC}{T:Sp}{A:cK}{d:Nat}
theorem Fy(g:U O L<|ch c)(k:(d,.dict false<|kD A)∈L){b:List Nat}:∀{o:List Nat}{a:aV},(∀r∈b,jU A r)->a .of=some (.ref d)->(∀f,U O L λh=>i (G<|o++b.map (Ms A)) ⟨f,h⟩)->
 Co O T L c (.one .aa) .tt (.ay .sub<|.cons (.ai .of)<|.cons (.ai .aa) Es.nil) i (G b) (G o) a:=by
 induction b with
 |nil=>exactλ{o a} _ _ l=>gB g (by have:=l a;rw[List.map_nil,j0] at this;exact this)
 |cons r b j=>intro o a p e l;refine cJ (x:=.int r) (xs:=G b) .v g<|y .a e<|cH .a k (p r q).kd<|cF ?_;rw[dT];refine j (λr m=>p r<|N m) e λf=>?_;have:=l f;rw[pc,List.append_cons] at this;exact this
theorem rG(c:(d,.dict false<|kD A)∈L)(g:∀r∈a,jU A r)(f:U O L<|C<|.aF<|G<|a.map<|Ms A):U O L<|Tn (n+1) .cG [.aF<|G a,.ref d] C:=
 aZ .a [.bi,.of] lZ z rfl rfl<|tY .a<|Fy (o:=[]) jS c g z λe=>dF λb=>iC .a q<|aR<|aA aT.tl f
theorem Ll(f:(d,.dict false<|kD A)∈L)(c:(a,.list<|G e)∈L)(i:∀r∈e,jU A r)(h:U O L<|C<|.aF<|G<|e.map<|Ms A):U O L<|Tn (n+1) .cG [.ref a,.ref d] C:=
 aZ .a [.bi,.of] lZ z rfl rfl<|uV .a c<|Fy (o:=[]) (df c) f i z λg=>dF λb=>iC .a q<|aR<|aA aT.tl h
theorem Om{c g:Nat}(i:(g,.list r)∈L){F:cK}:∀{l:List Bool}{a:aV},a .gF=some (.int c)->(∀f,U O L λh=>j ((l++F.map λx=>x.1==c).map V.bool) ⟨f,h⟩)->
 Co O T L [(g,.list r)] (.one .step) .tt (.ay (.eW .eq)<|.cons (.ay .sub<|.cons (.ai .step)<|.cons (.hD<|.int 1) Es.nil)<|.cons (.ai .gF) Es.nil) j (F.map rP) (l.map V.bool) a:=by
 induction F with
 |nil=>exactλ{l a} _ q=>gB (df i) (by have:=q a;rw[List.map_nil,j0] at this;exact this)
 |cons x F k=>intro l a e q;refine cJ (x:=rP x) (xs:=F.map rP) .v (df i)<|y .v z<|y .e e<|eE (us:=[.int x.1,.int c]) .a (.bool<|x.1==c) (congrArg (λb=>some<|V.bool b)<|x7 _ _) ⟨rfl,rfl⟩<|cF ?_;rw[show l.map V.bool++[V.bool<|x.1==c]=(l++[x.1==c]).map V.bool by rw[sn];rfl];refine k e λf=>?_;have:=q f;rw[pc,List.append_cons] at this;exact this
noncomputable def vZ(F:cK)(c:Nat):Bool:=(F.map λx=>x.1==c).any id
theorem Lm{c a:Nat}(e:(a,.list<|g.map rP)∈L)(h:U O L<|C<|.bool<|vZ g c):U O L<|Tn (n+1) .iS [.ref a,.int c] C:=
 aZ .a [.steps,.gF] pQ z rfl rfl<|uV .a e<|Om (l:=[]) e z λf=>dF λb=>P0 .a q<|aR<|aA aT.tl h
theorem Oo(a:(d,.dict false<|kD A)∈L)(b:jU A x.1)(c:∀r∈x.2.2,jU A r)(q:U O L<|C<|iZ (Ms A x.1,x.2.1,x.2.2.map<|Ms A)):U O L<|Tn (n+2) .j3 [iZ x,.ref d] C:=
 aZ .a [.row,.of] tB z rfl rfl<|cH .a a b.kd<|M .a<|rG a c<|aR q
theorem Oq(i:(d,.dict false<|kD A)∈L){j:List (Nat×Int×List Nat)}:∀{l:List V}{a:aV},(∀x∈j,jU A x.1/\∀r∈x.2.2,jU A r)->a .of=some (.ref d)->
 (∀b,U O L λh=>g (l++(j.map λx=>(Ms A x.1,x.2.1,x.2.2.map<|Ms A)).map iZ) ⟨b,h⟩)->
 Co O (Tn<|n+2) L [] (.one .row) .tt (.call .j3<|.cons (.ai .row)<|.cons (.ai .of) Es.nil) g (j.map iZ) l a:=by
 induction j with
 |nil=>exactλ{l a} _ _ k=>gB jS (by have:=k a;rw[List.map_nil,List.map_nil,j0] at this;exact this)
 |cons x j f=>intro l a c e k;refine cJ (x:=iZ x) (xs:=j.map iZ) .v jS<|y .v z<|y .a e<|M .a<|Oo i (c x q).1 (c x q).2<|cF<|f (λr m=>c r<|N m) e λb=>?_;have:=k b;rw[pc,pc,List.append_cons] at this;exact this
theorem HJ{o:cL}(a:(d,.dict false<|kD A)∈L)(c:o.nice)(l:∀r∈o.bu,jU A r)(j:U O L<|C (o.re<|Ms A).v):U O L<|Tn (n+3) .nW [o.v,.ref d] C:=by
 induction o using cL.casesOn with
 |zy r s=>exact c.elim
 |cst r k=>exact aZ .a [.op,.of] fI z rfl rfl<|cH .a a (l r q).kd<|aR j
 |Fm r k=>exact aZ .a [.op,.of] fI z rfl rfl<|cH .a a (l r q).kd<|aR j
 |iH r k=>exact aZ .a [.op,.of] fI z rfl rfl<|cH .a a (l r q).kd<|aR j
 |set w k s=>
  refine db c ?_ ?_<;>clear c<;>intro e;·subst e;exact aZ .a [.op,.of] fI z rfl rfl<|cH .a a (l s q).kd<|aR j
  ·subst e;exact aZ .a [.op,.of] fI z rfl rfl<|cH .a a (l s q).kd<|aR j
 |yK r k g=>exact aZ .a [.op,.of] fI z rfl rfl<|cH .a a (l r q).kd<|M .a<|rG a (λs m=>l s<|N m)<|aR j
 |A5 r k g=>exact aZ .a [.op,.of] fI z rfl rfl<|cH .a a (l r q).kd<|M .a<|rG a (λs m=>l s<|N m)<|aR j
 |fix i=>exact aZ .a [.op,.of] fI z rfl rfl<|tY .a<|Oq (l:=[]) a (λx m=>⟨l _<|List.mem_flatMap.mpr<|a_ x m q,λr f=>l _<|List.mem_flatMap.mpr<|a_ x m<|N f⟩) rfl λh=>dF λb=>iC .a q<|aR<|aA aT.tl j
end
noncomputable def jV(x:Nat×Nat):V:=.aF [.int x.1,.int x.2]
structure g_ where
 (e il sd jl lu pl:Nat)
def g_.f(A:g_)(a:Bool):List<|IK×V:=[(.bO,.ref A.lu),(.fN,.ref A.pl),(.ak,.ref A.il),(.starts,.ref A.sd),(.A7,.ref A.jl),(.ji,.bool a)]
def g_.C(A:g_)(I:List V)(S J:cK)(a:Bool)(R:H):H:=
 (A.il,.list I)::(A.e,.inst .oP<|A.f a)::(A.sd,.dict false<|kD S)::(A.jl,.list<|J.map jV)::R
theorem g_.mem{A:g_}{I:List V}{S J:cK}{a:Bool}{R:H}(m:x∈R):x∈A.C I S J a R:=N<|N<|N<|N m
theorem ug(f e a b c:Nat):(zE f e a b c).length<9:=by
 unfold zE td;split
 ·split;·exact Nat.succ_pos 8
  ·exact(by decide:1<9)
 ·split;·exact(by decide:1<9)
  ·split
   ·split;·exact(by decide:3<9)
    ·exact(by decide:2<9)
   ·exact(by decide:2<9)
section
variable{n:Nat}{R:H}{L:dC}{T:Sp}{Y:cK}{d c:Nat}{A:g_}{I:List V}{S C:cK}{w:Bool}
theorem HK(l:Lv){b k:Nat}(q:∀(A:g_),A.lu=b->A.pl=k->eh O (Tn<|n+1) j l (A.C [] [] [] false R) a g (.v (.ref A.e) fs)):J O (Tn<|n+1) j R a (.new .oP::g)<|.v (.ref k)<|.v (.ref b)<|.m fs:=
 s6 l λe=>aZ .a [.aq,.bO,.fN] qB z rfl rfl<|aX .a .head z rfl<|aX .a .head z rfl<|aW .a λf=>aX .a (.tail .head) z rfl<|aW .a λi=>aX .a (.tail<|.tail .head) z rfl<|aW .a λh=>aX .a (.tail<|.tail<|.tail .head) z rfl<|aX .a (.tail<|.tail<|.tail .head) z rfl<|jf<|
  aA (λH=>aT.mv [_,_] [_] [_]<|aT.mv [] [_,_] [_,_] H)<|q ⟨e,f,i,h,b,k⟩ z rfl
theorem Cw(a:I.length<10000)(b:U O (A.C (I++[e]) S C w R)<|L .none):U O (A.C I S C w R)<|Tn (n+1) .tw [.ref A.e,e] L:=
 aZ .a [.aq,.ae] qD z rfl rfl<|Q .a (N q) z<|gc .a q z<|de .a .head (f6 a m)<|dE b
theorem Fz(a:U O (A.C I S C w R)<|L<|.int I.length):U O (A.C I S C w R)<|Tn (n+1) .tv [.ref A.e] L:=
 aZ .a [.aq] qC z rfl rfl<|Q .a (N q) z<|fv .a q<|aR a
theorem FA{b:Nat}(e:I.length<10000)(a:C.length<10000)(f:U O (A.C (I++[g]) S (C++[(I.length,b)]) w R)<|L .none):U O (A.C I S C w R)<|Tn (n+2) .pL [.ref A.e,g,.int b] L:=
 aZ .a [.aq,.ae,.ab] mW z rfl rfl<|Q .a (N q) z<|gc .a (N<|N<|N q) z<|aU .a (N q) z<|M .a<|Fz<|fg .a (ys:=(C++[(I.length,b)]).map jV) (by rw[sn];rfl) (.tail<|.tail<|.tail .head) (by rw[fZ];exact f6 a m)<|
  aU .a (N q) z<|M .a<|Cw (A:=A) (C:=C++[(I.length,b)]) e<|dE f
theorem Cx{f:List V}(g:(j,.list f)∈R){l:List V}:∀{I:List V}{a:aV},I.length+l.length<10000->a .aq=some (.ref A.e)->(∀i,U O (A.C (I++l) S C w R) λh=>KK .next ⟨i,h⟩)->
 Fo O (Tn<|n+1) (A.C I S C w R) [(j,.list f)] (.one .step) (bD kR) KK l a:=by
 induction l with
 |nil=>exactλ{I a} _ _ m=>b5 (df<|g_.mem g) (by rw[j0] at m;exact m a)
 |cons x l k=>intro I a b e m;rw[jM] at b;rw[List.append_cons] at m;exact aO .v (df<|g_.mem g)<|y .v e<|aU .v (N q) z<|y .a z<|M .a<|Cw (sg (ox ..) b)<|aP<|k (by rw[eR,Nat.add_assoc,Nat.add_comm [x].length];exact b) e m
theorem IN(a:jU Y s)(b:jU Y g):∀r∈[s,g],jU Y r:=λr m=>by
 refine db (ew.mp m) (λe=>?_) λm=>?_;·exact e▸a
 ·exact(eL.mp m)▸b
theorem Lo(g:(A.pl,.inst .hH [(.of,.ref d),(.aj,.int (c:Nat))])∈R)(j:(d,.dict false<|kD Y)∈R)(u:(a2,.list<|G [s,a1])∈R)(k:Ms Y s≠Ms Y a1)(l:Ms Y a1≠c)(i:jU Y s/\jU Y a1/\jU Y a/\jU Y b)
 (x:I.length<9000)(t:U O (A.C (I++(zE (Ms Y s) (Ms Y a1) (Ms Y a) (Ms Y b) c).map rP) S C (w||vZ (zE (Ms Y s) (Ms Y a1) (Ms Y a) (Ms Y b) c) c) R)<|L .none):U O (A.C I S C w R)<|Tn (n+5) .rQ [.ref A.e,.ref a2,.aF<|G [a,b]] L:=by
 refine oU i λm o p r=>?_;clear i;haveI v:(zE (Ms Y s) (Ms Y a1) (Ms Y a) (Ms Y b) c).length<9:=ug ..;refine aZ .a [.aq,.i5,.aQ] kR z rfl rfl<|Q .a (N q) z<|Q .a (g_.mem g) z<|M .a<|Ll (g_.mem j) (g_.mem u) (IN m o)<|M .a<|rG (g_.mem j) (IN p r)<|Q .a (N q) z<|Q .a (g_.mem g) z<|M .z<|Lj k l λf=>?_;generalize zE (Ms Y s) (Ms Y a1) (Ms Y a) (Ms Y b) c=F at*;haveI h:I.length+(F.map rP).length<10000:=by rw[fZ];exact aG 0x9c021c101d06012328c051c001d06012710c051c1001d05d0a1 z x v
 haveI e:(f,a0.list<|F.map rP)∈(f,a0.list<|F.map rP)::R:=.head _;refine aA (L':=A.C I S C w<|(f,.list<|F.map rP)::R) (aT.mv [] [_] [_,_,_,_])<|aY .b<|Q .b (N q) z ?_;haveI t:=aA (L:=A.C (I++F.map rP) S C (w||vZ F c)<|(f,.list<|F.map rP)::R) (λH=>O.sub H<|.cons_cons _<|.cons_cons _<|.cons_cons _<|.cons_cons _<|.cons _<|.refl R) t;induction w using ff with
 |true=>exact PH .a z<|aX .a (.tail .head) z rfl<|gd .a (g_.mem e)<|Cx e h z λy=>dE t
 |false=>exact RB .a z<|Q .a (N q) z<|Q .a (g_.mem<|N g) z<|M .a<|Lm (g_.mem e)<|aX .a (.tail .head) z rfl<|gd .a (g_.mem e)<|Cx (w:=vZ F c) e h z λy=>dE t
end
def pV(O:cK)(a:List cL):List V:=a.map λo=>(o.re<|Ms O).v
section
variable{n:Nat}{R:H}{L:dC}{T:Sp}{C:cK}{d c:Nat}{A:g_}{I:List V}{S w:cK}{e:Bool}
theorem Ot{B:Nat}(g:(B,.list i)∈R)(l:(d,.dict false<|kD C)∈R){t:List cL}:∀{I:List V}{H:aV},(∀o∈t,o.nice/\∀r∈o.bu,jU C r)->I.length+t.length<9000->H .aq=some (.ref A.e)->H .of=some (.ref d)->
 (∀a,(∀x,x≠.op->a x=H x)->U O (A.C (I++pV C t) S w e R) λh=>KK .next ⟨a,h⟩)->
 Fo O (Tn<|n+4) (A.C I S w e R) [(B,.list i)] (.one .op) (bD cj) KK (t.map cL.v) H:=by
 induction t with
 |nil=>exactλ{I H} _ _ _ _ s=>b5 (df<|g_.mem g) (by rw[show pV C []=[] from rfl,j0] at s;exact s H λ_ _=>rfl)
 |cons o t k=>
  intro I H b f u v s;rw[jM] at f;rw[show pV C (o::t)=(o.re<|Ms C).v::pV C t from rfl,List.append_cons] at s;exact aO (x:=o.v) (xs:=t.map cL.v) .v (df<|g_.mem g)<|y .v u<|aU .v (N q) z<|y .v z<|y .a v<|M .a<|HJ (g_.mem l) (b o q).1 (b o q).2<|M .a<|Cw (sg (ox ..)<|f6 f m)<|aP<|
   k (λo p=>b o<|N p) (by rw[eR,List.length_singleton,Nat.add_assoc,Nat.add_comm 1];exact f) u v λa j=>s a λx n=>(j x n).trans<|if_neg n
theorem AP{B num:Nat}(l:oI R num B Y)(k:(A.pl,.inst .hH [(.of,.ref d),(.aj,.int (c:Nat))])∈R)(j:(d,.dict false<|kD C)∈R)(h:S.lookup num=none)(o:S.length<9)(p:I.length+Y.ao.length<9000)
 (i:∀x∈Y.ao,x.nice/\∀r∈x.bu,jU C r)
 (v:∀a,a .aq=some (.ref A.e)->a .of=some (.ref d)->a .cW=some Y.en.v->a .later=some later->J O (Tn<|n+5) (Rt L) (A.C (I++pV C Y.ao) (S++[(num,I.length)]) w e R) a [.ss<|Ss.dr 4 cj] .b):
 U O (A.C I S w e R)<|Tn (n+6) .di [.ref A.e,.ref B,later] L:=by
 obtain⟨u,D,f,s,g⟩:=l;exact aZ .a [.aq,.ab,.later] cj z rfl rfl<|aU .a (N q) z<|M .a<|Fz<|Q .a (N q) z<|Q .a (g_.mem f) z<|eY .a (AN h) (.tail<|.tail .head) (by unfold kD;rw[fZ];exact f6 o m)<|
  Q .a (N q) z<|Q .a (g_.mem (S:=S++[(num,I.length)]) k) z<|Q .a (g_.mem (S:=S++[(num,I.length)]) f) z<|gd .v (g_.mem (S:=S++[(num,I.length)]) g)<|Ot (S:=S++[(num,I.length)]) g j i p z rfl λt b=>y .a ((b _ m).trans z)<|Q .o (g_.mem f) z<|
  v _ ((b _ m).trans z) ((b _ m).trans z) z<|(b _ m).trans z
variable{Y:aV}
theorem Lp(f:(d,.dict false<|kD C)∈R)(g:I.length<8000)(p:Y .aq=some (.ref A.e))(o:Y .of=some (.ref d))(l:Y .cW=some (jT.cU h a b).v)(i:∀r∈[h,a,b],jU C r)(k:U O (A.C (I++[.aF [.str .cU,.int (Ms C h:Nat),.aF<|G [Ms C a,Ms C b]]]) S w e R)<|L .none):J O (Tn<|n+5) (Rt L) (A.C I S w e R) Y [.ss<|Ss.dr 4 cj] .b:=
 aY .v<|y .v l<|y .v l<|y .v l<|y .v p<|aU .v (N q) z<|y .v o<|y .a l<|cH .v (g_.mem f) (i h q).kd<|y .v l<|y .a o<|M .a<|rG (g_.mem f) (λr j=>i r<|N j)<|M .a<|Cw (f6 g m)<|dE k
theorem Lq(g:(d,.dict false<|kD C)∈R)(h:I.length<8000)(p:Y .aq=some (.ref A.e))(o:Y .of=some (.ref d))(l:Y .cW=some (jT.call j s a b).v)(i:∀r∈[j,s,a,b],jU C r)(k:U O (A.C (I++[.aF [.str .call,.int (Ms C j:Nat),.int (Ms C s:Nat),.aF<|G [Ms C a,Ms C b]]]) S w e R)<|L .none):J O (Tn<|n+5) (Rt L) (A.C I S w e R) Y [.ss<|Ss.dr 4 cj] .b:=
 aY .v<|y .v l<|y .v p<|aU .v (N q) z<|y .v o<|y .a l<|cH .v (g_.mem g) (i j q).kd<|y .v o<|y .a l<|cH .v (g_.mem g) (i s<|N q).kd<|y .v l<|y .a o<|M .a<|rG (g_.mem g) (λr f=>i r<|N<|N f)<|M .a<|Cw (f6 h m)<|dE k
theorem R9(b:(d,.dict false<|kD C)∈R)(g:I.length<8000)(k:Y .aq=some (.ref A.e))(l:Y .of=some (.ref d))(j:Y .cW=some (jT.br r).v)(a:Y .later=some (.int 1))(i:jU C r)(f:w.length<9)(h:U O (A.C (I++[.aF [.str .fE,.int (Ms C r:Nat),.int<|-1]]) S (w++[(I.length,2)]) e R)<|L .none):J O (Tn<|n+5) (Rt L) (A.C I S w e R) Y [.ss<|Ss.dr 4 cj] .b:=
 aY .v<|y .v j<|y .v j<|y .v j<|y .v k<|aU .v (N q) z<|y .v l<|y .a j<|cH .v (g_.mem b) i.kd<|y .a j<|M .v<|FA (b:=2) (f6 g m) (f6 f m)<|y .v j<|y .a a<|dE h
def FC(b:V)(a:Bool):Prop:=(b=.int 3/\a=false)\/(b=.none/\a)
def Lr(a:Bool):List V:=if a then[.aF [.str .zH,.int<|-1]] else[]
noncomputable def Ou(a:Bool)(i:Nat):cK:=if a then[(i,3)] else[]
theorem Ls{a b s t bl g h:Nat}{Bs:List V}(K:(d,.dict false<|kD C)∈R)(k:I.length<8000)(e1:Y .aq=some (.ref A.e))(e2:Y .of=some (.ref d))(E:(A.pl,.inst .hH [(.of,.ref d),(.aj,.int (c:Nat))])∈R)(v:(A.lu,.inst .b7 fs)∈R)(p:fs.lookup .bJ=some (.ref bl))(P:(bl,.list Bs)∈R)(r:Bs[3]?=some (.ref g))(X:(g,.inst .eZ a2)∈R)
 (u:a2.lookup .params=some (.ref h))(B:(h,.list<|G [s,t])∈R)(l:Ms C s≠Ms C t)(o:Ms C t≠c)(i:jU C s/\jU C t/\jU C a/\jU C b)
 (Z:Y .cW=some (jT.dj a b).v)(f:Y .later=some later)(lk:FC later j)(F:w.length<9)
 (H:∀a1,a1=zE (Ms C s) (Ms C t) (Ms C a) (Ms C b) c->U O (A.C (I++a1.map rP++Lr j) S (w++Ou j (I++a1.map rP).length) (e||vZ a1 c) R) (L .none)):J O (Tn<|n+5) (Rt L) (A.C I S w e R) Y [.ss<|Ss.dr 4 cj] .b:=by
 haveI D:=ug (Ms C s) (Ms C t) (Ms C a) (Ms C b) c;refine aY .v<|y .v Z<|y .v Z<|y .v e1<|aU .v (N q) z<|y .a e1<|Q .a (N q) z<|Q .v (g_.mem v) p<|y .a Z<|fL .a (g_.mem P) m r<|Q .v (g_.mem X) u<|y .a Z<|M .v<|Lo E K B l o i (f6 k m)<|y .v Z<|y .z f ?_;haveI H:=H _ z;generalize zE (Ms C s) (Ms C t) (Ms C a) (Ms C b) c=a1 at*;refine db lk ?_ ?_;·clear lk;rintro⟨x,W⟩;clear f;subst x W;unfold Lr Ou at H;rw[if_neg m,if_neg m,j0,j0] at H;exact aY .a<|dE H
 ·clear lk;rintro⟨x,W⟩;clear f;subst x W;exact aY .v<|y .v e1<|aU .v (N q) z<|y .a Z<|M .a<|FA (b:=3) (by rw[eR,fZ];exact aG 0x9c021c101d06011f40c051c001d06012710c051c1001d05d0a1 z k D) (f6 F m)<|dE H
end
theorem zF(r:Nat):∀c:List Nat,((gD c).lookup (r:Int)).isSome=c.contains r:=λa=>by
 induction a with
 |nil=>exact z
 |cons g c b=>
  show(List.lookup (r:Int)<|(((g:Nat):Int),V.bool true)::gD c).isSome=_;rw[ii,List.contains_cons,<-b];by_cases q:r=g;·subst q;rw[beq_self_eq_true,beq_self_eq_true];rfl
  ·rw[nz.mpr q,nz.mpr λe:(r:Int)=g=>q<|Int.ofNat.inj e];rfl
theorem Ov(a:List Nat)(r:Nat):(ww a r).length<=a.length+1:=by
 unfold ww;split;·exact Nat.le_succ _
 ·rw[eR];exact ct _
noncomputable def x9:Option Nat->V
 |some k=>.int k
 |none=>.none
def x_(a:Option Nat):List Nat->List Nat×List Nat->List Nat×List Nat
 |[],s=>s
 |o::b,s=>x_ a b (if !s.2.contains o&& !(a==some o) then s.1++[o] else s.1,ww s.2 o)
section
variable{n:Nat}{R:H}{Y:dC}{T:Sp}
theorem EA(f:(le,.list j)∈R)(m:(r,.dict false<|gD c)∈R):∀{a:aV},((b.find? λx=> !c.contains x)=none->∀d,U O R λh=>KK .next ⟨d,h⟩)->(∀x,(b.find? λx=> !c.contains x)=some x->∀d,U O R λh=>KK (.ret<|.int x) ⟨d,h⟩)->a .met=some (.ref r)->
 Fo O T R [(le,.list j)] (.one .ax) (bD nL) KK (G b) a:=by
 induction b with
 |nil=>exactλ{a} q _ _=>b5 (df f)<|q z a
 |cons x b k=>
  intro a q g e;refine aO (x:=.int x) (xs:=G b) .v (df f)<|y .v z<|y .a e<|ou .b m ?_;rw[zF];haveI i:((x::b).find? λx=> !c.contains x)=if c.contains x then b.find? λx=> !c.contains x else some x:=by rw[List.find?_cons];cases c.contains x<;>rfl
  cases l:c.contains x with
  |false=>exact Cc .a z<|Fi (df f)<|g x (by rw[i,l];rfl) _
  |true=>rw[i,l] at q g;exact CZ .a z<|aP<|k q g e
theorem Lu(a:(le,.list<|G g)∈R)(d:(c,.dict false<|gD h)∈R)(q:U O R<|Y<|x9<|g.find? λx=> !h.contains x):U O R<|Tn (n+1) .kA [.ref le,.ref c] Y:=by
 refine aZ .a [.v5,.met] nL z rfl rfl<|gd .a a<|EA a d (λe b=>?_) (λx e b=>?_) rfl;·rw[e] at q;exact aR q
 ·rw[e] at q;exact q
theorem VC{a:Option Nat}:Mu (.eW .ne) [.int (x:Nat),x9 a]=some (.bool<|!(a==some x)):=by
 induction a using qG with
 |none=>rfl
 |some y=>show some (V.bool<|!cZ (.int (x:Nat)) (.int (y:Nat)))=_;rw[x7,show(x==y)=(some y==some x) by rw[Bool.eq_iff_iff,beq_iff_eq,beq_iff_eq,Option.some.injEq];exact eq_comm]
theorem u_{b d x:Nat}(f:c.length<9000)(i:a .met=some (.ref b))(e:a .bH=some (.int x))(q:J O T g ((d,.list<|G h)::(b,.dict false<|gD<|ww c x)::R) a [] .b):
 J O T g ((d,.list<|G h)::(b,.dict false<|gD c)::R) a [.ss<|Ss.dr 1<|bD<|cy<|cy iW] .b:=
 aY .v<|y .v i<|y .a e<|eY .a (K5 c x) (.tail .head) (by unfold gD;rw[fZ];exact f6 f m) q
theorem HL{d f x:Nat}{W c:List Nat}{o:Option Nat}(g:W.length<9000)(e:c.length<9000)(l:a .met=some (.ref d))(p:a .dy=some (.ref f))(r:a .ax=some (x9 o))(b:a .bH=some (.int x))
 (i:J O T h ((f,.list<|G<|if !c.contains x&& !(o==some x) then W++[x] else W)::(d,.dict false<|gD<|ww c x)::R) a [] .b):
 J O T h ((f,.list<|G W)::(d,.dict false<|gD c)::R) a [.ss<|bD<|cy<|cy iW] .b:=by
 refine aY .v<|y .v b<|y .a l<|ou .b (N q) ?_;rw[zF];cases k:c.contains x with
 |true=>rw[k] at i;exact xO .b z<|CZ .o z<|u_ e l b i
 |false=>
  rw[k] at i;refine zt .v z<|y .v b<|y .e r<|eE (us:=[.int x,x9 o]) .b _ VC ⟨z,z⟩ ?_;cases j:o==some x with
  |true=>rw[j] at i;exact xO .b z<|CZ .o z<|u_ e l b i
  |false=>rw[j] at i;exact zt .b z<|Cc .v z<|y .v p<|gc .v q z<|y .a b<|fg .o (dT ..) .head (by rw[bB];exact f6 g m)<|aY .o<|u_ e l b i
theorem HM{l:Option Nat}(i:(le,.list s)∈R){b:List Nat}:∀{W c:List Nat}{a:aV},W.length+b.length<9000->c.length+b.length<9000->a .met=some (.ref g)->a .dy=some (.ref j)->a .ax=some (x9 l)->
 (∀f,(∀x,x≠.bH->f x=a x)->U O ((j,.list<|G (x_ l b (W,c)).1)::(g,.dict false<|gD (x_ l b (W,c)).2)::R) λh=>KK .next ⟨f,h⟩)->
 Fo O T ((j,.list<|G W)::(g,.dict false<|gD c)::R) [(le,.list s)] (.one .bH) (bD<|cy<|cy iW) KK (G b) a:=by
 induction b with
 |nil=>exactλ{W c a} _ _ _ _ _ q=>b5 (df<|N<|N i)<|q a λ_ _=>rfl
 |cons x b m=>
  intro W c a d e t u v q;rw[jM] at d e;haveI o:=Ov c x;haveI r:(if !c.contains x&& !(l==some x) then W++[x] else W).length<=W.length+1:=by
   split;·rw[eR];exact ct _
   ·exact Nat.le_succ _
  refine aO (x:=.int x) (xs:=G b) .z (df<|N<|N i)<|HL (sg (ox ..) d) (sg (ox ..) e) t u v z<|aP<|
   m (bF 0x1c201d06001012328c051c1c101d201d0ad0f012328c051c1001d05d0a1 z d r) (bF 0x1c201d06001012328c051c1c101d201d0ad0f012328c051c1001d05d0a1 z e o) t u v λp k=>q p λx n=>(k x n).trans<|if_neg n
theorem R_{K:Kk}{a:aV}{l e d f bl B k:Nat}{F W c:List Nat}{b:jT}{Bs:List V}{E i:List (IK×V)}(v:(l,.inst .b7 E)∈R)(p:E.lookup .bJ=some (.ref bl))(w:(bl,.list Bs)∈R)(r:Bs[k]?=some (.ref B))(Z:(B,.inst .eZ i)∈R)(s:i.lookup .cW=some b.v)
 (A:F.length<99)(C:W.length<99)(D:c.length<99)(e1:a .aB=some (.ref d))(e2:a .dy=some (.ref f))(e3:a .met=some (.ref e))(o:a .bO=some (.ref l))(j:a .ax=some (.int k))
 (X:∀g,g .ax=some (x9<|b.e6.find? λx=> !c.contains x)->(∀x,x≠.ax->x≠.e6->x≠.bH->g x=a x)->
  J O (Tn<|n+2) K ((d,.list<|G<|F++[k])::(f,.list<|G (x_ (b.e6.find? λx=> !c.contains x) b.e6 (W,c)).1)::(e,.dict false<|gD (x_ (b.e6.find? λx=> !c.contains x) b.e6 (W,c)).2)::R) g [] .b):
 J O (Tn<|n+2) K ((d,.list<|G F)::(f,.list<|G W)::(e,.dict false<|gD c)::R) a [.ss<|cy<|cy iW] .b:=by
 have u:b.e6.length<=2:=by induction b using jT.casesOn<;>first|exact Nat.zero_le _|exact Nat.le_succ 1|exact ct 2
 haveI L:∀{x:Nat},x<99->x+b.e6.length<9000:=λh=>f6 (Nat.add_lt_add_of_lt_of_le h u) m;refine aY .v<|y .v e1<|gc .v q z<|y .a j<|fg .v (dT ..) .head (by rw[bB];exact f6 A m)<|y .a o<|Q .v (N<|N<|N v) p<|y .a j<|fL .a (N<|N<|N w) (jp k) r<|Q .a (N<|N<|N Z) s<|M .z<|jh λI=>?_;refine aA (L':=(f,.list<|G W)::(e,.dict false<|gD c)::(I,.list<|G b.e6)::(d,.list<|G<|F++[k])::R) (aT.mv [] [_,_] [_,_])<|aY .v<|y .v z<|y .a e3<|M .a<|Lu (g:=b.e6) (h:=c) (N<|N q) (N q)<|gd .v (N<|N q)<|
  HM (l:=b.e6.find? λx=> !c.contains x) q (L C) (L D) e3 e2 rfl λt U=>aA (λH=>aT.mv [] [_,_] [_]<|O.sub H<|.cons_cons _<|.cons_cons _<|.cons _<|.refl _)<|X t ((U _ m).trans z) λx P S a1=>(U x a1).trans<|(if_neg P).trans<|if_neg S
end
noncomputable def kn(a:List LB):List Nat:=if a.length=1 then[0] else[0,1,3,2]
section
variable{n:Nat}{L:H}{Y:dC}{T:Sp}
def WE:B:=.e<|.ay (.eW .Bb)<|.cons (.ai .ax)<|.cons (.hD .none) Es.nil
def ZX:B:=.e<|.ay (.eW .ne)<|.cons (.ai .dy)<|.cons (.ay .bb Es.nil) Es.nil
theorem FD{a:aV}{d c:Nat}{F:List V}{W:List V}{t:Bool}(e:a .dy=some (.ref c))(f:(!W.isEmpty)=t)(g:J O T (U1 T ZX b KK j) ((d,.list F)::(c,.list W)::L) a [.ret]<|.v (.bool t) .b):
 Wo O T ((d,.list F)::(c,.list W)::L) ZX b KK (j+1) a:=by
 subst f;exact eI .v<|y .a e<|aW .a λ_=>nf .a (N<|N q) q<|aA aT.tl g
theorem FE{K:Kk}{a:aV}{c b k:Nat}{F W:List Nat}(e:a .dy=some (.ref b))(d:J O T K ((c,.list<|G F)::(b,.list<|G W)::L) (bX a .ax<|.int k) [.s<|.iI WE<|cy<|cy iW,.ss .nil] .b):
 J O T K ((c,.list<|G F)::(b,.list<|G<|W++[k])::L) a [.ss<|cy iW] .b:=by
 rw[<-dT];exact aY .v<|y .v e<|gc .a (N q) z<|PG .a (.tail .head) d
structure Ow(ρ:aV)(fo wa md lu:Nat):Prop where
 f:ρ .aB=some (.ref fo)
 w:ρ .dy=some (.ref wa)
 mm:ρ .met=some (.ref md)
 u:ρ .bO=some (.ref lu)
theorem Ow.on(e:Ow a c h g i)(k:∀x,x≠.ax->x≠.e6->x≠.bH->b x=a x):Ow b c h g i:=
 ⟨(k _ m m m).trans e.f,(k _ m m m).trans e.w,(k _ m m m).trans e.mm,(k _ m m m).trans e.u⟩
theorem Ow.num(e:Ow a b g h c):Ow (bX a .ax i) b g h c:=⟨e.f,e.w,e.mm,e.u⟩
theorem qX{V:Kk}{a:aV}{h f d g j N:Nat}{R F W S:List Nat}{l:List LB}{k:Nat}{P:LB}{b:jT}(u:UG L h R N l)(A:l[k]?=some P)(Q:P.en=b)
 (D:F.length<99)(H:W.length<99)(J:S.length<99)(e:Ow a d g f h)(i:a .ax=some (.int k))
 (q:∀c,c .ax=some (x9<|b.e6.find? λx=> !S.contains x)->Ow c d g f h->
  Wo O (Tn<|n+2) ((d,.list<|G<|F++[k])::(g,.list<|G (x_ (b.e6.find? λx=> !S.contains x) b.e6 (W,S)).1)::(f,.dict false<|gD (x_ (b.e6.find? λx=> !S.contains x) b.e6 (W,S)).2)::L) WE (cy<|cy iW) V j c):
 Wo O (Tn<|n+2) ((d,.list<|G F)::(g,.list<|G W)::(f,.dict false<|gD S)::L) WE (cy<|cy iW) V (j+1) a:=by
 obtain⟨fs,K,bl,Bs,m,o,M,E,U,p,r⟩:=u;refine bS (r.at A) λB s t=>?_;obtain⟨Z,lo,v,X,I⟩:=t;exact eI .v<|y .a i<|C0 .z z<|R_ m o p (by rw[oe,s];rfl) v (by rw[<-Q];rfl) D H J e.f e.w e.mm e.u i λc w C=>iM<|q c w<|e.on C
theorem ya(e:a .ax=some (x9 none))(q:U O L λh=>KK .next ⟨a,h⟩):Wo O T L WE b KK (j+1) a:=eI .v<|y .a e<|Mr z q
theorem HN(u:UG L g ah a1 j)(v:i4 j)(q:∀a,U O ((a,.list<|G<|kn j)::L)<|Y<|.ref a):U O L<|Tn (n+3) .wC [.ref g] Y:=by
 refine aZ .a [.bO] iW z rfl rfl<|aW .a λf=>aW .a λc=>aW .a λh=>aA (L':=(c,.list<|G [])::(h,.list<|G<|[]++[0])::(f,.dict false<|gD [0])::L) (aT.mv [] [_] [_])<|aY .a<|kp .v 3<|FD z rfl<|C0 .z z<|FE z<|kp .a 4 ?_;have J:Ow (bX (bX (bX (bX (bX (λ_=>none) .bO<|.ref g) .met<|.ref f) .aB<|.ref c) .dy<|.ref h) .ax<|.int 0) c h f g:=⟨z,z,z,z⟩;have q:=q c;cases v with
 |one I t=>exact qX u z I (Nat.succ_pos _) (Nat.succ_pos _) m J z λw d b=>ya d<|iM<|FD b.w z<|Mr z<|y .a b.f<|aR<|aA (λH=>O.sub H<|.cons_cons _<|.cons _<|.cons _<|.refl L) q
 |four I p r s t A C F=>
  exact qX u z I (Nat.succ_pos _) (Nat.succ_pos _) m J z λw d b=>qX (F:=[0]) (W:=[2]) (S:=[0,1,2]) u z p m m m b d λE l B=>qX (F:=[0,1]) (W:=[2]) (S:=[0,1,2,3]) u z s m m m B l λD o e=>
   ya o<|iM<|FD e.w z<|C0 .z z<|FE (F:=[0,1,3]) (W:=[]) (k:=2) e.w<|kp .a 2<|qX (F:=[0,1,3]) (W:=[]) (S:=[0,1,2,3]) u z r m m m e.num z λx k i=>
   ya k<|iM<|FD i.w z<|Mr z<|y .a i.f<|aR<|aA (λH=>O.sub H<|.cons_cons _<|.cons _<|.cons _<|.refl L) q
end
def P1(O:cK)(k a b:Nat):V:=.aF [.str .cU,.int (Ms O k:Nat),.aF<|G [Ms O a,Ms O b]]
def Cy(O:cK)(f k a b:Nat):V:=.aF [.str .call,.int (Ms O f:Nat),.int (Ms O k:Nat),.aF<|G [Ms O a,Ms O b]]
def WG(O:cK)(r:Nat)(l:Int):V:=.aF [.str .fE,.int (Ms O r:Nat),.int l]
def P2(l:Int):V:=.aF [.str .zH,.int l]
inductive mr(d:cK)(c:Nat):List LB->Nat->List V->Prop
 |one {e:LB} {k a b:Nat} (h:e.en=.cU k a b):mr d c [e] c (pV d e.ao++[P1 d k a b])
 |four {y0 y1 y2 y3:LB} {r a1 b1 a2 b2 f k a b s t:Nat} {F1 F2:cK} {L2 L3:Nat} (KE:y0.en=.br r) (h1:y1.en=.dj a1 b1) (h2:y2.en=.dj a2 b2) (h3:y3.en=.call f k a b) (p3:y3.ps=[s,t])
  (f1:F1=zE (Ms d s) (Ms d t) (Ms d a1) (Ms d b1) c) (f2:F2=zE (Ms d s) (Ms d t) (Ms d a2) (Ms d b2) c)
  (l3:L3=(pV d y0.ao).length+1+((pV d y1.ao).length+F1.length)) (l2:L2=L3+((pV d y3.ao).length+1)):
  mr d c [y0,y1,y2,y3] (c+(vZ F1 c||vZ F2 c).toNat) (pV d y0.ao++WG d r L2::(pV d y1.ao++(F1.map rP++(pV d y3.ao++Cy d f k a b::(pV d y2.ao++(F2.map rP++[P2 L3]))))))
section
variable{n:Nat}{R:H}{C:dC}{T:Sp}{x:cK}{e c:Nat}{A:g_}{I:List V}{S L:cK}{d:Bool}
theorem Oy(a:(A.pl,.inst .hH [(.of,.ref e),(.aj,.int (c:Nat))])∈R)(b:U O (A.C I S L d R)<|C<|.int (c+d.toNat:Nat)):U O (A.C I S L d R)<|Tn (n+1) .mS [.ref A.e] C:=by rw[<-show((c:Int)+if d then 1 else 0)=((c+d.toNat:Nat):Int) by induction d using ff<;>rfl] at b;exact aZ .a [.aq] k5 z rfl rfl<|Q .a (N q) z<|Q .a (g_.mem a) z<|Q .a (N q) z<|aR b
theorem FH{K:Kk}{a:aV}{f b s:Nat}{X Y l:List V}(j:S.lookup b=some s)(k:l.length<9)(p:a .aB=some (.ref f))(r:a .at_=some (.int X.length))(t:a .aq=some (.ref A.e))(g:a .ab=some (.int b))
 (o:J O T K ((f,.list<|X++.aF (l++[.int s])::Y)::A.C I S L d R) a [] .b):J O T K ((f,.list<|X++.aF (l++[.int<|-1])::Y)::A.C I S L d R) a [.ss<|bD gI] .b:=by
 haveI i:∀{v:V},(X++v::Y)[((X.length:Nat):Int).toNat]?=some v:=λ{v}=>by show(X++_)[X.length]?=_;rw[List.getElem?_append_right<|ct _,Nat.sub_self];rfl
 haveI h:∀{v w:V},(X++v::Y).set ((X.length:Nat):Int).toNat w=X++w::Y:=λ{v w}=>by show(X++_).set X.length _=_;rw[List.set_append_right _ _<|ct _,Nat.sub_self];rfl
 refine aY .v<|y .v p<|y .a r<|fL .o q (jp _) i<|eE (us:=[.aF<|l++[.int<|-1]]) .v (.aF l) ?_ ⟨z,z⟩<|y .a t<|Q .v (N<|N q) z<|y .a g<|cH (w:=.int s) .o (N<|N<|N q) (by rw[iE,j];rfl)<|zq .o<|
  eE (us:=[.aF l,.aF [.int s]]) .v (.aF<|l++[.int s]) ?_ ⟨z,z⟩<|y .v p<|y .a r<|oy .a .head (jp _) (Int.ofNat_lt.mpr<|by rw[eR,jM];exact Nat.lt_add_of_pos_right<|Nat.succ_pos _) ?_
 ·show((if (l++[V.int<|-1]).isEmpty then none else some<|Mine.Internal.R.val<|.aF<|(l++[V.int<|-1]).take<|(l++[V.int<|-1]).length-1).bind _:Option V)=_;rw[eR,List.length_singleton,Nat.add_sub_cancel,List.take_left,if_neg<|by induction l using da<;>exact Bool.false_ne_true];rfl
 ·show((if fi (l.length+1) then some (Mine.Internal.R.val<|.aF<|l++[.int s]) else none).bind _:Option V)=_;rw[if_pos<|show fi (l.length+1)=true from decide_eq_true<|f6 (Nat.succ_lt_succ k) m];rfl
 ·rw[h];exact o
theorem Oz(b:∀a,U O ((a,.list I)::A.C I S [] d R)<|C<|.ref a):U O (A.C I S [] d R)<|Tn (n+1) .iw [.ref A.e] C:=
 aZ .a [.aq] gI z rfl rfl<|Q .a (N q) z<|mG .a q λa=>Q .a (N<|N q) z<|gd .a (N<|N<|N<|N q)<|b5 (df<|N<|N<|N<|N q)<|aR<|b a
theorem OA{b u s v:Nat}(h:I=r++.aF (xs++[.int<|-1])::(Y++.aF (ys++[.int<|-1])::w))(i:L=[(r.length,b),(r.length+1+Y.length,u)])(k:S.lookup b=some s)(g:S.lookup u=some v)(l:xs.length<9)(o:ys.length<9)
 (t:∀a,U O ((a,.list<|r++.aF (xs++[.int s])::(Y++.aF (ys++[.int v])::w))::A.C I S L d R)<|C<|.ref a):U O (A.C I S L d R)<|Tn (n+1) .iw [.ref A.e] C:=by
 haveI f:∀{a p},(A.jl,a0.list [.aF [.int r.length,.int b],.aF [.int (r.length+1+Y.length:Nat),.int u]])∈(a,p)::A.C I S L d R:=by rw[i];exact N<|N<|N<|N q
 haveI j:∀W:List V,r++.aF (xs++[.int s])::(Y++W)=(r++.aF (xs++[.int s])::Y)++W:=λW=>by rw[lX];rfl
 haveI m:r.length+1+Y.length=(r++V.aF (xs++[.int s])::Y).length:=by rw[eR,jM,Nat.add_assoc,Nat.add_comm 1]
 refine aZ .a [.aq] gI z rfl rfl<|Q .a (N q) z<|mG .a q λa=>Q .a (N<|N q) z<|gd .a f<|aO (x:=.aF [.int r.length,.int b]) (xs:=[.aF [.int (r.length+1+Y.length:Nat),.int u]]) .z (df f) ?_;refine aA (L':=(a,.list<|r++.aF (xs++[.int<|-1])::(Y++.aF (ys++[.int<|-1])::w))::A.C I S L d R) (λH=>by rw[<-h];exact H)<|FH k l z rfl rfl rfl<|aP<|aO (xs:=[]) .z (df f) ?_;haveI t:=t a;rw[j] at t⊢;exact FH g o z (congrArg (λn:Nat=>some<|V.int n) m) rfl rfl<|aP<|b5 (df f)<|aR t
end
def VE(d a i c f:V)(k:Nat)(g:V)(b:Nat):List<|IK×V:=[(.ax,d),(.kr,a),(.bA,i),(.fF,c),(.ba,f),(.bi,.int k),(.free,g),(.ak,.ref b)]
structure ID(b:cK)(c:Nat)(ys:List LB):Prop where
 ao:∀a∈ys,∀o∈a.ao,o.nice/\∀r∈o.bu,jU b r
 en:∀a∈ys,∀r∈a.en.reads,jU b r
 ps:∀a∈ys,∀s t,a.ps=[s,t]->jU b s/\jU b t/\Ms b s≠Ms b t/\Ms b t≠c
 len:∀a∈ys,a.ao.length<100
theorem iN(O:cK)(a:List cL):(pV O a).length=a.length:=fZ _
section
variable{n:Nat}{R:H}{g:dC}{T:Sp}{L:cK}{Z c:Nat}
theorem Sd(b:Lv){d f o l h k:V}(q:∀r,eh O (Tn<|n+1) e b ((r,.inst .dP<|VE d f o l h bu k j)::R) a i<|.v (.ref r) fs):
 J O (Tn<|n+1) e R a (.new .dP::i)<|.v (.ref j)<|.v k<|.v (.int bu)<|.v h<|.v l<|.v o<|.v f<|.v d<|.m fs:=
 s6 b λr=>aZ .a [.aq,.ax,.kr,.bA,.fF,.ba,.bi,.free,.ak] og z rfl rfl<|aX .a .head z rfl<|aX .a .head z rfl<|aX .a .head z rfl<|aX .a .head z rfl<|aX .a .head z rfl<|aX .a .head z rfl<|aX .a .head z rfl<|aX .a .head z rfl<|jf<|q r
theorem uh{K:Kk}{a:aV}{A:g_}{j:Bool}{f k i v B:Nat}{t:List Nat}{u:List V}{x:List (IK×V)}{d:H}(r:(A.e,.inst .oP<|A.f j)∈d)(w:(f,.list<|G t)∈d)(o:(A.lu,.inst .b7 x)∈d)(e:x.lookup .bJ=some (.ref v))(p:(v,.list u)∈d)(m:u[k]?=some (.ref B))
 (D:a .oO=some (.ref A.e))(C:a .order=some (.ref f))(E:a .bO=some (.ref A.lu))(q:U O d<|Tn (n+6) .di [.ref A.e,.ref B,x9 t[i+1]?] λh b=>kt (Tn<|n+6) K [.exp,.ss .nil] (.v h .b) ⟨bX (bX (bX a .at_<|.int i) .ax<|.int k) .later<|x9 t[i+1]?,b⟩):
 J O (Tn<|n+6) K d (bX (bX a .at_<|.int i) .ax<|.int k) [.ss<|bD hO] .b:=by
 have next:∀h,h=x9 t[i+1]?->J O (Tn<|n+6) K d (bX (bX (bX a .at_<|.int i) .ax<|.int k) .later h) [.ss<|Ss.dr 1<|bD hO] .b:=λh F=>by subst F;exact aY .v<|y .v D<|aU .v r z<|y .a E<|Q .a o e<|fL .a p (jp k) m<|M .z q
 refine aY .v<|y .v z<|y .a C<|fv .b w ?_;by_cases l:i+1<t.length;·exact Ce .v (decide_eq_true<|by rw[bB];lia)<|y .v C<|y .a z<|fL .o w (jp _) (by show(t.map λ(s:Nat)=>V.int s)[i+1]?=_;rw[oe,sB l];rfl)<|next _ (by rw[sB l];rfl)
 ·exact NM .o (decide_eq_false<|by rw[bB];lia)<|aY .o<|next _ (by rw[List.getElem?_eq_none<|Nat.le_of_not_lt l];rfl)
section
variable{A:g_}{I:List V}{S x:cK}{j:Bool}{B d:Nat}{k:LB}(e:oI R d B k)(C:(A.pl,.inst .hH [(.of,.ref Z),(.aj,.int (c:Nat))])∈R)(w:(Z,.dict false<|kD L)∈R)(f:S.lookup d=none)(r:S.length<9)(l:I.length<1000)(h:x.length<9)
 (Y:∀o∈k.ao,o.nice/\∀r∈o.bu,jU L r) (u:k.ao.length<100) (s:∀r∈k.en.reads,jU L r)
include e C w f r l h Y u s
theorem Lw(t:k.en=.cU a1 a b)(q:U O (A.C (I++(pV L k.ao++[P1 L a1 a b])) (S++[(d,I.length)]) x j R)<|g .none):U O (A.C I S x j R)<|Tn (n+6) .di [.ref A.e,.ref B,later] g:=by rw[t] at s;rw[<-lX] at q;exact AP e C w f r (aG 0x64c031c101d06013e8c041c001d06012328c051c1001d05d0a1 z l u) Y λp v i m o=>Lp w (by rw[eR,iN];exact aG 0x64c031c101d06013e8c041c001d06011f40c051c1001d05d0a1 z l u) v i (m.trans<|by rw[t]) s q
theorem Lx(t:k.en=.call a1 a2 a b)(q:U O (A.C (I++(pV L k.ao++[Cy L a1 a2 a b])) (S++[(d,I.length)]) x j R)<|g .none):U O (A.C I S x j R)<|Tn (n+6) .di [.ref A.e,.ref B,later] g:=by rw[t] at s;rw[<-lX] at q;exact AP e C w f r (by lia) Y λv i m o p=>Lq w (by rw[eR,iN];lia) i m (o.trans<|by rw[t]) s q
theorem Se(a:k.en=.br a1)(t:U O (A.C (I++(pV L k.ao++[WG L a1<|-1])) (S++[(d,I.length)]) (x++[(I.length+k.ao.length,2)]) j R)<|g .none):U O (A.C I S x j R)<|Tn (n+6) .di [.ref A.e,.ref B,.int 1] g:=by rw[a] at s;rw[<-lX,<-iN L,<-eR] at t;exact AP e C w f r (by lia) Y λp b m o i=>R9 w (by rw[eR,iN];lia) b m (o.trans<|by rw[a]) i (s _ q) h t
theorem Cz{a b Q t bl E F:Nat}{fs J:List (IK×V)}{Bs:List V}(o:k.en=.dj a b)(lk:FC later a2)(m1:(A.lu,.inst .b7 fs)∈R)(D:fs.lookup .bJ=some (.ref bl))(m2:(bl,.list Bs)∈R)(X:Bs[3]?=some (.ref E))(m3:(E,.inst .eZ J)∈R)
 (l3:J.lookup .params=some (.ref F))(m4:(F,.list<|G [Q,t])∈R)(i:jU L Q/\jU L t/\Ms L Q≠Ms L t/\Ms L t≠c)
 (M:∀a1,a1=zE (Ms L Q) (Ms L t) (Ms L a) (Ms L b) c->a1.length<9->U O (A.C (I++(pV L k.ao++(a1.map rP++Lr a2))) (S++[(d,I.length)]) (x++Ou a2 (I.length+(k.ao.length+a1.length))) (j||vZ a1 c) R) (g .none)):U O (A.C I S x j R)<|Tn (n+6) .di [.ref A.e,.ref B,later] g:=by
 rw[o] at s;refine oU i λH K p y=>?_;clear i;refine AP e C w f r (by lia) Y λjN P v W z=>Ls w (by rw[eR,iN];lia) P v C m1 D m2 X m3 l3 m4 p y (hV H K (s _ q)<|s _<|N q) (W.trans<|by rw[o]) z lk h λa1 m=>?_;haveI M:=M a1 m<|m▸ug ..;rw[lX,lX,eR,eR,iN,fZ,Nat.add_assoc];exact M
end
inductive zG(R:H)(p d:Nat)(a:Un)(bu:Nat)(code:List V):Prop
 |mk (il:_) (w0:(p,.inst .dP<|VE (.int d) (.str .iO) (.int a.bA) (.bool<|a.rest||a.takes) (.bool<|!a.aD) bu (.int 2) il)∈R) (w1:(il,.list code)∈R)
theorem zG.mono{R f:H}{p d:Nat}{i:Nat}{l:List V}(r:zG R p d e i l)(k:∀j∈R,j∈f):zG f p d e i l:=by obtain⟨h,a,b⟩:=r;exact⟨h,k _ a,k _ b⟩
theorem Ly{A:g_}{I:List V}{S e:cK}{j:Bool}{d h F D m k:V}(u:a .bO=some (.ref A.lu))(B:a .oO=some (.ref A.e))(f:(A.lu,.inst .b7 fs)∈R)(C:(A.pl,.inst .hH [(.of,.ref Z),(.aj,.int (c:Nat))])∈R)
 (o:fs.lookup .ax=some d)(r:fs.lookup .kr=some h)(s:fs.lookup .bA=some F)(t:fs.lookup .fF=some D)(v:fs.lookup .ba=some m)(x:fs.lookup .free=some k)
 (p:∀(i:dC),(∀b,U O ((b,.list code)::A.C I S e j R)<|i<|.ref b)->U O (A.C I S e j R) (Tn (n+6) .iw [.ref A.e] i))
 (l:∀w b,U O ((w,.inst .dP<|VE d h F D m (c+j.toNat) k b)::(b,.list code)::A.C I S e j R)<|g<|.ref w):J O (Tn<|n+6) (Rt g) (A.C I S e j R) a [.ss<|Ss.dr 3 hO] .b:=
 aY .v<|y .a u<|Q .v (g_.mem f) o<|y .a u<|Q .v (g_.mem f) r<|y .a u<|Q .v (g_.mem f) s<|y .a u<|Q .v (g_.mem f) t<|y .a u<|Q .v (g_.mem f) v<|y .v B<|aU .a (N q) z<|M .v<|Oy C<|
  y .a u<|Q .v (g_.mem f) x<|y .v B<|aU .a (N q) z<|M .a<|p _ λb=>Sd .a λw=>aR<|l w b
theorem AQ{lu d h ZZ en bl:Nat}{Bs:List Nat}(W:(lu,.inst .b7<|Ek (.int d) (.str .iO) (.bool<|!Y.aD) en (.int Y.bA) (.bool<|Y.rest||Y.takes) (.int 2) h bl)∈R)(u2:(en,.list<|G Y.dH)∈R)(u3:(bl,.list<|Bs.map V.ref)∈R)(u4:jg R 0 Bs ys)
 (C:(ZZ,.inst .hH [(.of,.ref Z),(.aj,.int (c:Nat))])∈R)(w:(Z,.dict false<|kD L)∈R)(sh:i4 ys)(F:ID L c ys)
 (u:∀a4 bu code a3,mr L c ys bu code->zG a3 a4 d Y bu code->U O (a3++R) (g<|.ref a4)):U O R<|Tn (n+7) .ik [.ref lu,.ref ZZ] g:=by
 haveI v:UG R lu Y.dH h ys:=⟨_,en,bl,Bs,W,z,z,z,u2,u3,u4⟩;refine aZ .a [.bO,.fN] hO z rfl rfl<|HK .a λA el ep=>?_;subst el ep;refine M .z<|HN (v.mono λ_ p=>g_.mem p) sh λoa=>aA (L':=A.C [] [] [] false<|(oa,.list<|G<|kn ys)::R) (aT.mv [] [_] [_,_,_,_])<|aY .a<|Ez .z (g_.mem q) ?_;haveI E:∀{x},x∈R->x∈(oa,a0.list<|G<|kn ys)::R:=λp=>N p;haveI VF:=u4.mono λ_ p=>E p;haveI fin:∀{I:List V}{S J:cK}{j:Bool}{code:List V}(a4 Q:Nat),mr L c ys (c+j.toNat) code->U O ((a4,.inst .dP<|VE (.int d) (.str .iO) (.int Y.bA) (.bool<|Y.rest||Y.takes) (.bool<|!Y.aD) (c+j.toNat) (.int 2) Q)::(Q,.list code)::A.C I S J j ((oa,.list<|G<|kn ys)::R)) (g<|.ref a4):=λ{I S J j code} a4 Q hc=>u a4 _ code ((a4,_)::(Q,_)::A.C I S J j [(oa,.list<|G<|kn ys)]) hc ⟨Q,.head _,N q⟩;cases sh with
 |@one y k a b h0 p0=>
  refine bS (VF.at (i:=0) z) λB b1 b2=>?_;exact aO (x:=.aF [.int 0,.int 0]) (xs:=[]) .z (df<|g_.mem q)<|uh (k:=0) (i:=0) (N q) (g_.mem q) (g_.mem<|E W) z (g_.mem<|E u3) (by refine(bp<|oe)▸(bp b1)▸?_;rfl) z rfl rfl<|
   Lw b2 (E C) (E w) z (by exact Nat.succ_pos _) (by exact Nat.succ_pos _) (by exact Nat.succ_pos _) (F.ao _ q) (F.len _ q) (F.en _ q) h0<|aY .a<|aP<|b5 (df<|g_.mem q)<|Ly z rfl (E W) (E C) z rfl rfl rfl rfl rfl (λQ' q'=>Oz q') λa4 Q=>fin a4 Q<|.one h0
 |@four D K P e r a1 b1 a2 b2 f k a b s t h0 h1 h2 h3 p0 p1 p2 p3=>
  refine bS (VF.at (i:=0) z) λB0 b0 c0=>bS (VF.at (i:=1) z) λB1 RS c1=>?_;refine bS (VF.at (i:=2) z) λB2 RT c2=>bS (VF.at (i:=3) z) λB3 b3 c3=>?_;haveI m0:D∈[D,K,P,e]:=.head _;haveI m1:K∈[D,K,P,e]:=N q;haveI m2:P∈[D,K,P,e]:=N<|N q;haveI m3:e∈[D,K,P,e]:=N<|N<|N q;haveI l0:=F.len _ m0;have l1:=F.len _ m1;have l2:=F.len _ m2;have l3:=F.len _ m3;haveI st:=F.ps _ m3 _ _ p3;obtain⟨KV,ZN,d3,VG,_⟩:=id c3;rw[p3] at VG;haveI l:∀{i B:Nat},Bs[i]?=some B->(Bs.map V.ref)[i]?=some (.ref B):=λo=>by refine(bp<|oe)▸(bp o)▸?_;rfl
  obtain⟨HO,Lz⟩:∃I,I=pV L D.ao++[WG L r<|-1]:=⟨_,z⟩;have kU:HO.length=D.ao.length+1:=by rw[Lz,eR,iN];rfl
  refine aO (x:=.aF [.int 0,.int 0]) (xs:=[.aF [.int 1,.int 1],.aF [.int 2,.int 3],.aF [.int 3,.int 2]]) .z (df<|g_.mem q)<|uh (k:=0) (i:=0) (N q) (g_.mem q) (g_.mem<|E W) z (g_.mem<|E u3) (l b0) z rfl rfl<|
   Se c0 (E C) (E w) z (Nat.succ_pos _) (Nat.succ_pos _) (Nat.succ_pos _) (F.ao _ m0) l0 (F.en _ m0) h0<|aA (L':=A.C HO [(0,0)] [(D.ao.length,2)] false<|(oa,.list<|G<|kn [D,K,P,e])::R) (λH=>by refine(bp Lz)▸?_;rw[show([]:List V).length+D.ao.length=D.ao.length from Nat.zero_add _] at H;exact H)<|aY .a<|aP<|
   aO (x:=.aF [.int 1,.int 1]) (xs:=[.aF [.int 2,.int 3],.aF [.int 3,.int 2]]) .z (df<|g_.mem q)<|uh (k:=1) (i:=1) (N q) (g_.mem q) (g_.mem<|E W) z (g_.mem<|E u3) (l RS) z rfl rfl<|
   Cz c1 (E C) (E w) z m (aG 0x1c101d060011164c031c101d06013e8c041c001d061 z l0 kU) (by show 1<9;decide) (F.ao _ m1) l1 (F.en _ m1) h1 (.inl ⟨z,z⟩) (E W) z (E u3) (l b3) d3 z VG st λX e1 n1=>?_
  obtain⟨xX,LA⟩:∃I,I=HO++(pV L K.ao++X.map rP):=⟨_,z⟩;have qU:xX.length=HO.length+(K.ao.length+X.length):=by rw[LA,eR,eR,iN,fZ]
  obtain⟨OB,LC⟩:∃I,I=xX++(pV L e.ao++[Cy L f k a b]):=⟨_,z⟩;have N4:OB.length=xX.length+(e.ao.length+1):=by rw[LC,eR,eR,iN];rfl
  refine aA (L':=A.C xX [(0,0),(1,HO.length)] [(D.ao.length,2)] (vZ X c)<|(oa,.list<|G<|kn [D,K,P,e])::R) (λH=>by rw[show Lr false=[] from rfl,j0,<-LA] at H;exact H)<|aY .a<|aP<|
   aO (x:=.aF [.int 2,.int 3]) (xs:=[.aF [.int 3,.int 2]]) .z (df<|g_.mem q)<|uh (k:=3) (i:=2) (N q) (g_.mem q) (g_.mem<|E W) z (g_.mem<|E u3) (l b3) z rfl rfl<|
   Lx c3 (E C) (E w) z (by show 2<9;decide) (L1 [_,_,_,_,_] 0x4201d301d09001119c021c401d06011c101d063011164c031c201d060164c031c101d06013e8c041c001d061 z l0 l1 kU n1 qU) (by show 1<9;decide) (F.ao _ m3) l3 (F.en _ m3) h3<|aA (L':=A.C OB [(0,0),(1,HO.length),(3,xX.length)] [(D.ao.length,2)] (vZ X c)<|(oa,.list<|G<|kn [D,K,P,e])::R) (λH=>by rw[<-LC] at H;exact H)<|aY .a<|aP<|
   aO (x:=.aF [.int 3,.int 2]) (xs:=[]) .z (df<|g_.mem q)<|uh (k:=2) (i:=3) (N q) (g_.mem q) (g_.mem<|E W) z (g_.mem<|E u3) (l RT) z rfl rfl<|
   Cz c2 (E C) (E w) z (by show 3<9;decide) (L1 [_,_,_,_,_,_,_] 0x1c301d601d0a001115201d401d09601119c021c501d06011c101d064011164c031c301d060164c031c201d060164c031c101d06013e8c041c001d061 z l0 l1 l3 kU n1 qU N4) (by show 1<9;decide) (F.ao _ m2) l2 (F.en _ m2) h2 (.inr ⟨z,z⟩) (E W) z (E u3) (l b3) d3 z VG st λF2 e2 n2=>aY .a<|aP<|b5 (df<|g_.mem q) ?_
  have es:pV L D.ao++WG L r (-1)::((pV L K.ao++(X.map rP++(pV L e.ao++Cy L f k a b::(pV L P.ao++F2.map rP))))++[P2<|-1])=OB++(pV L P.ao++(F2.map rP++Lr true)):=by refine(bp LC)▸(bp LA)▸(bp Lz)▸?_;simp only[lX,List.cons_append,List.nil_append];rfl
  refine Ly z rfl (E W) (E C) z rfl rfl rfl rfl rfl (λQ' q'=>?_) λa4 Q=>fin a4 Q<|.four h0 h1 h2 h3 p3 e1 e2 z rfl;refine OA (r:=pV L D.ao) (xs:=[.str .fE,.int (Ms L r:Nat)]) (ys:=[.str .zH]) (Y:=pV L K.ao++(X.map rP++(pV L e.ao++Cy L f k a b::(pV L P.ao++F2.map rP)))) (w:=[]) (b:=2) (u:=3) (s:=OB.length) (v:=xX.length) es.symm ?_ z rfl (by decide:2<9) (by decide:1<9) λQ=>?_;·simp only[eR,jM,fZ,iN,Ou];refine(bp N4)▸(bp qU)▸(bp kU)▸?_;have:D.ao.length+1+(K.ao.length+X.length)+(e.ao.length+1)+(P.ao.length+F2.length)=D.ao.length+1+(K.ao.length+(X.length+(e.ao.length+(P.ao.length+F2.length+1)))):=ng (L1 [_,_,_,_,_,_] 0x1c5401d05d301d201d101d1c001d06d1f5401d1c301d2101d1c001d06d0ed17d1f1 z)<|L1 [_,_,_,_,_,_] 0x5401d1c301d2101d1c001d06d0ed17d1f1c5401d05d301d201d101d1c001d06d1f1 z;refine(bp this)▸?_;rfl
  ·haveI q':=q' Q;have l3:(pV L D.ao).length+1+((pV L K.ao).length+X.length)=xX.length:=by rw[iN,iN,qU,kU]
   rw[l3,iN L e.ao,<-N4] at q';simp only[lX,List.cons_append,List.nil_append];exact q'
end
def La.sl:La->List Nat
 |.cU a b k=>a.sl++b.sl++k.sl
 |.iff a=>a.sl
 |.dj a b=>a.sl++b.sl
 |.call f a b k=>f.sl++a.sl++b.sl++k.sl
theorem Ag.js{g:Ag}(h:g.ok a):∀r∈g.sl,r∈a:=λr m=>by
 induction g using Ag.casesOn with
 |bL s=>rw[eL.mp m];exact h
 |_=>cases m
theorem Ag.gu{g:Ag}{S:Nat}(h:g.ok a)(k:∀r∈a,r<S):g.low S:=by
 induction g using Ag.casesOn with
 |bL s=>exact⟨nofun,λs e=>by cases e;exact k _ h⟩
 |hD d=>exact⟨λd e=>by cases e;exact h,nofun⟩
 |free i=>exact⟨nofun,nofun⟩
theorem La.js{x:La}(h:x.ok c):∀r∈x.sl,r∈c:=λr m=>by
 induction x using La.casesOn with
 |cU a b k=>refine db (mx.mp m) (λm=>?_) λm=>?_;(refine db (mx.mp m) (λm=>?_) λm=>?_;exact Ag.js h.1 r m;exact Ag.js h.2.1 r m);exact Ag.js h.2.2 r m
 |iff a=>exact Ag.js h r m
 |dj a b=>refine db (mx.mp m) (λm=>?_) λm=>?_;exact Ag.js h.1 r m;exact Ag.js h.2 r m
 |call f a b k=>
  refine db (mx.mp m) (λm=>?_) λm=>?_
  ·refine db (mx.mp m) (λm=>?_) λm=>?_
   ·refine db (mx.mp m) (λm=>?_) λm=>?_;·exact Ag.js h.1 r m
    ·exact Ag.js h.2.1 r m
   ·exact Ag.js h.2.2.1 r m
  ·exact Ag.js h.2.2.2 r m
theorem La.gu{x:La}{S:Nat}(h:x.ok e)(k:∀r∈e,r<S):x.low S:=by
 induction x using La.casesOn with
 |cU a b c=>exact(eP (Ag.gu h.1 k) (Ag.gu h.2.1 k)<|Ag.gu h.2.2 k)
 |iff a=>exact Ag.gu h k
 |dj a b=>exact⟨Ag.gu h.1 k,Ag.gu h.2 k⟩
 |call f a b c=>exact(hV (Ag.gu h.1 k) (Ag.gu h.2.1 k) (Ag.gu h.2.2.1 k)<|Ag.gu h.2.2.2 k)
theorem Op.js{o:Op}(h:o.ok c):∀r∈o.sl,r∈c:=λr m=>by
 induction o using Op.casesOn with
 |set w g a=>exact Ag.js h.2.2.2 r m
 |bt s n a b=>rcases mx.mp m with m|m;exact Ag.js h.2.2.1 r m;exact Ag.js h.2.2.2 r m
 |fix x y a=>exact Ag.js h r m
 |ay s n a b=>rcases mx.mp m with m|m;exact Ag.js h.2.2.1 r m;exact Ag.js h.2.2.2 r m
 |_=>cases m
theorem nq(o:Op)(a:List Op):aw (o::a)=o.news++aw a:=z
theorem LD:∀{a:List Nat}{s:Nat},ic a s c->∀r∈G9 c,r∈a++aw c:=by
 induction c with
 |nil=>exactλ_ r m=>nomatch m
 |cons o c b=>
  intro a s h r m;rw[nq,<-lX];refine db (mx.mp<|show r∈o.sl++G9 c from m) (λm=>?_) λm=>?_;·exact ll _<|ll _<|Op.js h.1 r m
  ·exact b h.2.2 r m
theorem yc:∀{a:List Nat}{s:Nat},ic a s c->aw c=List.range' s (aw c).length:=by
 induction c with
 |nil=>exactλ_=>rfl
 |cons o c b=>intro a s h;haveI e:=b h.2.2;rw[nq,eR,<-List.range'_append_1,<-h.2.1,<-e]
theorem Op.gu{S:Nat}{i:List Nat}{x:Op}(c:x.ok i)(f:∀r∈i,r<S)(h:∀r∈x.news,r<S):x.low S:=by
 induction x using Op.casesOn with
 |hD s d=>exact⟨h _ q,c⟩
 |fS s g=>exact⟨h _ q,c⟩
 |set w g a=>exact(hV c.1 c.2.1 c.2.2.1<|Ag.gu c.2.2.2 f)
 |bt s n a b=>exact(eP (h _ q) (Ag.gu c.2.2.1 f)<|Ag.gu c.2.2.2 f)
 |fix x y a=>exact(eP (h _ q) (h _<|N q)<|Ag.gu c f)
 |ay s n a b=>exact(eP (λx e=>by subst e;exact h _ q) (Ag.gu c.2.2.1 f)<|Ag.gu c.2.2.2 f)
theorem HP{S:Nat}{f:List Op}:∀{b:List Nat}{s:Nat},ic b s f->(∀r∈b,r<S)->s+(aw f).length<=S->∀o∈f,o.low S:=by
 induction f with
 |nil=>exactλ_ _ _ o m=>nomatch m
 |cons o f e=>
  intro b s h c a x m;rw[nq,eR] at a;have d:∀r∈o.news,r<S:=λr m=>by rw[h.2.1,List.mem_range'_1] at m;exact L1 [_,_,_,_,_] 0x3201d051c001d06011014301d201d09011011c001d061 z a m.2
  refine db (ew.mp m) ?_ ?_;·rintro rfl;exact Op.gu h.1 c d
  ·intro m;refine e h.2.2 (λr m=>?_) (jQ 0x3012101d001d090130121001d05d091 z a) x m;refine db (mx.mp m) (λm=>?_) λm=>?_;·exact c r m
   ·exact d r m
structure BK(S:Nat)(ks:List Nat)(x:s7):Prop where
 ex:∃s,ic ks s x.os/\s+(aw x.os).length<=S
 la:x.la.ok (ks++aw x.os)
 kb:∀r∈ks,r<S
 len:x.os.length<=2
theorem BK.low{S:Nat}{d:List Nat}(b:BK S d x):x.low S:=by
 refine bS b.ex λs a c=>(eP (HP a b.kb c) (La.gu b.la λr m=>?_) b.len);rcases mx.mp m with m|m
 ·exact b.kb r m
 ·rw[yc a,List.mem_range'_1] at m;exact jQ 0x3201d051c001d06011013201d05011011c001d061 z c m.2
theorem jZ{P:List (Ag×Nat)}(h:k_ P x j):∀r∈j.reads,∃g,(g,r)∈P/\∀s∈g.sl,s∈x.sl:=λr m=>by
 cases h with
 |@cU a b k c d e x j z=>
  haveI m:r=e\/r=c\/r=d:=by simpa[jT.reads] using m
  rcases m with rfl|rfl|rfl
  ·exact(a_ k z λs m=>cs _ m)
  ·exact(a_ a x λs m=>ll _<|ll _ m)
  ·exact(a_ b j λs m=>ll _<|cs _ m)
 |@iff a c x=>rw[eL.mp m];exact(a_ a x λs m=>m)
 |@dj a b c d x j=>
  haveI m:r=c\/r=d:=by simpa[jT.reads] using m
  rcases m with rfl|rfl
  ·exact(a_ a x λs m=>ll _ m)
  ·exact(a_ b j λs m=>cs _ m)
 |@call f a b k i c d e w x j z=>
  haveI m:r=i\/r=e\/r=c\/r=d:=by simpa[jT.reads] using m
  rcases m with rfl|rfl|rfl|rfl
  ·exact(a_ f w λs m=>ll _<|ll _<|ll _ m)
  ·exact(a_ k z λs m=>cs _ m)
  ·exact(a_ a x λs m=>ll _<|ll _<|cs _ m)
  ·exact(a_ b j λs m=>ll _<|cs _ m)
structure YK(n:Nat)(ks:List Nat)(a:LB):Prop where
 ao:∀o∈a.ao,o.nice/\∀r∈o.bu,r<n/\(r∈t9 a.ao\/r∈ks)
 en:∀r∈a.en.reads,r<n/\(r∈t9 a.ao\/r∈ks)
 nw:∀r∈ks,r<n
theorem xW.yk{S n:Nat}{G:List Int}{x:s7}{y:LB}(h:xW S w G n x y)(b:BK S c x):YK n c y/\∀r∈aw x.os,r∈t9 y.ao:=by obtain⟨F,K,P,a,i⟩:=h.ex;refine bS b.ex λs j _=>?_;have d:∀r,r∈c++aw x.os->r∈t9 y.ao\/r∈c:=λr m=>(mx.mp m).elim .inr λm=>.inl<|a.nw r m;refine⟨⟨λo m=>⟨(a.rb o m).1,λr f=>⟨(a.rb o m).2 r f,(a.gv o m r f).elim .inl λz=>d r<|LD j r z⟩⟩,λr m=>?_,λr m=>ci (b.kb r m) a.le⟩,a.nw⟩;refine bS (jZ i r m) λg e k=>⟨(a.pb _ e).1,(a.pw _ e).elim .inl λz=>?_⟩;have z:g=.bL r:=z;exact d r<|La.js b.la r<|k r<|z▸.head _
inductive UK(c:Un):Prop
 |one {b0:s7} {a b k:Ag} (e:c.mO=[b0]) (p0:b0.ps=[]) (l0:b0.la=.cU a b k) (k0:BK c.az (List.range c.ah) b0)
 |four {b0 b1 b2 b3:s7} {a a1 RS a2 RT f x d k:Ag} {s t:Nat} (e:c.mO=[b0,b1,b2,b3]) (p0:b0.ps=[]) (p1:b1.ps=[]) (p2:b2.ps=[]) (p3:b3.ps=[s,t]) (st:s≠t) (l0:b0.la=.iff a) (l1:b1.la=.dj a1 RS) (l2:b2.la=.dj a2 RT) (l3:b3.la=.call f x d k)
  (k0:BK c.az (List.range c.ah) b0) (k1:BK c.az (List.range c.ah++aw b0.os) b1) (k2:BK c.az (List.range c.ah++aw b0.os) b2) (k3:BK c.az (List.range c.ah++aw b0.os++[s,t]) b3)
theorem qY{n S:Nat}(h:n<=S):∀r∈List.range n,r<S:=λr m=>ci (List.mem_range.mp m) h
theorem AR{s S:Nat}(h:ic a s os)(k:∀r∈a,r<S)(e:s+(aw os).length<=S):∀r∈a++aw os,r<S:=λr m=>by
 refine db (mx.mp m) (λm=>?_) λm=>?_;·exact k r m
 ·rw[yc h,List.mem_range'_1] at m;exact jQ 0x3201d051c001d06011013201d05011011c001d061 z e m.2
theorem Sf{B:List s7}(d:zu s B e)(C:s<=4):(∀b∈B,b.os.length<=2)->e<90/\s<=e/\∀U:Un,U.mO=B->U.az=e->U.ah=s->UK U:=by
 induction d using zu.casesOn with
 |@one g e w i h I E=>intro c;refine MB h λa b k h=>?_;subst E;haveI V:=gr<|c _ q;refine(eP (aG 0x4c02101014c02001015ac031c1001d05d0a1 z C V) (ox _ _) λU P R S=>.one P w h ?_);rw[R,S];exact⟨(a_ s i<|ct _),I,qY<|ox _ _,c _ q⟩
 |@four g j o p e w K L i h I G t D H u O M J v Q E=>
  intro c;refine oE h λa h=>vP t λY W t=>?_;refine vP u λZ X u=>?_;obtain⟨f,x,y,k,v⟩:=v;subst E;haveI V:=gr<|c _ q;haveI n1:=gr<|c _<|N q;haveI n2:=gr<|c _<|N<|N q;haveI F:=gr<|c _<|N<|N<|N q;haveI l:s+(aw g.os).length<=s+(aw g.os).length+(aw j.os).length+(aw o.os).length+2+(aw p.os).length:=L1 [_,_,_,_,_] 0x42c321001d05d09d0dd12d161001d051 z;haveI T:s+(aw g.os).length+(aw j.os).length<=s+(aw g.os).length+(aw j.os).length+(aw o.os).length+2+(aw p.os).length:=L1 [_,_,_,_,_] 0x42c321001d05d09d0dd12d1621001d05d091 z;haveI A:s+(aw g.os).length+(aw j.os).length+(aw o.os).length+2<=s+(aw g.os).length+(aw j.os).length+(aw o.os).length+2+(aw p.os).length:=ox _ _;haveI n:=eJ (ox s (aw g.os).length) l;refine(eP (L1 [_,_,_,_,_] 0x4c02401014c02301014c02201014c02101014c02001015ac031c42c321001d05d09d0dd12d16d1b1 z C V n1 n2 F) n λU P R S=>.four P w K L M (Nat.ne_of_lt<|Nat.lt_succ_self _) h t u v ?_ ?_ ?_ ?_)<;>rw[R,S];·exact⟨(a_ s i l),I,qY n,c _ q⟩
  ·exact⟨(a_ _ G T),D,AR i (qY n) l,c _<|N q⟩
  ·exact⟨(a_ _ H<|eJ (ox _ 2) A),O,AR i (qY n) l,c _<|N<|N q⟩
  ·refine⟨(a_ _ J<|ct _),Q,λr m=>?_,c _<|N<|N<|N q⟩;rcases mx.mp m with m|m
   ·exact AR i (qY n) l r m
   ·rcases ew.mp m with rfl|m
    ·exact ci (ci (Nat.lt_succ_self _)<|Nat.le_succ _) A
    ·exact(eL.mp m)▸ci (Nat.lt_succ_self _) A
theorem Un.Ok.uk(h:e.Ok):UK e/\e.az<90/\e.ah<=e.az/\e.ah<=4:=by
 have d:e.ah<=4:=by
  have:=h.np.2;have:e.rest.toNat<=1:=by cases e.rest<;>decide
  show e.np+e.rest.toNat<=4;lia
 exact F5 (Sf h.dia d λb m=>(h.small b m).2) λa b c=>(hV (c e z rfl rfl) a b d)
theorem UK.low(h:UK r)(b:r.np<=3):r.low:=by
 cases h with
 |one e d c a=>exact(eP (λx m=>by rw[e] at m;rw[eL.mp m];exact a.low) b<|by rw[e];exact(by decide:1<90))
 |four e d n o p q c j k l a f g i=>
  refine(eP (λx m=>?_) b<|by rw[e];exact(by decide:4<90));rw[e] at m;simp only[ew,i3,or_false] at m;clear e c j k l d n o p;rcases m with rfl|rfl|rfl|rfl
  ·exact a.low
  ·exact f.low
  ·exact g.low
  ·exact i.low
theorem k_.P4{P:List (Ag×Nat)}(h:k_ P (.cU a b g) i):∃e c d,i=.cU e c d/\(a,c)∈P/\(b,d)∈P/\(g,e)∈P:=by cases h with|cU x i f=>exact⟨_,_,_,z,x,i,f⟩
theorem k_.VH{P:List (Ag×Nat)}(h:k_ P (.iff a) b):∃r,b=.br r/\(a,r)∈P:=by cases h with|iff x=>exact⟨_,z,x⟩
theorem k_.LF{P:List (Ag×Nat)}(h:k_ P (.dj a b) e):∃c d,e=.dj c d/\(a,c)∈P/\(b,d)∈P:=by cases h with|dj x e=>exact⟨_,_,z,x,e⟩
theorem k_.P5{P:List (Ag×Nat)}(h:k_ P (.call i a b j) n):∃e g c d,n=.call e g c d/\(i,e)∈P/\(a,c)∈P/\(b,d)∈P/\(j,g)∈P:=by cases h with|call w x n f=>exact⟨_,_,_,_,z,w,x,n,f⟩
structure YF(b:Un)(n:Nat)(ys:List LB):Prop where
 sh:i4 ys
 yn:YN ys n
 st:∀a∈ys,∀s t,a.ps=[s,t]->s≠t
 len:∀a∈ys,a.ao.length<=12
 Sg:∀d,(∀r∈List.range b.ah,jU d r)->(∀c∈ys,(∀x∈c.ps,jU d x)/\∀x∈t9 c.ao,jU d x)->∀a∈ys,(∀o∈a.ao,o.nice/\∀r∈o.bu,jU d r)/\∀r∈a.en.reads,jU d r
theorem YK.Sg(h:YK n c g)(a:∀r∈c,jU e r)(b:∀x∈t9 g.ao,jU e x):(∀o∈g.ao,o.nice/\∀r∈o.bu,jU e r)/\∀r∈g.en.reads,jU e r:=
 ⟨λo m=>⟨(h.ao o m).1,λr d=>((h.ao o m).2 r d).2.elim (b r) (a r)⟩,λr m=>(h.en r m).2.elim (b r) (a r)⟩
theorem LG{a b:List Nat}(c:∀r∈a,jU e r)(d:∀r∈b,jU e r):∀r∈a++b,jU e r:=λr m=>(mx.mp m).elim (c r)<|d r
theorem r9.len{S n:Nat}{c:List s7}:∀{a:List LB},r9 S e g n c a->a.length=c.length:=by
 induction c with
 |nil=>intro a h;induction a using da with
  |nil=>rfl
  |cons y a=>exact h.elim
 |cons x c b=>intro a h;induction a using da with
  |nil=>exact h.elim
  |cons y a=>exact congrArg (·+1)<|b h.2
theorem xu{b:Type}{l:List b}(h:l.length=1):∃a,l=[a]:=by refine vP (List.exists_cons_of_length_eq_add_one h) ?_;rintro a r rfl;exact⟨a,by rw[List.length_eq_zero_iff.mp<|Nat.succ.inj h]⟩
theorem YA{e:Type}{l:List e}(h:l.length=4):∃a b c d,l=[a,b,c,d]:=by refine vP (List.exists_cons_of_length_eq_add_one h) ?_;rintro a r rfl;refine vP (List.exists_cons_of_length_eq_add_one<|Nat.succ.inj h) ?_;rintro b r rfl;refine vP (List.exists_cons_of_length_eq_add_one<|Nat.succ.inj<|Nat.succ.inj h) ?_;rintro c r rfl;refine oE (xu<|Nat.succ.inj<|Nat.succ.inj<|Nat.succ.inj h) ?_;clear h;rintro d rfl;exact⟨a,b,c,d,z⟩
theorem HQ(h:UK a5)(b:r9 a5.az a3 a4 n a5.mO ys):YF a5 n ys:=by
 cases h with
 |one e S Q B=>
  rw[e] at b;refine oE (xu b.len) ?_;rintro C rfl
  ·refine oA (b.1.yk B) λg U=>kf λV i=>?_;obtain⟨_,_,P,_,eo⟩:=b.1.ex;rw[Q] at eo;refine qE eo.P4 λ_ _ _ I _=>i ?_;have one:∀{P:LB->Prop},P C->∀y∈[C],P y:=λ{P} h y m=>by rw[eL.mp m];exact h
   have M:=b.1.ps.trans S;refine⟨.one I M,⟨one λr m=>(g.en r m).1,one (by rw[M];nofun),one λo m=>⟨(g.ao o m).1,λr T=>((g.ao o m).2 r T).1⟩⟩,one (by rw[M];nofun),one b.1.len,λO j c=>one<|g.Sg j (c _ q).2⟩
 |@four b0 b1 b2 b3 a a1 RS a2 RT f x y k s t e S p1 p2 p3 st Q l1 l2 l3 B k1 k2 k3=>
  rw[e] at b;refine kf λV i=>?_;obtain⟨C,y1,y2,y3,rfl⟩:=YA b.len;refine i ?_
  ·refine EO b λu v w z _=>?_;clear b;refine kf λV i=>oA (u.yk B) λg U=>?_;refine oA (v.yk k1) λA w1=>oA (w.yk k2) λF w2=>?_;refine oA (z.yk k3) λl w3=>?_;obtain⟨_,_,_,_,W⟩:=u.ex;obtain⟨_,_,_,_,X⟩:=v.ex;obtain⟨_,_,_,_,Y⟩:=w.ex;obtain⟨_,_,_,_,Z⟩:=z.ex;rw[Q] at W;rw[l1] at X;rw[l2] at Y;rw[l3] at Z;refine bS W.VH λ_ I _=>iB X.LF λ_ _ R _=>?_;refine iB Y.LF λ_ _ G _=>zQ Z.P5 λ_ _ _ _ e3 _=>?_;refine i ?_;have H:=u.ps.trans S;have J:=v.ps.trans p1;have K:=w.ps.trans p2;have p:=z.ps.trans p3;have D:∀{P:LB->Prop},P C->P y1->P y2->P y3->∀y∈[C,y1,y2,y3],P y:=λ{P} h0 j c h3 y m=>by
    simp only[ew,i3,or_false] at m;clear i W X Y Z w1 w2 w3;clear g A F l I R G e3 i H J K p U u v w z;rcases m with rfl|rfl|rfl|rfl
    ·exact h0
    ·exact j
    ·exact c
    ·exact h3
   have E:∀{ks y},YK n ks y->∀o∈y.ao,o.nice/\∀r∈o.bu,r<n:=λd o m=>⟨(d.ao o m).1,λr T=>((d.ao o m).2 r T).1⟩;refine⟨.four I R G e3 H J K p,⟨D (λr m=>(g.en r m).1) (λr m=>(A.en r m).1) (λr m=>(F.en r m).1) λr m=>(l.en r m).1,D (by rw[H];exact(rW _)) (by rw[J];exact(rW _)) (by rw[K];exact(rW _)) λr m=>l.nw r<|cs _<|p▸m,D (E g) (E A) (E F)<|E l⟩,
    D (by rw[H];nofun) (by rw[J];nofun) (by rw[K];nofun) (by rw[p];intro s' t' e';injection e' with R G;injection G with G _;rw[<-R,<-G];exact st),D u.len v.len w.len z.len,λO j c=>?_⟩
   have L:=LG j λr m=>(c _ q).2 r (U r m);exact D (g.Sg j (c _ q).2) (A.Sg L (c _<|N q).2) (F.Sg L (c _<|N<|N q).2)
    (l.Sg (LG L<|p▸(c _<|N<|N<|N q).1) (c _<|N<|N<|N q).2)
structure xz(C:List V)(a:List Int)(b:Un)(n:Nat)(ys:List LB)(e:cK)(c:Nat)(d bs:List Nat)(bu:Nat)(code:List V):Prop where
 ui:r9 b.az C a n b.mO ys
 fx:PT ys bs
 af:AF b.dH ys bs d
 po:PO b.dH ys d e c
 yf:YF b n ys
 cg:ID e c ys
 code:mr e c ys bu code
theorem yd{U:Un}{i:Nat}(h:i<U.ah):U.dH[i]?=some i:=by
 unfold Un.ah at h;unfold Un.dH;by_cases q:i<U.np;·rw[List.getElem?_append_left<|List.length_range▸q,List.getElem?_range q]
 ·cases a:U.rest with
  |false=>rw[a] at h;exact absurd h q
  |true=>rw[a] at h;haveI h:=h;haveI e:i=U.np:=ng (aG 0x1c101d061c001d06011010011 z h)<|aG 0x11c101d06311010011 z q;rw[if_pos z,List.getElem?_append_right<|List.length_range▸aG 0x11c101d06311010011 z q,List.length_range,e,Nat.sub_self];rfl
theorem HR{U:Un}(h:U.ah<=U.az):(∀r∈U.dH,r<U.aj)/\U.dH.Nodup:=by
 haveI i:=Ck U;haveI c:U.ah=U.np+U.rest.toNat:=z;have n:∀x,U.np<=x->x<U.aj->(∀r∈List.range U.np++[x],r<U.aj)/\(List.range U.np++[x]).Nodup:=λx d f=>by
  refine⟨λr l=>?_,List.nodup_append.mpr<|eP List.nodup_range (List.nodup_cons.mpr ⟨i3,List.nodup_nil⟩) λa j b g e=>?_⟩
  ·refine db (mx.mp l) (λl=>?_) λl=>?_;·have:=List.mem_range.mp l;exact jQ 0x2011c001d06011011c301d0601301201011011c001d061 z d f this
   ·exact(eL.mp l)▸f
  ·have:=List.mem_range.mp j;rw[eL] at g;exact jQ 0x11c301d06012013012110120121101001010 z d g e this
 unfold Un.dH;cases o:U.rest with
 |true=>rw[o] at c;haveI c:=c;rw[if_pos z];exact n _ (ct _)<|jQ 0x1c001d062012110130101301201011011c001d061 z h i c
 |false=>
  rw[o] at c;haveI c:=c;rw[if_neg m];cases k:U.takes with
  |true=>rw[if_pos z];refine n _ (bF 0x120121101201011010011 z h c) ?_;unfold Un.aj;rw[o,k];exact Nat.lt_succ_self _
  |false=>rw[if_neg m,j0];exact⟨λr l=>by have:=List.mem_range.mp l;exact L1 [_,_,_,_,_] 0x4011c001d06014012012110130101301201011011c001d061 z h i c this,List.nodup_range⟩
theorem VI{U:Un}{n c:Nat}{b:List LB}{C M:List Nat}{O:cK}(h:YF U n b)(o:AF U.dH b C M)(A:PO U.dH b M O c):ID O c b:=by
 haveI u:∀r∈List.range U.ah,jU O r:=λr B=>⟨r,A.en r r<|yd<|List.mem_range.mp B⟩;haveI j:=h.Sg O u A.ps;refine⟨λy B=>(j y B).1,λy B=>(j y B).2,λy B s t e=>?_,λy B=>sg (h.len y B) m⟩;haveI f:=(A.ps y B).1;rw[e] at f;refine oE (f s q) λp F=>oE (f t<|N q) λg E=>?_;haveI k:=h.st y B s t e;obtain⟨i,v⟩:=List.getElem?_of_mem B;haveI a:=(o.bl i y v).ps;rw[e] at a;haveI d:=a s q t (by rw[Nat.testBit_or,jO];simp) k.symm;haveI w:=A.ap s t p d k F;have x:Ms O s=p:=by unfold Ms;rw[F];rfl
 have l:Ms O t=g:=by unfold Ms;rw[E];rfl
 refine(hV ⟨p,F⟩ ⟨g,E⟩ (λD=>w ?_) λD=>?_);·rw[E,<-l,<-D,x]
 ·have:=A.lt t g E;exact bF 0x2011c101d060120100121101001110 z l D this
section
variable{n:Nat}{R:H}{A:dC}{T:aV}
theorem LH(l:Lv)(q:∀w s h g i,eh O (Tn<|n+1) r l (ie s h g i [] []<|(w,.inst .dh<|kO s h g i)::R) T j<|.v (.ref w) fs):J O (Tn<|n+1) r R T (.new .dh::j)<|.m fs:=
 s6 l λw=>aZ .a [.aq] rS z rfl rfl<|aW .a λs=>aX .a (.tail .head) z rfl<|aW .a λh=>aX .a (.tail<|.tail .head) z rfl<|aW .a λg=>aX .a (.tail<|.tail<|.tail .head) z rfl<|aW .a λi=>aX .a (.tail<|.tail<|.tail<|.tail .head) z rfl<|jf<|
  aA (λe=>O.perm e (by haveI k:∀{a b c d:Nat×a0}{L:H},(a::b::c::d::L).Perm (d::c::b::a::L):=λ{a b c d L}=>(List.reverse_perm [a,b,c,d]).symm.append_right L;exact k))<|q w s h g i
theorem Sh(l:Lv){a b c:Nat}(q:∀w,eh O (Tn<|n+1) e l ((w,.inst .Unit [(.cC,.ref a),(.bE,.ref b),(.globals,.ref c),(.fh,st)])::R) T g<|.v (.ref w) fs):J O (Tn<|n+1) e R T (.new .Unit::g)<|.v st<|.v (.ref c)<|.v (.ref b)<|.v (.ref a)<|.m fs:=
 s6 l λw=>aZ .a [.aq,.cC,.bE,.dW,.fh] vg z rfl rfl<|aX .a .head z rfl<|aX .a .head z rfl<|aX .a .head z rfl<|aX .a .head z rfl<|jf<|q w
structure HS(R:H)(p:Nat)(st:Int)(ul:Nat)(us:List Nat)(Us:List Un):Prop where
 p:(p,.inst .lP [(.units,.ref ul),(.fh,.int st)])∈R
 l:(ul,.list<|us.map V.ref)∈R
 u:vH R 0 us Us
theorem vH.mono{R a:H}(k:∀e∈R,e∈a)(h:vH R i c b):vH a i c b:=pB.mono (λ_ _ _ r=>r.mono k) h
theorem HS.mono{R a:H}{p c:Nat}{b:List Un}(h:HS R p st c e b)(k:∀g∈R,g∈a):HS a p st c e b:=⟨k _ h.p,k _ h.l,h.u.mono k⟩
theorem EC(d:(a4,.inst .dh<|kO e h g i)∈R)(r:HS R a3 st a1 a2 x)(f:∀w∈x,w.low)
 (q:∀a b c E s Y,oF E s->pX Y (E.map (·.1)) s 0 b x c->U O ((a,.list<|b.map V.ref)::ie e h g i E s (Y++R)) (A<|.ref a)):U O (ie e h g i [] [] R)<|Tn (L+9) .lowered [.ref a3,.ref a4] A:=
 aZ .a [.dX,.cD] yP z rfl rfl<|Q .a (N<|N<|N<|N r.p) z<|uV .a (N<|N<|N<|N r.l)<|Hi (E:=[]) (G:=[]) (X:=[]) (acc:=[]) (T:=_) d r.l z r.u f ⟨List.nodup_nil,(rW _),List.nodup_nil,(rW _)⟩ (λ_ _=>rfl) λb c E s Y l _ _ I j=>dF λa=>aR<|q a b c E s Y I j
inductive z6(L:H)(C:List V)(a:List Int)(i p:Nat)(d:Un):Prop
 |mk (n:_) (ys:_) (f:_) (c:_) (e:_) (bs:_) (bu:_) (code:_) (b:xz C a d n ys f c e bs bu code) (r:zG L p i d bu code)
theorem z6.mono{C:List V}{G:List Int}{i p:Nat}{U:Un}(h:z6 L C G i p U)(k:∀g∈L,g∈a):z6 a C G i p U:=by obtain⟨n,e,O,c,M,d,f,j,b,r⟩:=h;exact⟨n,e,O,c,M,d,f,j,b,r.mono k⟩
abbrev ye(L:H)(C:List V)(G:List Int):Nat->List Nat->List Un->Prop:=pB<|z6 L C G
theorem pX.no{R:H}(h:pX R c e i [] a b):a=[]:=by
 induction a using da with
 |nil=>rfl
 |cons=>exact h.elim
theorem pX.un{R:H}(h:pX R g j i (r::e) a b):∃(U:Un)(d:List Un)(f:Nat×List LB)(c:List<|Nat×List LB),a=U::d/\Hh R r i U g j f.1 f.2/\pX R g j (i+1) e d c:=by
 induction a using da with
 |nil=>exact h.elim
 |cons U a=>induction b using da with
  |nil=>exact h.elim
  |cons f b=>exact(De U a f b z h)
theorem ye.mono{R a:H}(k:∀j∈R,j∈a)(h:ye R e g i c b):ye a e g i c b:=pB.mono (λ_ _ _ r=>r.mono k) h
theorem ED(W:(la,.list cc)∈R):∀{f:List Un}{t:List (Nat×List LB)}{i:Nat}{S:List V}{X:H}{T:aV},pX R a1 a2 i j f t->(∀G∈f,G.Ok)->
 (∀s Y aI,ye Y a1 a2 i s f->U O (Y++(X++R)) λh=>QQ (S++s.map V.ref) ⟨aI,h⟩)->
 Co O (Tn<|a3+7) (X++R) [(la,.list cc)] (.one .bO) .tt (.call .ik<|.cons (.ai .bO)<|.cons (.call .lJ<|.cons (.ai .bO) Es.nil) Es.nil) QQ (j.map V.ref) S T:=by
 induction j with
 |nil=>intro f t i S X T o u P;haveI P:=P [] [] T<|o.no▸trivial;rw[List.map_nil,j0] at P;exact gB (df<|cs _ W) P
 |cons l j ih=>
  intro f t i S X T o u P;obtain⟨G,YD,Q,t,eU,⟨⟨en,bl,Bs,k,F,J,K⟩,Z,n1,n2⟩,Yh⟩:=o.un;clear o;subst eU;haveI ok:=u G q;refine oU ok.uk λuk v es e4=>?_;haveI d:=HQ uk Z;haveI up:∀{x},x∈R->x∈X++R:=λI=>cs _ I;haveI lb:G.mO.length<=4:=by cases uk with
   |one e=>rw[e];exact(by decide:1<=4)
   |four e=>rw[e];exact(by decide:4<=4)
  haveI cn:G.aj<=G.az+1:=by unfold Un.aj;split<;>(first|exact bN 0x1c001d061c001d061 z|exact bN 30786812510225 z)
  haveI E:=HR es;refine cJ (x:=.ref l) (xs:=j.map V.ref) .a (df<|up W)<|M .z<|HF (a4:=Q.1) ⟨_,en,bl,Bs,up k,z,z,z,up F,up J,K.mono λ_ I=>up I⟩ d.sh d.yn (λr I=>ci (E.1 r I) n1) E.2 (jQ 0x1c301d06101014c022010c5ac031c301d06012c01e101d09001012328c051c001d061 z n2 v lb cn) (λy I=>sg (d.len y I) m) λpl b bs B D c fx L po=>?_;haveI g:∀{x},x∈R->x∈(pl,a0.inst .hH [(.of,.ref b),(.aj,.int (c:Nat))])::(b,a0.dict false<|kD D)::(X++R):=λI=>N<|N<|up I;haveI C:=VI d L po;refine aY .a<|M .z<|AQ (g k) (g F) (g J) (K.mono λ_ I=>g I) q (N q) d.sh C λp bu code Y cd rp=>?_;refine aA (L':=(Y++(pl,a0.inst .hH [(.of,.ref b),(.aj,.int (c:Nat))])::(b,a0.dict false<|kD D)::X)++R) (λa=>by rw[lX];exact a)<|aY .a<|cF<|ih Yh (λG I=>u G<|N I) λs w jN pr=>?_;haveI P:=P (p::s) (w++(Y++[(pl,a0.inst .hH [(.of,.ref b),(.aj,.int (c:Nat))]),(b,a0.dict false<|kD D)])) jN ⟨⟨Q.1,Q.2,D,c,B,bs,bu,code,⟨Z,fx,L,po,d,C,cd⟩,rp.mono λ_ I=>cs _<|ll _ I⟩,pr.mono λ_ I=>ll _ I⟩;rw[pc,List.append_cons S,lX w,lX Y] at P;rw[lX];exact P
theorem EE{k p v:Nat}{G:Int}{y:List Nat}{h:List Un}(r:HS R p G v y h)(i:∀a1∈h,a1.Ok)
 (C:∀w Ms a b g E L e,oF E L->ye e (E.map (·.1)) L 0 g h->(w,.inst .Unit [(.cC,.ref Ms),(.bE,.ref a),(.globals,.ref b),(.fh,.int G)])∈e->(Ms,.list<|g.map V.ref)∈e->(a,.list<|E.map (·.1))∈e->(b,.list<|L.map .int)∈e->(∀x∈R,x∈e)->U O e (A<|.ref w)):
 U O R<|Tn (k+10) .tq [.ref p] A:=by
 refine aZ .a [.dX] yS z rfl rfl<|LH .a λt a c b d=>M .a<|EC (L:=k) q (r.mono λ_ m=>N m) (λa1 m=>(i a1 m).uk.1.low (i a1 m).np.2) λj l B E L Y I o=>uV .a q ?_;have s:∀{x},x∈Y->x∈(j,a0.list<|l.map V.ref)::ie a c b d E L (Y++((t,a0.inst .dh<|kO a c b d)::R)):=λm=>N<|N<|N<|N<|N<|cs _<|ll _ m;refine ED (a3:=k+2) (X:=[]) (S:=[]) (R:=(j,a0.list<|l.map V.ref)::ie a c b d E L (Y++((t,a0.inst .dh<|kO a c b d)::R))) q (o.grow (λ_ m=>s m) (sj _)<|sj _) i λg Z D u=>dF λMs=>?_;have f:∀{x},x∈ie a c b d E L (Y++((t,a0.inst .dh<|kO a c b d)::R))->x∈(Ms,a0.list<|g.map V.ref)::(Z++((j,a0.list<|l.map V.ref)::ie a c b d E L (Y++((t,a0.inst .dh<|kO a c b d)::R)))):=λm=>N<|cs _<|N m;have F:∀{x},x∈(t,a0.inst .dh<|kO a c b d)::R->x∈ie a c b d E L (Y++((t,a0.inst .dh<|kO a c b d)::R)):=λm=>N<|N<|N<|N<|cs _<|cs _ m;exact Q .a (f<|F q) z<|Q .a (f<|F q) z<|Q .a (f<|F<|N r.p) z<|Sh .a λw=>aR<|
  C w Ms a b g E L _ I (u.mono λ_ m=>N<|N<|ll _ m) q (N q) (N<|f q) (N<|f<|N<|N q) λx m=>N<|f<|F<|N m
end
mutual
noncomputable def yg:V->Bool
 |.ref _=>false
 |.aF a=>tf a
 |_=>true
noncomputable def tf:List V->Bool
 |[]=>true
 |v::a=>yg v&&tf a
end
mutual
theorem rH:∀{v:V},yg v->ga h v (xq v)
 |.none,_=>.none
 |.bool b,_=>.bool b
 |.int i,_=>.int i
 |.str s,_=>.str s
 |.aF a,e=>.aF<|mL e
 |.ref _,e=>Kv e
theorem mL:∀{a:List V},tf a->fY h a (xQ a)
 |[],_=>.nil
 |_::_,e=>.cons (rH (nl.mp e).1)<|mL (nl.mp e).2
end
def VB(m:Nat)(v:V):Prop:=yg v=true/\(xq v).depth<=m
theorem VB.up(h:VB b c)(k:b<=a):VB a c:=⟨h.1,eJ h.2 k⟩
theorem OC(a:VB c e)(b:VB c w):VB (c+1)<|vG n [e,w]:=
 ⟨by show(yg e&&(yg w&&true))=true;rw[a.1,b.1];rfl,s4<|qc.mpr ⟨Nat.zero_le _,qc.mpr ⟨Nat.zero_le _,qc.mpr ⟨a.2,qc.mpr ⟨b.2,Nat.zero_le _⟩⟩⟩⟩⟩
def EB(m:Nat)(e:Env):Prop:=∀x v,e x=some v->VB m v
theorem EB.put(h:EB b e)(a:VB b v):EB b<|e.put r v:=λx w q=>by
 by_cases z:x=r;·subst z;rw[cP] at q;cases q;exact a
 ·rw[b4 _ _ z] at q;exact h x w q
theorem EB.up(h:EB b e)(k:b<=a):EB a e:=λx v q=>(h x v q).up k
theorem fM(h:EB (a+1) e)(q:dU e g=some b):VB (a+1) b:=by
 induction g using Ag.casesOn with
 |hD d=>refine oM q ?_;clear q;rintro y _ rfl;exact⟨z,s4<|Nat.zero_le a⟩
 |free i=>cases q;exact⟨z,s4<|Nat.zero_le a⟩
 |bL s=>exact h s b q
def DB(m:Nat)(D:List D):Prop:=∀d∈D,d.depth<=m
theorem DB.up{D:List D}(h:DB b D)(k:b<=a):DB a D:=λd q=>eJ (h d q) k
theorem DB.add{D:List D}(h:DB b D)(k:a.depth<=b):DB b<|D++[a]:=λx q=>(mx.mp q).elim (h x) λq=>by rw[eL.mp q];exact k
theorem DB.VJ:∀{D:List D},DB c D->jb D<=c:=λ{a}=>by
 induction a with
 |nil=>intro _;exact Nat.zero_le c
 |cons d D b=>intro h;exact qc.mpr ⟨h d q,b λx e=>h x<|N e⟩
def SB(m:Nat)(s:AH):Prop:=EB (m+1) s.1/\DB (m+4) s.2
theorem WJ(a:VB c e)(b:VB c w):(D.list<|xQ [e,w]).depth<=c+1:=s4<|qc.mpr ⟨a.2,qc.mpr ⟨b.2,Nat.zero_le _⟩⟩
theorem IL(a:VB b c):(D.list<|xQ [c]).depth<=b+1:=s4<|qc.mpr ⟨a.2,Nat.zero_le _⟩
theorem FF(c:a.depth<=e)(d:b.depth<=e):(D.list [a,b]).depth<=e+1:=s4<|qc.mpr ⟨c,qc.mpr ⟨d,Nat.zero_le _⟩⟩
theorem HT(a:VB c e)(b:VB c w):(xR n [e,w]).depth<=c+2:=s4<|qc.mpr ⟨Nat.zero_le _,qc.mpr ⟨Nat.zero_le _,qc.mpr ⟨WJ a b,Nat.zero_le _⟩⟩⟩
theorem LI(a:VB b c):(Ky w n c).depth<=b+1:=s4<|qc.mpr ⟨Nat.zero_le _,qc.mpr ⟨Nat.zero_le _,qc.mpr ⟨a.2,Nat.zero_le _⟩⟩⟩
theorem LJ(b:VB e h)(c:VB e w)(a:VB e g):(Ci [[h,w],[g]]).depth<=e+3:=s4<|qc.mpr ⟨Nat.zero_le _,qc.mpr ⟨FF (WJ b c)<|IL a,Nat.zero_le _⟩⟩
theorem pK(h:yg b)(k:(xq b).depth<=1):VB (a+1) b:=⟨h,eJ k<|s4<|Nat.zero_le a⟩
theorem CA(h:SB A s)(c:t8 L s=some T):SB (A+1) T:=by
 have u:=h.1.up<|Nat.le_succ<|A+1;have e:=h.2.up<|Nat.le_succ<|A+4;have B:∀{d:D},d.depth<=A+5->DB (A+5) (s.2++[d]):=λk=>e.add k;induction L using Op.casesOn with
 |hD r d=>refine oM c ?_;clear c;rintro y _ rfl;exact⟨u.put<|pK z<|ct 1,e⟩
 |fS r g=>cases c;exact⟨u.put<|pK z<|ct 1,e⟩
 |set w g a=>refine oM c ?_;clear c;rintro v q rfl;exact⟨u,B<|eJ (LI<|fM h.1 q)<|r_ m _⟩
 |bt r n a b=>refine oB c λv q c=>?_;refine oM c ?_;clear c;rintro w i rfl;exact⟨u.put<|OC (fM h.1 q)<|fM h.1 i,e⟩
 |fix p q a=>have f:=(h.1.put (r:=p) (v:=bI s.2.length 1)<|pK z<|ct 1).put (r:=q) (v:=bI s.2.length 2)<|pK z<|ct 1;refine oB c λv j c=>oB c λo l c=>?_;refine oM c ?_;clear c;rintro x t rfl;exact⟨f.up<|Nat.le_succ _,B<|eJ (LJ (f _ _ l) (fM f j)<|f _ _ t)<|r_ m _⟩
 |ay r n a b=>
  refine oB c λv q c=>?_;refine oM c ?_;clear c;rintro w i rfl;refine⟨?_,B<|eJ (HT (fM h.1 q)<|fM h.1 i)<|r_ m _⟩;induction r using qG with
  |none=>exact u
  |some r=>exact u.put<|pK z<|ct 1
theorem rI:∀{g:List Op}{m:Nat}{s a:AH},SB m s->gT g s=some a->SB (m+g.length) a:=λ{e}=>by
 induction e with
 |nil=>intro _ _ _ h c;cases c;exact h
 |cons o g f=>intro m s a h c;refine oB c λt b d=>?_;clear c;have:=f (CA h b) d;rw[jM,show m+(g.length+1)=m+1+g.length by exact ng (aG 0x11c001d06d0a1c101d001d0a1 z)<|aG 0x1c101d001d0a11c001d06d0a1 z];exact this
def On(a:List Nat)(e:Env):Prop:=∀r∈a,∃v,e r=some v
theorem On.put(h:On ks e):On ks<|e.put r v:=λx m=>by
 by_cases z:x=r;·subst z;exact⟨v,cP ..⟩
 ·exact(b4 _ _ z)▸h x m
theorem On.app{e:Env}(c:On a e)(d:On b e):On (a++b) e:=λr m=>(mx.mp m).elim (c r)<|d r
theorem gj(h:On a e)(k:g.ok a):∃v,dU e g=some v:=by
 induction g using Ag.casesOn with
 |hD d=>obtain⟨y,e⟩:=pC k;exact⟨cV y,by show(ec d).map cV=_;rw[e];rfl⟩
 |free i=>exact⟨_,z⟩
 |bL s=>exact h s k
theorem LK{s:AH}(h:On A s.1)(k:L.ok A):∃t,t8 L s=some t/\On (A++L.news) t.1:=by
 have B:∀{e:Env}{r:Nat}{v:V},On [r] (e.put r v):=λ{e r v} x m=>⟨v,by rw[eL.mp m,cP]⟩;induction L using Op.casesOn with
 |hD r d=>obtain⟨y,e⟩:=pC k;exact(a_ (s.1.put r<|cV y,s.2) (by show(ec d).map _=_;rw[e];rfl)<|h.put.app B)
 |fS r g=>exact(a_ (s.1.put r<|gV g,s.2) z<|h.put.app B)
 |set w g a=>obtain⟨v,e⟩:=gj h k.2.2.2;exact(a_ (s.1,s.2++[Ky w g v]) (by show(dU s.1 a).map _=_;rw[e];rfl)<|h.app<|rW _)
 |bt r n a b=>obtain⟨v,e⟩:=gj h k.2.2.1;obtain⟨w,f⟩:=gj h k.2.2.2;exact(a_ (s.1.put r<|vG n [v,w],s.2) (by show(dU s.1 a).bind _=_;rw[e];show(dU s.1 b).map _=_;rw[f];rfl)<|h.put.app B)
 |fix p l a=>have i:=(h.put (r:=p) (v:=bI s.2.length 1)).put (r:=l) (v:=bI s.2.length 2);have j:On [p]<|(s.1.put p<|bI s.2.length 1).put l<|bI s.2.length 2:=B.put;obtain⟨v,e⟩:=gj i k;obtain⟨o,u⟩:=j p q;refine(a_ ((s.1.put p<|bI s.2.length 1).put l<|bI s.2.length 2,s.2++[Ci [[bI s.2.length 2,v],[o]]]) ?_<|i.app<|j.app (a:=[p]) (b:=[l]) B);show(dU _ a).bind _=_;rw[e];show(_:Option V).bind _=_;rw[cP];show(_:Option V).map _=_;rw[u];rfl
 |ay r n a b=>
  obtain⟨v,e⟩:=gj h k.2.2.1;obtain⟨w,f⟩:=gj h k.2.2.2;have c:∀C:Env,(dU s.1 a).bind (λv=>(dU s.1 b).map λw=>(C,s.2++[xR n [v,w]]))=some (C,s.2++[xR n [v,w]]):=λC=>by rw[e];rw[f];rfl
  clear k;induction r using qG with
  |none=>exact(a_ _ (c s.1)<|h.app<|rW _)
  |some r=>exact(a_ _ (c<|s.1.put r<|yL s.2.length)<|h.put.app B)
theorem rJ:∀{l:List Op}{a:List Nat}{b:Nat}{s:AH},On a s.1->ic a b l->∃c,gT l s=some c/\On (a++aw l) c.1:=λ{f}=>by
 induction f with
 |nil=>intro _ _ s h _;exact(a_ s z<|h.app<|rW _)
 |cons o l j=>intro a b s h k;refine bS (LK h k.1) λt d g=>bS (j g k.2.2) λc e i=>?_;exact(a_ c (by show(t8 o s).bind _=_;rw[d];exact e)<|by rw[nq,<-lX];exact i)
def WK(M:List Nat)(O:cK):Prop:=∀a b p,(M.getD a 0).testBit b->a≠b->O.lookup a=some p->O.lookup b≠some p
def yN(m:Nat)(O:cK)(X:List Nat)(e a:Env):Prop:=∀r p v,m.testBit r->r∉X->O.lookup r=some p->e r=some v->a p=some v
theorem yN.put{M X:List Nat}{e f:Env}(h:yN s n (r::X) e f)(i:WK M n)(a:∀b,s.testBit b->b≠r->(M.getD r 0).testBit b)(l:n.lookup r=some A):yN s n X (e.put r v)<|f.put A v:=λq x w g m d c=>by
 by_cases z:q=r;·clear h a;subst z;rw[l] at d;cases d;rw[cP] at c⊢;exact c
 ·rw[b4 _ _ z] at c;haveI k:q∉r::X:=λs=>(ew.mp s).elim z m;haveI j:x≠A:=λy=>i r q A (a q g z) (λy=>z y.symm) l<|y▸d;rw[b4 _ _ j];exact h q x w g k d c
theorem jU.lk(i:jU a r):a.lookup r=some (Ms a r):=by refine oE i λp e=>?_;unfold Ms;rw[e];rfl
theorem yN.at(h:yN g c [] e a)(i:jU c r)(b:g.testBit r)(q:e r=some j):a (Ms c r)=some j:=h r _ j b nofun i.lk q
theorem wt:∀{l:List Nat}{a:List V},(∀r∈l,∀v,e r=some v->s (Ms n r)=some v)->cu e l=some a->cu s (l.map<|Ms n)=some a:=λ{c}=>by
 induction c with
 |nil=>intro _ _ k;exact k
 |cons r l d=>intro a h k;refine oB k λv f b=>?_;clear k;refine oM b λj g i=>?_;clear b;subst i;show(s<|Ms n r).bind _=_;rw[h r q v f];rw[d (λr m=>h r<|N m) g];rfl
theorem EF(h:(hK c a).testBit r)(n:r∉c.writes):(mY c a).testBit r:=by
 unfold mY;rw[Nat.testBit_or,u0,jO,jO,List.contains_eq_mem,decide_eq_false n,Bool.not_false,Bool.and_true,Bool.or_eq_true];haveI k:∀{a:Nat},(a|||No c.writes).testBit r->a.testBit r:=λ{a} z=>by rw[Nat.testBit_or,jO,List.contains_eq_mem,decide_eq_false n,Bool.or_false] at z;exact z
 clear n;induction c using cL.casesOn with
 |fix b=>haveI h:((a|||No (cL.fix b).writes)|||No (cL.fix b).reads).testBit r:=h;rw[Nat.testBit_or,Bool.or_eq_true,jO] at h;exact h.imp k id
 |_=>exact .inl<|k h
theorem LL(h:a.testBit r):(hK e a).testBit r:=by
 have k:∀{b:Nat},(a|||b).testBit r:=λ{b}=>by rw[Nat.testBit_or,h];rfl
 induction e using cL.casesOn with
 |fix c=>show((a|||_)|||_).testBit r=true;rw[Nat.testBit_or,k];rfl
 |_=>exact k
theorem yh{a r:Nat}(h:r∈c.writes):(hK c a).testBit r:=by
 haveI k:(a|||No c.writes).testBit r:=by rw[Nat.testBit_or,jO,List.contains_iff_mem.mpr h,Bool.or_true]
 clear h;induction c using cL.casesOn with
 |fix b=>show((a|||_)|||_).testBit r=true;rw[Nat.testBit_or,k];rfl
 |_=>exact k
theorem OD(h:r∈b.reads):(mY b a).testBit r:=by unfold mY;rw[Nat.testBit_or,jO,List.contains_iff_mem.mpr h,Bool.or_true]
section
variable{Y:List Nat}{L:cK}{C:List V}{T:List Int}
theorem YE(b:cu ((e.put g<|bI i.length 1).put h<|bI i.length 2) [h,x]=some j)(c:cu ((e.put g<|bI i.length 1).put h<|bI i.length 2) [g]=some w):
 oC C T (.fix [(g,1,[h,x]),(h,2,[g])]) (e,i)=some ((e.put g<|bI i.length 1).put h<|bI i.length 2,i++[Ci [j,w]]):=by
 show Option.map (λa=>((e.put g<|bI i.length 1).put h<|bI i.length 2,i++[Ci a])) ((cu ((e.put g<|bI i.length 1).put h<|bI i.length 2) [h,x]).bind λj=>((cu ((e.put g<|bI i.length 1).put h<|bI i.length 2) [g]).bind λw=>(some []).map (w:: ·)).map (j:: ·))=_;rw[b,c];rfl
theorem OE(K:WK Y L)(l:z5 Y a2.writes<|hK a2 a)(o:a2.nice)(j:∀r∈a2.bu,jU L r)(h:yN (mY a2 a) L [] e a1)(c:oC C T a2 (e,a3)=some s1):
 ∃Q,oC C T (a2.re<|Ms L) (a1,a3)=some (Q,s1.2)/\yN a L [] s1.1 Q:=by
 haveI b:∀{e a1:Env},yN (hK a2 a) L [] e a1->yN a L [] e a1:=λk r p v O P=>k r p v (LL O) P;haveI M:∀X:List Nat,(∀r∈a2.writes,r∈X)->yN (hK a2 a) L X e a1:=λX hX r p v O P ep I=>h r p v (EF O λm=>P<|hX r m) nofun ep I;haveI G:∀{r:Nat}{v:V},a2.writes=[r]->jU L r->yN a L [] (e.put r v) (a1.put (Ms L r) v):=λ{r v} B ir=>b<|(M [r]<|B▸λ_ m=>m).put K (l r<|B▸.head _) ir.lk;haveI J:∀r∈a2.reads,∀v,e r=some v->a1 (Ms L r)=some v:=λr m v D=>h.at (j r<|(ig a2).1 r m) (OD m) D;induction a2 using cL.casesOn with
 |zy r s=>exact o.elim
 |cst r k=>refine oB c λd i u=>?_;clear c;refine oM u ?_;clear u;rintro y A rfl;exact(a_ _ (by show(C[k]?).bind _=_;rw[i];show(ec d).map _=_;rw[A];rfl)<|G z<|j r q)
 |Fm r k=>refine oM c ?_;clear c;rintro g i rfl;exact(a_ _ (by show(T[k]?).map _=_;rw[i];rfl)<|G z<|j r q)
 |iH r n=>cases c;exact(a_ _ z<|G z<|j r q)
 |set w k s=>refine oB c λg i u=>?_;clear c;refine oM u ?_;clear u;rintro v A rfl;exact(a_ _ (by show(T[k]?).bind _=_;rw[i];show(a1<|Ms L s).map _=_;rw[J s q v A];rfl)<|b<|M []<|rW _)
 |yK r n F=>refine oM c ?_;clear c;rintro vs i rfl;exact(a_ _ (by show(cu a1<|F.map<|Ms L).map _=_;rw[wt (l:=F) J i];rfl)<|G z<|j r q)
 |A5 r n F=>refine oM c ?_;clear c;rintro vs i rfl;exact(a_ _ (by show(cu a1<|F.map<|Ms L).map _=_;rw[wt (l:=F) J i];rfl)<|G z<|j r q)
 |fix S=>
  refine MB o ?_;clear o G J;rintro p D x rfl;refine oM c ?_;clear c;rintro RH i rfl;haveI Z:=j p q;haveI R:=j D<|N q;haveI ix:=j x<|N<|N q;have H:yN (hK (.fix [(p,1,[D,x]),(D,2,[p])]) a) L [] ((e.put p<|bI a3.length 1).put D<|bI a3.length 2)<|(a1.put (Ms L p)<|bI a3.length 1).put (Ms L D)<|bI a3.length 2:=
   ((M [p,D] λ_ m=>m).put K (l p q) Z.lk).put K (l D<|N q) R.lk
  haveI t:(hK (.fix [(p,1,[D,x]),(D,2,[p])]) a).testBit p:=yh q;haveI bq:(hK (.fix [(p,1,[D,x]),(D,2,[p])]) a).testBit D:=yh<|N q;have bx:(hK (.fix [(p,1,[D,x]),(D,2,[p])]) a).testBit x:=by
   by_cases E:x∈[p,D];·exact yh E
   ·show((_|||_)|||No _).testBit x=true;rw[Nat.testBit_or,jO,Bool.or_eq_true];refine .inr<|List.contains_iff_mem.mpr<|List.mem_flatMap.mpr<|a_ (p,1,[D,x]) q<|List.mem_filter.mpr ⟨N q,?_⟩;rw[List.contains_eq_mem,decide_eq_false<|show x∉[(p,(1:Int),[D,x]),(D,2,[p])].map (·.1) from E];rfl
  refine oB i λv1 u A=>?_;clear i;refine oM A λv2 U c5=>?_;clear A;refine oB U λv3 W f=>?_;clear U;refine(a_ _ ?_<|b H);haveI q1:=wt (n:=L) (s:=(a1.put (Ms L p)<|bI a3.length 1).put (Ms L D)<|bI a3.length 2) (l:=[D,x]) (λr m v I=>?_) u;·haveI q2:=wt (n:=L) (s:=(a1.put (Ms L p)<|bI a3.length 1).put (Ms L D)<|bI a3.length 2) (l:=[p]) (λr m v I=>by rw[eL.mp m] at I⊢;exact H.at Z t I) W;refine oM f λv4 c8 c9=>?_;clear f;cases c8;rw[<-c5,<-c9];exact YE q1 q2
  ·clear t u W f b j l M;refine db (ew.mp m) ?_ ?_;·rintro rfl;exact H.at R bq I
   ·intro m;rw[eL.mp m] at I⊢;exact H.at ix bx I
theorem LN(g:WK Y L):∀{y:List cL}{e a:Env}{t:List D}{s1:AH},kX Y y (pI y A)->(∀o∈y,o.nice/\∀r∈o.bu,jU L r)->yN (KS y A) L [] e a->fX C T y (e,t)=some s1->
 ∃d,fX C T (y.map λo=>o.re<|Ms L) (a,t)=some (d,s1.2)/\yN A L [] s1.1 d:=λ{k}=>by
 induction k with
 |nil=>intro e a t s1 _ _ h c;cases c;exact(a_ a z h)
 |cons o y v=>intro e a t s1 b f h c;refine kf λx m=>?_;refine oB c λw i j=>?_;clear c;refine bS (OE g b.1 (f o q).1 (f o q).2 h i) λp l u=>bS (v b.2 (λo A=>f o<|N A) u (s1:=s1) (t:=w.2) j) λd n s=>?_;refine m ?_;exact(a_ d (by show(oC C T _ _).bind _=_;rw[l];exact n) s)
end
def HU(O:cK)(a:List cL):List cL:=a.map λo=>o.re<|Ms O
noncomputable def AS(F:cK):List cL:=F.map λx=>.zy x.1 x.2
section
variable{C:List V}{T:List Int}
theorem lG(h:e s=some b):fX C T (.zy r s::os) (e,a)=fX C T os (e.put r b,a):=by show((e s).map λb=>(e.put r b,a)).bind _=_;rw[h];rfl
theorem OF{e:Env}{t:List D}{p q:V}(j:h≠g)(r:h≠c)(s:g≠c)(v:a≠c)(f:e a=some p)(i:e b=some q):
 ∃l,fX C T (AS<|zE h g a b c) (e,t)=some (l,t)/\l h=some p/\l g=some q/\∀x,x≠h->x≠g->x≠c->l x=e x:=by
 unfold zE td;by_cases k:h=a
 ·rw[if_pos k];by_cases d:g=b;·rw[if_pos d];exact(rV e z (k▸f) (d▸i) λ_ _ _ _=>rfl)
  ·rw[if_neg d];exact(rV _ (lG i) ((b4 _ _ j).trans<|k▸f) (cP ..) λx _ y _=>b4 _ _ y)
 ·rw[if_neg k];by_cases d:g=b;·rw[if_pos d];exact(rV _ (lG f) (cP ..) ((b4 _ _ j.symm).trans<|d▸i) λx w _ _=>b4 _ _ w)
  ·rw[if_neg d];by_cases m:b=h
   ·rw[if_pos m];by_cases o:a=g;·rw[if_pos o];clear k d;subst m o;refine(rV _ ((lG i).trans<|(lG<|(b4 _ _ s).trans f).trans<|lG<|(b4 _ _ r.symm).trans<|cP ..) ((b4 _ _ j).trans<|cP ..) (cP ..) λx w y u=>(b4 _ _ y).trans<|(b4 _ _ w).trans<|b4 _ _ u)
    ·rw[if_neg o];exact(rV _ ((lG i).trans<|lG<|(b4 _ _ o).trans f) (cP ..) ((b4 _ _ j.symm).trans<|cP ..) λx w y _=>(b4 _ _ w).trans<|b4 _ _ y)
   ·rw[if_neg m];exact(rV _ ((lG f).trans<|lG<|(b4 _ _ m).trans i) ((b4 _ _ j).trans<|cP ..) (cP ..) λx w y _=>(b4 _ _ y).trans<|b4 _ _ w)
theorem Sj(m:x∈a)(e:x.1=c):vZ a c:=by unfold vZ;rw[List.any_eq_true];exact(a_ true (List.mem_map.mpr<|a_ x m<|beq_iff_eq.mpr e) z)
theorem LO{d b i j c:Nat}(f:d<c)(g:b<c):∀o∈AS (zE d b i j c),∀r∈o.writes,r<c+(vZ (zE d b i j c) c).toNat:=λo m r e=>by
 refine bS (List.mem_map.mp m) ?_;rintro x a rfl;rw[eL.mp e];by_cases h:x.1=c;·rw[Sj a h,h];exact Nat.lt_succ_self c
 ·have:x.1=d\/x.1=b\/x.1=c:=by
   unfold zE td at a;split at a
   ·split at a;·cases a
    ·exact(eL.mp a)▸.inr (.inl z)
   ·split at a;·exact(eL.mp a)▸.inl z
    ·split at a
     ·split at a
      ·simp only[ew,i3,or_false] at a;clear e h;rcases a with rfl|rfl|rfl
       ·exact .inr<|.inr z
       ·exact .inl z
       ·exact .inr<|.inl z
      ·simp only[ew,i3,or_false] at a;clear e h;refine db a ?_ ?_;·clear a;rintro rfl;exact .inr<|.inl z
       ·clear a;rintro rfl;exact .inl z
     ·simp only[ew,i3,or_false] at a;clear e h;refine db a ?_ ?_;·clear a;rintro rfl;exact .inl z
      ·clear a;rintro rfl;exact .inr<|.inl z
  lia
theorem FJ:∀{d:List Nat}{m:Nat},m.testBit r->(d.foldl (pH e c) m).testBit r:=λ{a}=>by
 induction a with
 |nil=>intro _ h;exact h
 |cons i d b=>intro m h;exact b (by show(m|||_).testBit r=true;rw[Nat.testBit_or,h];rfl)
theorem oK(h:r∈c.en.reads):(I5 b a c).testBit r:=FJ (by rw[jO];exact List.contains_iff_mem.mpr h)
theorem HV(e:(c.getD i 0).testBit r)(f:r∉KR n i):∀{a:List Nat}{m:Nat},i∈a->(a.foldl (pH n c) m).testBit r:=λ{d}=>by
 induction d with
 |nil=>intro k b;exact absurd b i3
 |cons j a g=>
  intro m h;rcases ew.mp h with rfl|h
  ·refine FJ (d:=a) ?_;show(m|||_).testBit r=true;rw[Nat.testBit_or,u0,jO,e,List.contains_eq_mem,decide_eq_false f];exact Bool.or_true _
  ·exact g h
theorem vc(h:i∈g.en.e6)(b:(a.getD i 0).testBit r)(c:r∉KR e i):(I5 e a g).testBit r:=HV b c h
theorem PT.at(f:PT b a){y:LB}(e:b[i]?=some y):a.getD i 0=KS y.ao (I5 b a y):=by rw[wS,f.2 i y e];rfl
variable{S n:Nat}{Y:List Nat}{A:cK}
theorem wu{x:s7}{y:LB}{m:Nat}{J e f:Env}{t:List D}{b:AH}(o:xW S C T n x y)(i:gT x.os (J,t)=some b)(L:Le S J e)(h:WK Y A)(c:kX Y y.ao<|pI y.ao m)(l:∀a1∈y.ao,a1.nice/\∀r∈a1.bu,jU A r)(g:yN (KS y.ao m) A [] e f):
 ∃P B a,k_ P x.la y.en/\fX C T (HU A y.ao) (f,t)=some (a,b.2)/\Le S b.1 B/\yN m A [] B a/\∀z∈P,∀v,dU b.1 z.1=some v->B z.2=some v:=by
 refine kf λH k=>?_;obtain⟨F,K,P,d,j⟩:=o.ex;refine qF (d.run C T (sj C) (sj T) _ _ i e L) λB s u _ _ w=>bS (LN h c l g s) λa p q=>?_;exact k<|⟨P,B,a,j,p,u,q,w⟩
end
def P6(i:Nat):V:=.aF [.str .WR,.int i]
def uc(U:Un):Env:=λr=>if r<U.ah then some (P6 r) else none
def uj(v:V):D:=.aF [.str .test,xq v]
def cL.Sk(o:cL):Prop:=o.nice\/∃r s,o=.zy r s
theorem OG{o:cL}(h:o.nice):(o.re c).nice:=by
 induction o using cL.casesOn with
 |yK r n e=>refine vP h ?_;clear h;rintro a b rfl;exact(H3 _ _ z)
 |A5 r n e=>refine vP h ?_;clear h;rintro a b rfl;exact(H3 _ _ z)
 |fix g=>refine MB h ?_;clear h;rintro p q a rfl;exact(MC _ _ _ z)
 |_=>exact h
theorem HW(o:cL):(o.re b).writes=o.writes.map b:=by
 induction o using cL.casesOn with
 |fix a=>show((a.map λx=>(b x.1,x.2.1,x.2.2.map b)).map (·.1))=(a.map (·.1)).map b;rw[List.map_map,List.map_map];rfl
 |_=>rfl
def t7(m:Nat)(a:List cL):Prop:=∀o∈a,o.Sk/\∀r∈o.writes,r<m
theorem t7.app(e:t7 c a)(f:t7 c b):t7 c<|a++b:=λo h=>(mx.mp h).elim (e o)<|f o
theorem t7.up(b:t7 c a)(h:c<=e):t7 e a:=λo k=>⟨(b o k).1,λr q=>ci ((b o k).2 r q) h⟩
theorem LP{c:Nat}(d:∀r j,g.lookup r=some j->j<c)(h:∀i∈os,i.nice/\∀r∈i.bu,jU g r):t7 c<|HU g os:=λi m=>by refine bS (List.mem_map.mp m) ?_;clear m;rintro i b rfl;refine⟨.inl<|OG (h i b).1,λr a=>?_⟩;rw[HW] at a;refine bS (List.mem_map.mp a) ?_;clear a;rintro q e rfl;exact d q _ ((h i b).2 q ((ig i).2 q e)).lk
inductive Sm(C:List V)(a:List Int)(h0 e0:Env)(T:List D)(b:s7)(a1 a2:Ag)(os:List cL)(b3:s7)(s t:Nat)(f k x c:Ag)(os3:List cL)(pf pk px py:Nat):Prop
 |mk (h1:_) (T1:_) (va:_) (vb:_) (Kv:_) (h3:_) (T3:_) (vf:_) (vk:_) (vx:_) (vy:_) (Kx:_) (w0:gT b.os (h0,T)=some (h1,T1)) (w1:dU h1 a1=some va) (w2:dU h1 a2=some vb) (w3:fX C a os (e0,T)=some (Kv,T1)) (w4:gT b3.os ((h1.put s va).put t vb,T1)=some (h3,T3)) (w5:dU h3 f=some vf) (w6:dU h3 k=some vk) (w7:dU h3 x=some vx) (w8:dU h3 c=some vy) (w9:fX C a os3 (Kv,T1)=some (Kx,T3)) (w10:Kx pf=some vf) (w11:Kx pk=some vk) (w12:Kx px=some vx) (w13:Kx py=some vy)
section
variable{C:List V}{g:List Int}{L:Un}{n c u:Nat}{d:List LB}{i:cK}{Y l:List Nat}{j:List V}
theorem LQ(S:Nat):Le S (uc L)<|uc L:=λ_ _ _ h=>h
theorem FK(a:PO L.dH d Y i c):yN b i [] (uc L)<|uc L:=λr p v _ _ e q=>by
 unfold uc at q;split at q;·rename_i z;rw[a.en r r<|yd z] at e;cases e;show(if r<L.ah then _ else _)=_;rw[if_pos z];exact q
 ·cases q
theorem FL(a:xz C g L n d i c Y l u j){B:List Nat}{a1 a2 f k x y:Ag}{M e e0:Env}{T:List D}(ey:d[a4]?=some a3)(J:d[3]?=some a5)(sw:xW L.az C g n xw a3)(s3:xW L.az C g n b3 a5)
 (kw:BK L.az B xw)(t:BK L.az (B++[s,a6]) b3)(lw:xw.la=.dj a1 a2)(l3:b3.la=.call f x y k)(Q:a3.en=.dj ra rb)(n3:a5.en=.call rf rk rx ry)(A:a5.ps=[s,a6])(le:Le L.az M e)(ag:yN (l.getD a4 0) i [] e e0)(on:On B M):
 Sm C g M e0 T xw a1 a2 (HU i a3.ao++AS (zE (Ms i s) (Ms i a6) (Ms i ra) (Ms i rb) c)) b3 s a6 f k x y (HU i a5.ao) (Ms i rf) (Ms i rk) (Ms i rx)<|Ms i ry:=by
 haveI my:=List.mem_of_getElem? ey;haveI m3:=List.mem_of_getElem? J;refine kf λK b=>bS kw.ex λz1 o1 _=>?_;refine bS t.ex λz3 Z _=>?_;haveI YG:=a.cg.en a3 my;rw[Q] at YG;haveI Z0:=a.cg.en a5 m3;rw[n3] at Z0;haveI ia:=YG ra q;haveI ib:=YG rb<|N q;refine oU (a.cg.ps a5 m3 s a6 A) λX it st tc=>b ?_;haveI a7:=λ{r:Nat}(h:jU i r)=>a.po.lt r _ h.lk
 --Wt ab
 refine kf λK b=>?_;refine bS (rJ (s:=(M,T)) on o1) ?_;rintro⟨h1,T1⟩ c1 YH;haveI YI:=a.af.bl a4 a3 ey;rw[a.fx.at ey] at ag;refine tH (wu sw c1 le a.po.ap YI.ao (a.cg.ao a3 my) ag) λP g1 Sn eo r1 VK OH pv=>?_;rw[lw,Q] at eo;refine jn eo.LF λ_ _ ee qa qb=>b ?_;cases ee;haveI la:=kw.la;rw[lw] at la;refine kf λK b=>oE (gj YH la.1) λF VL=>?_;refine oE (gj YH la.2) λH Si=>b ?_;haveI ha:=OH.at ia (oK<|Q▸.head _)<|pv _ qa F VL;haveI hb:=OH.at ib (oK<|Q▸N q) (pv _ qb H Si)
 --Wt moves
 refine kf λK b=>?_;obtain⟨Z1,S,w1,w2,w3⟩:=OF (C:=C) (T:=g) (t:=T1) st (Nat.ne_of_lt<|a7 X) (Nat.ne_of_lt<|a7 it) (Nat.ne_of_lt<|a7 ia) ha hb;refine b ?_;haveI VM:=a.af.bl 3 a5 J;have YJ:yN (l.getD 3 0) i [] ((g1.put s F).put a6 H) Z1:=λr p v hr _ w I=>by
  have VN:∀G∈[s,a6],r≠G->jU i G->p≠Ms i G:=λG mq ne iq z=>by have:=VM.ps G (A▸mq) r (by rw[Nat.testBit_or,hr,Bool.or_true]) ne;exact a.po.ap G r _ this ne.symm iq.lk (by rw[w,z])
  by_cases R:r=a6;·clear b t Z A S st tc w3;subst R;rw[cP] at I;cases I;rw[it.lk] at w;cases w;exact w2
  ·rw[b4 _ _ R] at I;by_cases O:r=s;·clear b t Z A S st w3;subst O;rw[cP] at I;cases I;rw[X.lk] at w;cases w;exact w1
   ·rw[b4 _ _ O] at I;rw[w3 p (VN s q O X) (VN a6 (N q) R it)<|Nat.ne_of_lt<|a.po.lt r p w];refine OH r p v (vc (i:=3) (Q▸.head _) hr ?_) nofun w I;show r∉(d[3]?).elim [] (·.ps);rw[J];show r∉a5.ps;rw[A];intro m;simp only[ew,i3,or_false] at m;exact m.elim O R
 --Wt last ab
 have on2:On (B++[s,a6])<|(h1.put s F).put a6 H:=(On.put<|On.put λr m=>YH r<|ll _ m).app λr m=>by
  clear YJ b X t Z A S st w1 w3;refine db (ew.mp m) ?_ ?_;·rintro rfl;exact(On.put (ks:=[r]) λG mq=>by rw[eL.mp mq];exact⟨F,cP ..⟩) r q
  ·intro m;exact(eL.mp m)▸⟨H,cP ..⟩
 refine kf λK b=>?_;refine bS (rJ (s:=((h1.put s F).put a6 H,T1)) on2 Z) ?_;rintro⟨h3,T3⟩ c3 W;rw[a.fx.at J] at YJ;refine tH (wu s3 c3 VK.put.put a.po.ap VM.ao (a.cg.ao a5 m3) YJ) λP3 g3 Z2 Z3 r3 le3 ag3 pv3=>?_;rw[l3,n3] at Z3;refine ri Z3.P5 λ_ _ _ _ ee qf qx qy qk=>b ?_;cases ee;haveI o:=t.la;rw[l3] at o;refine kf λK b=>oE (gj W o.1) λvf Z4=>?_;refine oE (gj W o.2.1) λvx Z5=>oE (gj W o.2.2.1) λvy Z6=>?_;refine oE (gj W o.2.2.2) λvk VO=>b ?_;haveI U:∀{r:Nat}{v:V}{E:Ag},r∈[rf,rk,rx,ry]->(E,r)∈P3->dU h3 E=some v->Z2 (Ms i r)=some v:=λ{r v E} m mp av=>ag3.at (Z0 r m) (oK<|n3▸m)<|pv3 _ mp v av;exact⟨h1,T1,F,H,Z1,h3,T3,vf,vk,vx,vy,Z2,c1,VL,Si,by rw[s8,r1];exact S,c3,Z4,VO,Z5,Z6,r3,U q qf Z4,U (N q) qk VO,U (N<|N q) qx Z5,U (N<|N<|N q) qy Z6⟩
end
def LR(k a b:Nat):V:=.aF [.str .cU,.int k,.aF<|G [a,b]]
def tz(f k a b:Nat):V:=.aF [.str .call,.int f,.int k,.aF<|G [a,b]]
def Mw(r:Nat)(l:Int):V:=.aF [.str .fE,.int r,.int l]
inductive So(C:List V)(g:List Int)(c:Un)(j:Nat)(d:List V):Prop
 |one {b0:s7} {a b k:Ag} {os:List cL} {Mn pa pb:Nat} (e:c.mO=[b0]) (l0:b0.la=.cU a b k) (cd:d=os.map cL.v++[LR Mn pa pb]) (ao:t7 j os) (mI:os.length<=12) (n0:b0.os.length<=2)
  (r:∃h0 T va vb vk e0,gT b0.os (uc c,[])=some (h0,T)/\dU h0 a=some va/\dU h0 b=some vb/\dU h0 k=some vk/\fX C g os (uc c,[])=some (e0,T)/\e0 Mn=some vk/\e0 pa=some va/\e0 pb=some vb)
 |four {b0 b1 b2 b3:s7} {a a1 Vn a2 Vo f x h k:Ag} {s t:Nat} {os0 os1 os2 os3:List cL} {r pf Mn px py L2 L3:Nat} (e:c.mO=[b0,b1,b2,b3]) (p3:b3.ps=[s,t]) (l0:b0.la=.iff a) (l1:b1.la=.dj a1 Vn) (l2:b2.la=.dj a2 Vo) (l3:b3.la=.call f x h k)
  (cd:d=os0.map cL.v++Mw r L2::(os1.map cL.v++(os3.map cL.v++tz pf Mn px py::(os2.map cL.v++[P2 L3])))) (Kx:L3=os0.length+1+os1.length) (Kw:L2=L3+(os3.length+1))
  (ao:t7 j os0/\t7 j os1/\t7 j os2/\t7 j os3) (mI:os0.length<=12/\os1.length<=21/\os2.length<=21/\os3.length<=12) (n:b0.os.length<=2/\b1.os.length<=2/\b2.os.length<=2/\b3.os.length<=2)
  (r:∃h0 T v0 e0,gT b0.os (uc c,[])=some (h0,T)/\dU h0 a=some v0/\fX C g os0 (uc c,[])=some (e0,T)/\e0 r=some v0/\Sm C g h0 e0 (T++[uj v0]) b1 a1 Vn os1 b3 s t f k x h os3 pf Mn px py/\Sm C g h0 e0 (T++[uj v0]) b2 a2 Vo os2 b3 s t f k x h os3 pf Mn px py)
theorem CB(O:cK)(a:List cL):pV O a=(HU O a).map cL.v:=by unfold pV HU;rw[List.map_map];rfl
theorem CC(F:cK):F.map rP=(AS F).map cL.v:=by unfold AS;refine(bp List.map_map)▸?_;rfl
theorem nu(O:cK)(a:List cL):(HU O a).length=a.length:=fZ _
section
variable{C:List V}{h:List Int}{f:Un}{n c j:Nat}{w:List LB}{x:cK}{g u:List Nat}{d:List V}
theorem LU:On (List.range f.ah)<|uc f:=λr m=>⟨P6 r,if_pos<|List.mem_range.mp m⟩
theorem EZ(i:xz C h f n w x c g u j d)(uk:UK f):So C h f j d/\f.ah<=j:=by
 have le:f.ah<=f.dH.length:=by
  unfold Un.ah Un.dH;refine(bp eR)▸(bp List.length_range)▸?_;cases f.rest with
  |true=>exact ct _
  |false=>exact ox _ _
 haveI lc:=eJ le i.po.ge;haveI A:=i.ui;cases hc:i.code with
 |@one y rk ra rb hy=>
  refine⟨?_,lc⟩;cases uk with
  |@one b0 a b k e p0 l0 W=>rw[e] at A;refine kf λZ l=>bS W.ex λz0 o0 _=>?_;refine bS (rJ (s:=(uc f,[])) LU o0) ?_;rintro⟨R,T⟩ U Q;haveI Sr:=i.af.bl 0 y z;refine tH (wu A.1 U (LQ _) i.po.ap Sr.ao (i.cg.ao y q)<|FK i.po) λP g1 Y eo r1 VK S pv=>?_;rw[l0,hy] at eo;refine dB eo.P4 λ_ _ _ ee qa qb qk=>l ?_;cases ee;haveI en:=i.cg.en y q;rw[hy] at en;haveI X:=W.la;rw[l0] at X;refine kf λZ l=>oE (gj Q X.1) λva VL=>?_;refine oE (gj Q X.2.1) λvb Si=>oE (gj Q X.2.2) λvk VO=>?_;refine l ?_;haveI rd:∀{r:Nat}{v:V}{E:Ag},r∈[rk,ra,rb]->(E,r)∈P->dU R E=some v->Y (Ms x r)=some v:=λ{r v E} m mp av=>S.at (en r m) (oK<|hy▸m)<|pv _ mp v av;exact .one (os:=HU x y.ao) e l0 (by rw[CB];rfl) (LP i.po.lt<|i.cg.ao y q) (by rw[nu];exact i.yf.len y q) W.len ⟨R,T,va,vb,vk,Y,U,VL,Si,VO,r1,rd q qk VO,rd (N q) qa VL,rd (N<|N q) qb Si⟩
  |four e=>rw[e] at A;exact A.2.elim
 |@four O H J K r Z7 Mv Z8 S2 rf rk rx ry s t L B L2 L3 R h1 h2 h3 p3 f1 f2 l3 l2=>
  refine⟨?_,Nat.le_add_right_of_le lc⟩;cases uk with
  |one e=>rw[e] at A;exact A.2.elim
  |@four b0 b1 b2 b3 a a1 Vn a2 Vo D M y k s' t' e p0 p1 p2 Z9 st q0 q1 q2 q3 W k1 k2 k3=>
   rw[e] at A;refine kf λZ l=>?_;refine EO A λw0 w1 w2 w3 _=>?_;clear A;refine l ?_;have es:s'=s/\t'=t:=by
    have:=w3.ps.symm.trans p3;rw[Z9] at this;injection this with Kv Kw
    injection Kw with Kw _
    exact⟨Kv,Kw⟩
   refine kf λZ l=>?_;refine oA es ?_;clear es hc;rintro rfl rfl;haveI m0:O∈[O,H,J,K]:=.head _;haveI m1:H∈[O,H,J,K]:=N q;haveI m2:J∈[O,H,J,K]:=N<|N q;haveI m3:K∈[O,H,J,K]:=N<|N<|N q;refine bS W.ex λz0 o0 _=>?_;refine bS (rJ (s:=(uc f,[])) LU o0) ?_;rintro⟨g0,T⟩ U Q;haveI Sr:=i.af.bl 0 O z;refine tH (wu w0 U (LQ _) i.po.ap Sr.ao (i.cg.ao O m0)<|FK i.po) λP g1 Y eo r1 VK S pv=>?_;rw[q0,R] at eo;refine bS eo.VH λ_ ee qa=>l ?_;cases ee;haveI en0:=i.cg.en O m0;rw[R] at en0;haveI X:=W.la;rw[q0] at X;refine kf λZ l=>oE (gj Q X) λv0 v1=>?_;haveI rv:=S.at (en0 r q) (oK<|R▸.head _)<|pv _ qa v0 v1;haveI in1:yN (u.getD 1 0) x [] g1 Y:=λI p v hq nx=>S I p v (vc (i:=1) (R▸.head _) hq<|by show I∉H.ps;refine(bp<|w1.ps.trans p1)▸?_;exact i3) nx;haveI WC:yN (u.getD 2 0) x [] g1 Y:=λI p v hq nx=>S I p v (vc (i:=2) (R▸N q) hq<|by show I∉J.ps;refine(bp<|w2.ps.trans p2)▸?_;exact i3) nx;haveI x1:=FL (T:=T++[uj v0]) i (a4:=1) z rfl w1 w3 k1 k3 q1 q3 h1 h3 p3 VK in1 Q;haveI x2:=FL (T:=T++[uj v0]) i (a4:=2) z rfl w2 w3 k2 k3 q2 q3 h2 h3 p3 VK WC Q;rw[<-f1] at x1;rw[<-f2] at x2;refine oU (i.cg.ps K m3 _ _ p3) λis it _ tc=>l ?_;haveI Z_:=i.po.lt _ _ is.lk;haveI ltt:=i.po.lt _ _ it.lk;haveI mw1:=LO (i:=Ms x Z7) (j:=Ms x Mv) Z_ ltt;haveI mw2:=LO (i:=Ms x Z8) (j:=Ms x S2) Z_ ltt;haveI n1:=ug (Ms x s') (Ms x t') (Ms x Z7) (Ms x Mv) c;haveI n2:=ug (Ms x s') (Ms x t') (Ms x Z8) (Ms x S2) c;rw[<-f1] at mw1 n1;rw[<-f2] at mw2 n2;haveI up:∀{y:LB},y∈[O,H,J,K]->t7 (c+(vZ L c||vZ B c).toNat) (HU x y.ao):=λm=>(LP i.po.lt<|i.cg.ao _ m).up<|ox _ _;have mv:∀{F:cK},(∀o∈AS F,∀r∈o.writes,r<c+(vZ F c).toNat)->(vZ F c).toNat<=(vZ L c||vZ B c).toNat->t7 (c+(vZ L c||vZ B c).toNat) (AS F):=λG hb o m=>by refine⟨?_,λr I=>ci (G o m r I)<|Nat.add_le_add_left hb c⟩;refine kf λZ l=>?_;refine bS (List.mem_map.mp m) ?_;clear m;rintro M _ rfl;exact l<|.inr<|H3 _ _ z
   haveI b1:=i.yf.len H m1;haveI b2:=i.yf.len J m2;refine .four (L2:=L2) (L3:=L3) (os0:=HU x O.ao) (os1:=HU x H.ao++AS L) (os2:=HU x J.ao++AS B) (os3:=HU x K.ao) e Z9 q0 q1 q2 q3 ?_ ?_ ?_ (hV (up m0) ((up m1).app<|mv mw1 ?_) ((up m2).app<|mv mw2 ?_)<|up m3) (hV ?_ ?_ ?_ ?_) (hV W.len k1.len k2.len k3.len) ⟨g0,T,v0,Y,U,v1,r1,rv,x1,x2⟩;·rw[CB,CB,CB,CB,CC,CC];simp only[sn,lX];rfl
   ·rw[l3,iN,iN,eR,nu,nu];show _=_+_+(_+(L.map _).length);rw[fZ]
   ·rw[l2,iN,nu]
   ·cases vZ L c<;>cases vZ B c<;>decide
   ·cases vZ L c<;>cases vZ B c<;>decide
   ·rw[nu];exact i.yf.len O m0
   ·rw[eR,nu];show _+(L.map _).length<=_;rw[fZ];exact aG 0xcc02001019c021c101d060115c031001d051 z n1 b1
   ·rw[eR,nu];show _+(B.map _).length<=_;rw[fZ];exact aG 0xcc02001019c021c101d060115c031001d051 z n2 b2
   ·rw[nu];exact i.yf.len K m3
end
noncomputable def dm(k:List<|Int×V):Env:=λr=>k.lookup (r:Int)
theorem yi[DecidableEq a][BEq a][LawfulBEq a](i j:a)(v:b):∀l:List (a×b),(aE i v l).lookup j=if j=i then some v else l.lookup j:=λd=>by
 induction d with
 |nil=>
  show List.lookup j [(i,v)]=_;rw[ii];by_cases e:j=i;·subst e;rw[beq_self_eq_true,if_pos z]
  ·rw[nz.mpr e,if_neg e,List.lookup_nil]
 |cons x l c=>
  haveI c:=c;show List.lookup j (if x.1=i then(x.1,v)::l else(x.1,x.2)::aE i v l)=if j=i then some v else List.lookup j<|(x.1,x.2)::l;by_cases y:x.1=i
  ·rw[if_pos y,ii,ii,<-y];by_cases e:j=x.1;·clear c;subst e;rw[beq_self_eq_true,if_pos z]
   ·rw[nz.mpr e,if_neg e]
  ·rw[if_neg y,ii,ii];by_cases e:j=x.1;·clear c;subst e;rw[beq_self_eq_true,if_neg y]
   ·rw[nz.mpr e];exact c
theorem gM(r:Nat)(v:V)(k:List<|Int×V):dm (aE (r:Int) v k)=(dm k).put r v:=by
 funext q;show(aE (r:Int) v k).lookup (q:Int)=if q=r then some v else k.lookup (q:Int);rw[yi];by_cases z:q=r;·rw[if_pos z,if_pos<|show(q:Int)=r from congrArg Int.ofNat z]
 ·rw[if_neg z,if_neg λe:(q:Int)=r=>z<|Int.ofNat.inj e]
theorem LV(v:V)(k:List<|Int×V):dm (aE (-1) v k)=dm k:=by funext q;show(aE (-1) v k).lookup (q:Int)=k.lookup (q:Int);rw[yi,if_neg];intro e;have:(0:Int)<=-1:=e▸jp q;exact absurd this m
theorem gZ[DecidableEq a](r:a)(v:b):∀H:List (a×b),(aE r v H).length<=H.length+1:=λc=>by
 induction c with
 |nil=>exact ct 1
 |cons x H d=>
  show(if x.1=r then(x.1,v)::H else(x.1,x.2)::aE r v H).length<=_;split;·exact Nat.le_succ _
  ·exact s4<|d
theorem LW[DecidableEq a]{P:a->Prop}(f:P r):∀{H:List (a×b)},(∀x∈H,P x.1)->∀x∈aE r g H,P x.1:=λ{c}=>by
 induction c with
 |nil=>intro _ x e;rw[eL.mp e];exact f
 |cons y H d=>
  intro h x e;haveI e:x∈(if y.1=r then(y.1,g)::H else(y.1,y.2)::aE r g H):=e;split at e
  ·refine db (ew.mp e) ?_ ?_;·rintro rfl;exact h y q
   ·intro e;exact h x<|N e
  ·refine db (ew.mp e) ?_ ?_;·rintro rfl;exact h y q
   ·intro e;exact d (λz m=>h z<|N m) x e
inductive IM(L:H):V->D->Prop
 |set {w:Sy} {g:Int} {v:V} (h:yg v):IM L (.aF [.str w,.int g,v]) (Ky w g v)
 |ay {n:Int} {a:Nat} {vs:List V} (d:(a,.list vs)∈L) (h:tf vs):IM L (.aF [.str .ay,.int n,.ref a]) (xR n vs)
 |fix {a b c:Nat} {vs ws:List V} (d:(a,.list [.ref b,.ref c])∈L) (m1:(b,.list vs)∈L) (m2:(c,.list ws)∈L) (h1:tf vs) (h2:tf ws):IM L (.aF [.str .fix,.ref a]) (Ci [vs,ws])
 |test {v:V} (h:yg v):IM L (.aF [.str .test,v]) (uj v)
 |cU {a:Nat} {k:V} {vs:List V} (d:(a,.list vs)∈L) (h1:yg k) (h:tf vs):IM L (.aF [.str .cU,k,.ref a]) (.aF [.str .cU,xq k,.list<|xQ vs])
 |call {a:Nat} {f k:V} {vs:List V} (d:(a,.list vs)∈L) (h1:yg f) (h2:yg k) (h:tf vs):IM L (.aF [.str .call,f,k,.ref a]) (.aF [.str .call,xq f,xq k,.list<|xQ vs])
theorem IM.mono{v:V}{d:D}(t:IM L v d)(k:∀g∈L,g∈c):IM c v d:=by
 cases t with
 |set h=>exact .set h
 |ay m h=>exact .ay (k _ m) h
 |fix m e f a b=>exact .fix (k _ m) (k _ e) (k _ f) a b
 |test h=>exact .test h
 |cU m a h=>exact .cU (k _ m) a h
 |call m a b h=>exact .call (k _ m) a b h
theorem IM.tree(t:IM L i g)(H:O.C h L):ga h i g:=by
 cases t with
 |set h=>exact .aF<|.cons (.str _)<|.cons (.int _)<|.cons (rH h) .nil
 |ay m h=>exact .aF<|.cons (.str _)<|.cons (.int _)<|.cons (.list (O.get H m)<|mL h) .nil
 |fix m c e a b=>exact .aF<|.cons (.str _)<|.cons (.list (O.get H m)<|.cons (.list (O.get H c)<|mL a)<|.cons (.list (O.get H e)<|mL b) .nil) .nil
 |test h=>exact .aF<|.cons (.str _)<|.cons (rH h) .nil
 |cU m a h=>exact .aF<|.cons (.str _)<|.cons (rH a)<|.cons (.list (O.get H m)<|mL h) .nil
 |call m a b h=>exact .aF<|.cons (.str _)<|.cons (rH a)<|.cons (rH b)<|.cons (.list (O.get H m)<|mL h) .nil
inductive um(L:H):List V->List D->Prop
 |nil:um L [] []
 |add {ts:List V} {T:List D} {v:V} {d:D} (x:um L ts T) (a:IM L v d):um L (ts++[v]) (T++[d])
theorem um.mono{a:List V}(t:um L a T)(k:∀e∈L,e∈b):um b a T:=by
 induction t with
 |nil=>exact .nil
 |add _ e c=>exact .add c<|e.mono k
theorem um.len(t:um L b T):b.length=T.length:=by
 induction t with
 |nil=>rfl
 |add _ _ a=>rw[eR,eR,a];rfl
theorem HX(x:fY h a b)(y:fY h c g):fY h (a++c)<|b++g:=by
 induction a generalizing b with
 |nil=>cases x;exact y
 |cons v a e=>cases x with|cons p q=>exact .cons p<|e q
theorem um.P7(t:um L b T)(H:O.C h L):fY h b T:=by
 induction t with
 |nil=>exact .nil
 |add _ y a=>exact HX a<|.cons (y.tree H) .nil
def vJ(e:Env):List Ag->Option (List V)
 |[]=>some []
 |g::a=>(dU e g).bind λv=>(vJ e a).map (v:: ·)
noncomputable def LM(r t:Nat)(a:List<|Int×V)(f:List V)(R:H):H:=(r,.dict false a)::(t,.list f)::R
theorem LM.mem{R:H}(m:x∈R):x∈LM r c a b R:=N<|N m
section
variable{n:Nat}{L:H}{Y:dC}{T:Sp}{r t:Nat}{o:List (Int×V)}{f:List V}
theorem qZ(m:(r,.dict false o)∈L)(e:dU (dm o) g=some a)(q:U O L<|Y a):U O L<|Tn (n+1) .dD [.ref r,g.v] Y:=by
 induction g using Ag.casesOn with
 |hD d=>refine oM e λy b c=>?_;clear e;subst c;exact aZ .e [.bz,.arg] mZ z rfl rfl<|zq .e<|eE (us:=[d]) .a (.str y) (by show((ec d).map _).bind _=_;rw[b];rfl) ⟨z,z⟩<|aR q
 |free i=>cases e;exact aZ .a [.bz,.arg] mZ z rfl rfl<|aR q
 |bL s=>exact aZ .a [.bz,.arg] mZ z rfl rfl<|cH .a m e<|aR q
theorem OJ(i:U O L<|ch c)(m:(r,.dict false o)∈L){x:List Ag}:∀{b A:List V}{a:aV},vJ (dm o) x=some b->a .bz=some (.ref r)->(∀s,U O L λh=>j (A++b) ⟨s,h⟩)->
 Co O (Tn<|n+1) L c (.one .arg) .tt (.call .dD<|.cons (.ai .bz)<|.cons (.ai .arg) Es.nil) j (x.map Ag.v) A a:=by
 induction x with
 |nil=>exactλ{b A a} e _ q=>gB i (by cases e;have:=q a;rw[j0] at this;exact this)
 |cons g x u=>intro b A a e B q;refine oB e λv k d=>?_;clear e;refine oM d λw l p=>?_;clear d;subst p;rw[List.append_cons] at q;exact cJ (x:=g.v) (xs:=x.map Ag.v) .v i<|y .v B<|y .a z<|M .a<|qZ m k<|cF<|u l B q
theorem vd{a b:Ag}(c:dU e a=some g)(d:dU e b=some w):vJ e [a,b]=some [g,w]:=by show(dU e a).bind _=_;rw[c];show((dU e b).bind _).map _=_;rw[d];rfl
theorem LX(b:dU e a=some c):vJ e [a]=some [c]:=by show(dU e a).bind _=_;rw[b];rfl
theorem AU(l:Lv){b:aV}{K:Kk}{c:List I}{j:Fr}{d:Nat}{k:List Ag}{h:List V}(m:(r,.dict false o)∈L)(g:(d,.list<|k.map Ag.v)∈L)(e:vJ (dm o) k=some h)(p:b .bz=some (.ref r))(q:∀a,eh O (Tn<|n+1) K l ((a,.list h)::L) b c<|.v (.ref a) j):
 J O (Tn<|n+1) K L b (.cp (.call .dD<|.cons (.ai .bz)<|.cons (.ai .arg) Es.nil) (.one .arg) .it .tt::c)<|.v (.ref d)<|.m j:=uV l g<|OJ (A:=[]) (df g) m e p λi=>dF q
theorem LY{K:Kk}{a:aV}{s:Nat}{num:Int}(c:o.length<1000)(e:a .bz=some (.ref r))(g:a .eV=some (.ref t))(h:a .bL=some (.int s))(b:a .ax=some (.int num))
 (d:J O T K (LM r t (aE (s:Int) (bI f.length num) o) f L) a [] .b):J O T K (LM r t o f L) a [.ss<|bD sA] .b:=
 aY .v<|y .a g<|fv .v (N q)<|y .v b<|y .v e<|y .a h<|fC .a .head (f6 c m) d
theorem FN(d:(A,.list [.aF [.int a2,.int 1,.ref i],.aF [.int a3,.int 2,.ref j]])∈L)(y:(i,.list [(Ag.bL a3).v,g.v])∈L)(v:(j,.list [(Ag.bL a2).v])∈L)
 (u:o.length<900)(B:f.length<900)(C:dU (((dm o).put a2<|bI f.length 1).put a3<|bI f.length 2) g=some a4)(p:(((dm o).put a2<|bI f.length 1).put a3<|bI f.length 2) a3=some h)(l:(((dm o).put a2<|bI f.length 1).put a3<|bI f.length 2) a2=some e)
 (s:tf [h,a4]/\tf [e])
 (k:∀a1 w,IM a1 w (Ci [[h,a4],[e]])->U O (LM r t (aE (a3:Int) (bI f.length 2)<|aE (a2:Int) (bI f.length 1) o) (f++[w])<|a1++L) (Y .none)):U O (LM r t o f L)<|Tn (n+2) .lO [.ref r,.ref t,.ref A] Y:=by
 rw[<-gM,<-gM] at C p l;haveI x:=gZ (a2:Int) (bI f.length 1) o;exact aZ .a [.bz,.eV,.rows] sA z rfl rfl<|gd .a (LM.mem d)<|aO (x:=.aF [.int a2,.int 1,.ref i]) (xs:=[.aF [.int a3,.int 2,.ref j]]) .z (df<|LM.mem d)<|LY (s:=a2) (num:=1) (f6 u m) z rfl rfl rfl<|aP<|
  aO (x:=.aF [.int a3,.int 2,.ref j]) (xs:=[]) .z (df<|LM.mem d)<|LY (s:=a3) (num:=2) (aG 0x1c101d0600101384c041c101d06013e8c041c001d061 z u x) z rfl rfl rfl<|aP<|b5 (df<|LM.mem d)<|gc .a (N q) z<|uV .a (LM.mem d)<|
  cJ (x:=.aF [.int a2,.int 1,.ref i]) (xs:=[.aF [.int a3,.int 2,.ref j]]) .a (df<|LM.mem d)<|AU .a (k:=[.bL a3,g]) q (LM.mem y) (vd p C) z λb=>cF<|
  cJ (x:=.aF [.int a3,.int 2,.ref j]) (xs:=[]) .a (df<|N<|LM.mem d)<|AU .a (k:=[.bL a2]) (N q) (N<|LM.mem v) (LX l) z λc=>cF<|gB (df<|N<|N<|LM.mem d)<|dF λa=>
  de .a (.tail<|.tail<|.tail<|.tail .head) (f6 B m)<|dE<|aA (aT.mv [] [_,_,_] [_,_])<|k [(a,.list [.ref b,.ref c]),(c,.list [e]),(b,.list [h,a4])] _<|.fix q (N<|N q) (N q) s.1 s.2
end
theorem P8(h:EB a e)(q:e r=some b):yg b:=(h r b q).1
theorem i8(h:EB (a+1) e)(q:dU e g=some b):yg b:=(fM h q).1
theorem S5(a:yg c)(b:yg w):tf [c,w]:=by show(yg c&&(yg w&&true))=true;rw[a,b];rfl
theorem GB(a:yg b):tf [b]:=by show(yg b&&true)=true;rw[a];rfl
section
variable{n:Nat}{L:H}{A:dC}{T:Sp}{i k p C:Nat}{j:List (Int×V)}{f:List V}{Y:aV}{K:Kk}
def EG:Ss:=match bD (cy bU) with
 |.cons _ (.cons (.ifs _ _<|.cons (.ifs _ _ b) _) _)=>b
 |_=>.nil
theorem AV{c:List I}{D:List (IK×V)}{w:Sy}{d b:V}{g:Nat}{a:List V}{s:Int}(B:(p,.inst .ym D)∈L)(h:D.lookup .op=some (.str w))(t:D.lookup .data=some d)(o:D.lookup .bL=some (.int s))
 (F:j.length<900)(G:a.length<9)(S:Y .op=some (.ref p))(U:Y .bz=some (.ref i))(u:Y .dQ=some (.ref g))(l:(w=.hD/\∃a2,ec d=some a2/\b=.str a2)\/(w≠.hD/\b=d))(r:w≠.ay)
 (H:∀a1,(∀x,x≠.data->x≠.aB->a1 x=Y x)->J O T K (LM i k (aE s (.aF<|[.str w,b]++a) j) f<|(g,.list a)::L) a1 (.ss .nil::c) .b):J O T K (LM i k j f<|(g,.list a)::L) Y (.ss EG::c) .b:=by
 have e:(p,a0.inst .ym D)∈LM i k j f ((g,.list a)::L):=LM.mem<|N B;have next:J O T K (LM i k j f<|(g,.list a)::L) (bX Y .data b) (.ss (Ss.dr 1 EG)::c) .b:=
  aY .v<|y .a S<|Q .v e h<|y .v z<|y .a u<|iC .o (N<|N q)<|eE (us:=[.aF [.str w,b],.aF a]) .v (.aF<|[.str w,b]++a)
   (by show((if fi (2+a.length) then some (R.val<|.aF<|[.str w,b]++a) else none).bind _:Option V)=_;rw[if_pos<|show fi (2+a.length)=true from decide_eq_true<|by lia];rfl) ⟨z,z⟩<|
  y .a S<|Q .e e h<|pW .v r<|y .v z<|y .v U<|y .a S<|Q .a e o<|fC .z .head (f6 F m)<|H _ λx M E=>(if_neg E).trans<|if_neg M
 refine aY .v<|y .a S<|Q .e e h<|db l ?_ ?_;·clear l;rintro⟨x,a2,v,P⟩;clear r h H;subst x P;exact zq .v<|y .a S<|Q .e e t<|eE (us:=[d]) .o (.str a2) (by show((ec d).map _).bind _=_;rw[v];rfl) ⟨z,z⟩ next
 ·clear l;rintro⟨x,P⟩;subst P;exact pW .v x<|y .a S<|Q .o e t next
theorem FP(t:(p,.inst .ym fs)∈L)(g:fs.lookup .op=some (.str .ay))(o:fs.lookup .data=some a1)(r:fs.lookup .bL=some (.int s))
 (u:j.length<900)(G:f.length<900)(v:a.length<9)(D:Y .op=some (.ref p))(F:Y .bz=some (.ref i))(E:Y .eV=some (.ref k))(l:Y .dQ=some (.ref e))
 (d:∀h,(∀x,x≠.data->x≠.aB->h x=Y x)->J O T K (LM i k (aE s (yL f.length) j) (f++[.aF [.str .ay,a1,.ref e]])<|(e,.list a)::L) h (.ss .nil::c) .b):J O T K (LM i k j f<|(e,.list a)::L) Y (.ss EG::c) .b:=by
 haveI b:∀{f},(p,a0.inst .ym fs)∈LM i k j f ((e,.list a)::L):=LM.mem<|N t;exact aY .v<|y .a D<|Q .v b g<|y .a D<|Q .v b o<|y .a D<|Q .v b g<|y .v z<|y .a l<|iC .o (N<|N q)<|eE (us:=[.aF [.str .ay,a1],.aF a]) .v (.aF<|[.str .ay,a1]++a)
  (by show((if fi (2+a.length) then some (R.val<|.aF<|[.str .ay,a1]++a) else none).bind _:Option V)=_;rw[if_pos<|show fi (2+a.length)=true from decide_eq_true<|by lia];rfl) ⟨z,z⟩<|
  y .a D<|Q .v b g<|y .a E<|fv .v (N q)<|y .v E<|gc .v (N q) z<|y .a D<|Q .v b o<|y .a l<|de .v (.tail .head) (f6 G m)<|
  y .v z<|y .v F<|y .a D<|Q .a b r<|fC .z .head (f6 u m)<|d _ λx B w=>(if_neg w).trans<|(if_neg w).trans<|if_neg B
end
section
variable{n:Nat}{L f:H}{u w k:Nat}{t:List (Int×V)}{h:List V}{T:List D}{j:aV}{K:Kk}
theorem AW{r:Nat}:dm (aE (r:Int) a t)=(dm t).put r a:=gM r a t
theorem VP{v:V}{ks:List Nat}(ho:a2.ok ks)(r:mH L v a2)(tt:um f h T)(sb:SB k (dm t,T))(c:t8 a2 (dm t,T)=some s')(sm:t.length<800)(st:h.length<800)(e1:j .op=some v)(e2:j .bz=some (.ref u))(e3:j .eV=some (.ref w))
 (S:∀sa uo a1 aI,um (a1++f) uo s'.2->dm sa=s'.1->sa.length<=t.length+2->uo.length<=h.length+1->(∀x,x≠.dQ->x≠.data->x≠.aB->aI x=j x)->J O (Tn<|n+2) K (LM u w sa uo<|a1++L) aI [] .b):
 J O (Tn<|n+2) K (LM u w t h L) j [.ss<|bD<|cy bU] .b:=by
 have VQ:h.length=T.length:=tt.len;have F:∀{x X},x∈L->x∈X::L:=λk=>N k;have Z:t.length<900:=f6 sm m;have Su:h.length<900:=f6 st m;have fh:∀{p l:Nat}{fs:List (IK×V)}{gs:List Ag}{vs:List V},v=.ref p->(p,a0.inst .ym fs)∈L->fs.lookup .args=some (.ref l)->(l,a0.list<|gs.map Ag.v)∈L->vJ (dm t) gs=some vs->
  (∀C,J O (Tn<|n+2) K (LM u w t h<|(C,.list vs)::L) (bX j .dQ<|.ref C) [.ss<|Ss.dr 1<|bD<|cy bU] .b)->J O (Tn<|n+2) K (LM u w t h L) j [.ss<|bD<|cy bU] .b:=λev a la b ea R=>by
  subst ev;exact aY .v<|y .a e1<|Q .a (LM.mem a) la<|AU .o q (LM.mem b) ea e2 λC=>aA (aT.mv [] [_] [_,_])<|R C
 cases r with
 |@hD p l s d a b=>
  refine oM c λX o B=>?_;clear c;subst B;exact fh (gs:=[]) z a z b z λC=>aY .v<|y .a e1<|Q .v (LM.mem<|F a) z<|y .a e1<|Q .b (LM.mem<|F a) z<|Cd z<|AV a z rfl rfl Z m e1 e2 z (.inl<|F6 z X o z) m λG D=>aY .a<|
   S _ h [(C,.list [])] G (tt.mono λ_ k=>N k) AW (Nat.le_succ_of_le<|gZ ..) (Nat.le_succ _) λx n1 n2 H=>(D x n2 H).trans<|if_neg n1
 |@fS p l s g a b=>
  cases c;exact fh (gs:=[]) z a z b z λC=>aY .v<|y .a e1<|Q .v (LM.mem<|F a) z<|y .a e1<|Q .b (LM.mem<|F a) z<|Cd z<|AV a z rfl rfl Z m e1 e2 z (.inr ⟨by decide,z⟩) m λG D=>aY .a<|
   S _ h [(C,.list [])] G (tt.mono λ_ k=>N k) AW (Nat.le_succ_of_le<|gZ ..) (Nat.le_succ _) λx n1 n2 H=>(D x n2 H).trans<|if_neg n1
 |@set p l W g x a b=>
  refine oM c λY o B=>?_;clear c;subst B;exact fh (gs:=[x]) z a z b (LX o) λC=>aY .v<|y .a e1<|Q .e (LM.mem<|F a) z<|pW .v (by rcases ho.1 with e|e<;>rw[e]<;>decide)<|y .a e1<|Q .e (LM.mem<|F a) z<|
   eE (us:=[.str W,.aF [.str .jw,.str .eN]]) .v (.bool true) (by rcases ho.1 with e|e<;>rw[e]<;>rfl) ⟨rfl,rfl⟩<|y .v e3<|gc .v (N q) z<|y .a e1<|Q .v (LM.mem<|F a) z<|y .a e1<|Q .a (LM.mem<|F a) z<|fL .a (N<|N q) m z<|
   de .a (.tail .head) (f6 st m)<|S t _ [(C,.list [Y])] _ ((tt.mono λ_ k=>N k).add<|.set<|i8 sb.1 o) rfl (ox _ _) (by rw[eR];exact ct _) λx n1 n2 H=>if_neg n1
 |@bt p l s i x X a b=>
  refine oB c λY o B=>?_;clear c;refine oM B λvy U E=>?_;clear B;subst E;exact fh (gs:=[x,X]) z a z b (vd o U) λC=>aY .v<|y .a e1<|Q .v (LM.mem<|F a) z<|y .a e1<|Q .b (LM.mem<|F a) z<|Cd z<|AV a z rfl rfl Z (by decide:2<9) e1 e2 z (.inr ⟨by decide,z⟩) m λG D=>aY .a<|
   S _ h [(C,.list [Y,vy])] G (tt.mono λ_ k=>N k) AW (Nat.le_succ_of_le<|gZ ..) (Nat.le_succ _) λx n1 n2 H=>(D x n2 H).trans<|if_neg n1
 |@fix p l mm i P x X g a b c' e I=>refine oB c λv o B=>?_;clear c;refine oB B λvq U E=>?_;clear B;refine oM E λvp c5 c6=>?_;clear E;subst c6;rw[show(dm t,T).2.length=h.length from VQ.symm] at o U c5 S;have em:=(sb.1.put (r:=x) (v:=bI h.length 1)<|pK z<|ct 1).put (r:=X) (v:=bI h.length 2)<|pK z<|ct 1;refine fh (gs:=[]) z a z b z λC=>aY .v<|y .a e1<|Q .v (LM.mem<|F a) z<|y .v e2<|y .v e3<|y .a e1<|Q .a (LM.mem<|F a) z<|M .a<|FN (F c') (F e) (F I) Z Su o U c5 ⟨S5 (P8 em U)<|i8 em o,GB<|P8 em c5⟩ λa1 te t2=>?_;refine aA (L':=LM u w _ (h++[te])<|(a1++[(C,.list [])])++L) (λA=>by rw[lX];exact A)<|S _ _ (a1++[(C,.list [])]) _ ((tt.mono λ_ k=>cs _ k).add<|t2.mono λ_ k=>ll _<|ll _ k) (by rw[gM,gM]) ?_ (by rw[eR];exact ct _) λx n1 n2 H=>if_neg n1;exact eJ (gZ ..)<|s4<|gZ ..
 |@ay p l s i x X a b=>
  refine oB c λY o B=>?_;clear c;refine oM B λvy U E=>?_;clear B;rw[show(dm t,T).2.length=h.length from VQ.symm] at E;have e5:s'.2=T++[xR i [Y,vy]]:=(congrArg Prod.snd E).symm;refine fh (gs:=[x,X]) z a z b (vd o U) λC=>aY .v<|y .a e1<|Q .v (LM.mem<|F a) z<|y .a e1<|Q .b (LM.mem<|F a) z<|Cd z ?_;have fin:∀{sl:Int}(G:aV),dm (aE sl (yL h.length) t)=s'.1->(∀x,x≠.data->x≠.aB->G x=bX j .dQ (.ref C) x)->J O (Tn<|n+2) K (LM u w (aE sl (yL h.length) t) (h++[.aF [.str .ay,.int i,.ref C]])<|[(C,.list [Y,vy])]++L) G [] .b:=λ{sl} G he D=>S _ _ [(C,.list [Y,vy])] G (e5▸(tt.mono λ_ k=>N k).add (.ay q<|S5 (i8 sb.1 o)<|i8 sb.1 U)) he (Nat.le_succ_of_le<|gZ ..) (by rw[eR];exact ct _) λx n1 n2 H=>(D x n2 H).trans<|if_neg n1;clear ho;induction s using qG with
  |none=>exact FP a z rfl rfl Z Su (by decide:2<9) e1 e2 e3 z λG D=>aY .a<|fin G ((LV _ _).trans<|congrArg Prod.fst E) D
  |some s=>exact FP a z rfl rfl Z Su (by decide:2<9) e1 e2 e3 z λG D=>aY .a<|fin G ((gM _ _ _).trans<|congrArg Prod.fst E) D
end
section
variable{n:Nat}{L C:H}{j p:Nat}{K:Kk}
theorem Sv(J:(ob,.list cc)∈L){R:List Op}:∀{t:List V}{v:List Nat}{b I:Nat}{e:List (Int×V)}{d:List V}{T:List D}{X:H}{f:AH}{s:aV},vX L t R->ic v b R->um X d T->SB I (dm e,T)->gT R (dm e,T)=some f->
 e.length+4*R.length<700->d.length+4*R.length<700->s .bz=some (.ref j)->s .eV=some (.ref p)->
 (∀i k Y l,um Y k f.2->dm i=f.1->i.length<=e.length+2*R.length->k.length<=d.length+R.length->(∀x,x≠.dQ->x≠.data->x≠.aB->x≠.op->l x=s x)->U O (LM j p i k<|Y++L) λh=>K .next ⟨l,h⟩)->
 Fo O (Tn<|n+2) (LM j p e d<|X++L) [(ob,.list cc)] (.one .op) (bD<|cy bU) K t s:=by
 induction R with
 |nil=>intro t v b I e d T X f s r _ S _ c _ _ _ _ q;cases c;cases r;exact b5 (df<|LM.mem<|cs _ J)<|q e d X s S z (ct _) (ct _) λ_ _ _ _ _=>rfl
 |cons o R ih=>
  intro t v b I e d T X f s r ok S B c w y W e3 q;rw[jM] at w y q;refine oB c λa A g=>?_;clear c;cases r with
  |cons r rs=>
   refine aO .z (df<|LM.mem<|cs _ J)<|VP ok.1 (r.mono λ_ I=>cs _ I) S B A (aG 0x2bcc041c1c101d401e001d0ed1301320c041c001d061 z w) (aG 0x2bcc041c1c101d401e001d0ed1301320c041c001d061 z y) rfl W e3 λE VR Y gY Q ee F G u=>aP ?_;haveI P:=CA B A;haveI es:a=(dm E,a.2):=by rw[ee]
   rw[es] at P g;rw[<-lX];exact ih rs ok.2.2 Q P g (bF 0x2c201d06001012bcc041c1c101d401e201d0ed13012bcc041c1401e001d09d0e1 z w F) (bF 0x1c201d06001012bcc041c1c101d401e201d0ed13012bcc041c1401e001d09d0e1 z y G) ((u _ m m m).trans W) ((u _ m m m).trans e3) λi k Z l OK VS Sw VT f'=>q i k Z l OK VS (jQ 0x2201e301d09001012c101d06301011c201d201e101d0e0011 z F Sw) (jQ 0x2301d05001011c101d06301011c201d101d0a0011 z G VT) λx n1 n2 M N=>(f' x n1 n2 M N).trans<|(u x n1 n2 M).trans<|if_neg N
theorem L4(l:Lv)(m:At a (.list<|x::r) (.list r) L i)(k:eh g T K l i e c<|.v x fs):J g T K L e (.mq .nZ false::c)<|.v (.int 0)<|.v (.ref a)<|.m fs:=
 aS ⟨λh b=>(F6 (bj (o:=h a) (g.get b m.mem) z) (.upd a (.list r) x) (bj (o:=h a) (g.get b m.mem) z)<|(aJ k).at_ _<|g.put b m)⟩
theorem AX(k:U e L λh=>K (.ret g) ⟨b,h⟩):J e T K L b (.ret::c)<|.v g fs:=aS ⟨λh a=>k.at_ h a⟩
theorem OL{H:aV}{u F B s a i:Nat}{c b D:List (IK×V)}{E f:List V}{x:List Ag}{e:List (Int×V)}{d:List V}(o:(u,.inst .dz c)∈L)(h:c.lookup .bJ=some (.ref F))(r:(F,.list E)∈L)(k:E[i]?=some (.ref B))(t:(B,.inst .hJ b)∈L)(l:b.lookup .last=some (.ref s))
 (v:(s,.inst .gw D)∈L)(m:D.lookup .args=some (.ref a))(w:(a,.list<|x.map Ag.v)∈L)(z:vJ (dm e) x=some f)(G:H .bO=some (.ref u))(I:H .at_=some (.int i))(M:H .bz=some (.ref j))
 (A:∀g,J O (Tn<|n+2) K (LM j p e d<|(g,.list f)::L) (bX (bX H .last<|.ref s) .dQ<|.ref g) [.ss<|Ss.dr 3<|cy bU] .b):J O (Tn<|n+2) K (LM j p e d L) H [.ss<|Ss.dr 1<|cy bU] .b:=
 aY .v<|y .a G<|Q .v (LM.mem o) h<|y .a I<|fL .a (LM.mem r) (jp i) k<|Q .a (LM.mem t) l<|Q .a (LM.mem v) m<|AU .o (k:=x) q (LM.mem w) z M λg=>aA (aT.mv [] [_] [_,_])<|A g
variable{A:aV}{s g:Nat}{e:List (Int×V)}{d:List V}
theorem OM{f i:Nat}(k:(s,.inst .gw<|lF .cU .none f w.v i)∈L)(u:dU (dm e) w=some T)(t:A .last=some (.ref s))(v:A .dQ=some (.ref g))(B:A .bz=some (.ref j))(o:A .eV=some (.ref p))(D:d.length<900)
 (l:∀r,U O ((r,.list<|d++[.aF [.str .cU,T,.ref g]])::(LM j p e d<|(g,.list x)::L)) λh=>K (.ret<|.ref r) ⟨A,h⟩):J O (Tn<|n+2) K (LM j p e d<|(g,.list x)::L) A [.ss<|Ss.dr 3<|cy bU] .b:=by
 haveI c:(s,a0.inst .gw<|lF .cU .none f w.v i)∈LM j p e d ((g,.list x)::L):=LM.mem<|N k;exact aY .v<|y .a t<|Q .v c z<|y .a t<|Q .v c z<|y .a t<|Q .v c z<|y .v o<|y .v B<|y .a t<|Q .a c z<|M .v<|qZ q u<|y .a v<|aW .a λb=>uT .a (N<|N q) q (by show d.length+1<_;exact ci (sI ‹_› _) m) λr=>AX<|aA (λa=>O.sub a<|.cons_cons _<|.cons _<|.refl _)<|l r
theorem ON{t u:V}{l o:Nat}(f:(s,.inst .gw<|lF .call T.v l Y.v o)∈L)(i:dU (dm e) T=some t)(x:dU (dm e) Y=some u)(B:A .last=some (.ref s))(E:A .dQ=some (.ref g))(D:A .bz=some (.ref j))(v:A .eV=some (.ref p))(F:d.length<900)
 (k:∀r,U O ((r,.list<|d++[.aF [.str .call,t,u,.ref g]])::(LM j p e d<|(g,.list w)::L)) λh=>K (.ret<|.ref r) ⟨A,h⟩):J O (Tn<|n+2) K (LM j p e d<|(g,.list w)::L) A [.ss<|Ss.dr 3<|cy bU] .b:=by
 haveI c:(s,a0.inst .gw<|lF .call T.v l Y.v o)∈LM j p e d ((g,.list w)::L):=LM.mem<|N f;exact aY .v<|y .a B<|Q .v c z<|y .a B<|Q .v c z<|y .a B<|Q .v c z<|y .v v<|y .v D<|y .a B<|Q .a c z<|M .v<|qZ q i<|y .v D<|y .a B<|Q .a c z<|M .v<|qZ q x<|y .a E<|aW .a λb=>uT .a (N<|N q) q (by show d.length+1<_;exact ci (sI ‹_› _) m) λr=>AX<|aA (λa=>O.sub a<|.cons_cons _<|.cons _<|.refl _)<|k r
end
noncomputable def La.gs:La->List Ag
 |.cU a b _=>[a,b]
 |.iff _=>[]
 |.dj a b=>[a,b]
 |.call _ a b _=>[a,b]
theorem mJ.args{R:H}(r:mJ R c x):∃b a,(c,.inst .gw b)∈R/\b.lookup .args=some (.ref a)/\(a,.list<|x.gs.map Ag.v)∈R:=by
 cases r with
 |cU x y d=>exact(kH _ _ x z y)
 |iff x y d=>exact(kH _ _ x z y)
 |dj x y d=>exact(kH _ _ x z y)
 |call x y d=>exact(kH _ _ x z y)
def vK(m:Nat):List<|Int×V:=(List.range m).map λ(i:Nat)=>((i:Int),P6 i)
theorem CD(m:Nat):vK (m+1)=vK m++[((m:Int),P6 m)]:=by unfold vK;rw[List.range_succ,sn];rfl
theorem CE(m r:Nat):dm (vK m) r=if r<m then some (P6 r) else none:=by
 induction m with
 |zero=>rfl
 |succ m a=>
  show(vK<|m+1).lookup (r:Int)=_;rw[CD,qW,show(vK m).lookup (r:Int)=dm (vK m) r from rfl,a];by_cases q:r<m;·rw[if_pos q,if_pos<|Nat.lt_succ_of_lt q];rfl
  ·rw[if_neg q,ii];by_cases z:r=m;·clear a q;subst z;rw[beq_self_eq_true,if_pos<|Nat.lt_succ_self r];rfl
   ·rw[nz.mpr λe:(r:Int)=m=>z<|Int.ofNat.inj e,if_neg<|by lia];rfl
theorem ny(U:Un):dm (vK U.ah)=uc U:=funext (CE U.ah)
theorem FQ(m:Nat):aE (m:Int) (P6 m) (vK m)=vK (m+1):=by rw[CD];exact gN<|(CE m m).trans<|if_neg<|Nat.lt_irrefl m
theorem nA(m:Nat):(vK m).length=m:=by unfold vK;rw[fZ,List.length_range]
section
variable{n:Nat}{L:H}{j C:Nat}{K:Kk}{T:Sp}{s:aV}
theorem OO(c:(sl,.list i)∈L){A:List V}{d:Nat}:∀{k:Nat}{s:aV},k+d<900->s .bz=some (.ref j)->(∀a,(∀x,x≠.bL->a x=s x)->U O (LM j C (vK<|k+d) A L) λh=>K .next ⟨a,h⟩)->
 Fo O T (LM j C (vK k) A L) [(sl,.list i)] (.one .bL) (bD bU) K (G<|List.range' k d) s:=by
 induction d with
 |zero=>exactλ{k s} _ _ q=>b5 (df<|LM.mem c)<|q s λ_ _=>rfl
 |succ d l=>
  intro k s g e q;have b:k+1+d=k+(d+1):=by rw[Nat.add_assoc,Nat.add_comm 1]
  rw[<-b] at q;exact aO (x:=.int k) (xs:=G<|List.range' (k+1) d) .v (df<|LM.mem c)<|y .v z<|y .a e<|eY .a (FQ k) .head (by rw[nA];exact aG 0x384c041c1c101d001d0ad0f01f4240c061c001d061 z g)<|aP<|l (b▸g) e λa f=>q a λx n=>(f x n).trans<|if_neg n
def Sx(X:Vr):E:=.ite (.e<|.ay (.eW .ge)<|.cons (.ay (.attr .rest)<|.cons (.ai X) Es.nil)<|.cons (.hD<|.int 0) Es.nil) (.ay .bb<|.cons (.ay (.attr .rest)<|.cons (.ai X) Es.nil) Es.nil)<|.ay .bb Es.nil
theorem CH(l:Lv){u v:Nat}{h:List (IK×V)}{U:Un}(g:(u,.inst .dz h)∈L)(k:h.lookup .params=some (.ref v))(f:h.lookup .rest=some U.oz)(o:(v,.list<|G<|List.range U.np)∈L)(i:U.np<=3)(e:s r=some (.ref u))
 (p:∀a,eh O T K l ((a,.list<|G<|List.range U.ah)::L) s c<|.v (.ref a) fs):J O T K L s (.p (.attr .params)::.es (.cons (Sx r) Es.nil)::.p (.fA .add)::c)<|.v (.ref u)<|.m<|.m fs:=by
 unfold Un.oz at f;unfold Un.ah at p;cases t:U.rest with
 |true=>rw[t,if_pos z] at f;rw[t] at p;refine Q .v g k<|y .a e<|Q .b g f<|Ce .v (decide_eq_true<|jp U.np)<|y .a e<|Q .a g f<|aW .a λb=>uT l (N o) q (by rw[bB,List.length_range];exact bN 0x3c0200101f4240c061c1c001d06d0b1 z i) λa=>?_;rw[show G (List.range U.np)++[V.int U.np]=G (List.range<|U.np+true.toNat) by rw[dT,<-List.range_succ];rfl];exact aA (λd=>O.sub d<|.cons_cons _<|.cons _<|.refl _)<|p a
 |false=>rw[t,if_neg m] at f;rw[t] at p;refine Q .v g k<|y .a e<|Q .a g f<|aW .a λb=>uT l (N o) q (by rw[bB,List.length_range];exact bN 0x3c0200101f4240c061cc001d05d0a1 z i) λa=>?_;rw[j0];exact aA (λd=>O.sub d<|.cons_cons _<|.cons _<|.refl _)<|p a
variable{Y F:Nat}{o:List (Int×V)}{A:List V}
theorem Sz{h r:List V}{i b k w:Nat}{a:H}(v:(Y,.inst .gw<|lF .SM g.v i .none b)∈L)(f:At k (.list<|.int w::r) (.list r) L a)(d:(b,.list [.int 1,.int 2])∈a)(t:w<2)(u:dU (dm o) g=some a1)
 (D:s .last=some (.ref Y))(E:s .bz=some (.ref j))(l:s .eV=some (.ref C))(p:s .left=some (.ref k))(G:A.length<900)
 (x:J O (Tn<|n+2) K (LM j C o (A++[.aF [.str .test,a1]])<|(F,.list h)::a) (bX s .at_<|.int (w+1:Nat)) [] .b):J O (Tn<|n+2) K (LM j C o A<|(F,.list h)::L) s [.ss<|Ss.dr 3<|cy bU] .b:=by
 haveI c:∀{A},(Y,a0.inst .gw<|lF .SM g.v i .none b)∈LM j C o A ((F,.list h)::L):=LM.mem<|N v;haveI B:[V.int 1,.int 2][((w:Nat):Int).toNat]?=some (.int (w+1:Nat)):=by
  have:w=0\/w=1:=by lia
  (refine db this ?_ ?_<;>clear this<;>intro e)<;>(clear t f x;subst e)<;>rfl
 exact aY .v<|y .a D<|Q .v c z<|y .v l<|gc .v (N q) z<|y .v E<|y .a D<|Q .a c z<|M .a<|qZ q u<|de .v (.tail .head) (f6 G m)<|y .a D<|Q .v c z<|y .v p<|gc .a (LM.mem<|N f.mem) z<|
  L4 .a (.tail<|.tail<|.tail f)<|fL .a (LM.mem<|N d) (jp w) B x
theorem OP{I t p f u bl e h:Nat}{Z:List V}(E:(Y,.inst .gw<|lF .dj .none p .none f)∈L)(g:(f,.list [.int 3])∈L)(d:(u,.inst .dz a1)∈L)(w:a1.lookup .bJ=some (.ref bl))(M:(bl,.list Z)∈L)(P:Z[3]?=some (.ref e))
 (B:(e,.inst .hJ r)∈L)(R:r.lookup .params=some (.ref h))(c:(h,.list<|G [I,t])∈L)(S:s .last=some (.ref Y))(e2:s .dQ=some (.ref F))(e3:s .bz=some (.ref j))(v:s .bO=some (.ref u))(i:o.length<900)
 (H:∀a2,a2 .at_=some (.int 3)->(∀x,x≠.bL->x≠.value->x≠.at_->a2 x=s x)->J O (Tn<|n+2) K (LM j C (aE (t:Int) b<|aE (I:Int) a o) A<|(F,.list [a,b])::L) a2 [] .b):J O (Tn<|n+2) K (LM j C o A<|(F,.list [a,b])::L) s [.ss<|Ss.dr 3<|cy bU] .b:=by
 haveI U:∀{x o},x∈L->x∈LM j C o A ((F,.list [a,b])::L):=λE=>LM.mem<|N E;haveI k:=gZ (I:Int) a o;haveI l:(aE (I:Int) a o).length<1000000:=aG 0x1c101d0600101384c041c101d0601f4240c061c001d061 z i k;exact aY .v<|y .a S<|Q .v (U E) z<|y .a S<|Q .v (U E) z<|y .a v<|Q .v (U d) w<|y .a S<|Q .a (U E) z<|fL .a (U g) m z<|fL .a (U M) m P<|Q .v (U B) R<|y .a e2<|Kp .v (U c) (LM.mem q)<|
  aO (x:=.aF [.int I,a]) (xs:=[.aF [.int t,b]]) .v (PV (U c)<|LM.mem q)<|y .v z<|y .a e3<|fC .a .head (f6 i m)<|aP<|
  aO (x:=.aF [.int t,b]) (xs:=[]) .v (PV (U c)<|LM.mem q)<|y .v z<|y .a e3<|fC .a .head l<|aP<|b5 (PV (U c)<|LM.mem q)<|
  y .a S<|Q .a (U E) z<|fL .a (U g) m z<|H _ z λx W X D=>(if_neg D).trans<|(if_neg X).trans<|(if_neg W).trans<|(if_neg X).trans<|if_neg W
end
section
variable{n:Nat}{L:H}{c g:Nat}{K:Kk}{C:aV}{A:dC}
theorem wx{x:s7}{i u bl B b I:Nat}{d:List (IK×V)}{Bs vs:List V}{Z:List Nat}{a:List (Int×V)}{S:List V}{T:List D}{X:H}{o:AH}(tt:um X S T)(P:(u,.inst .dz d)∈L)(v:d.lookup .bJ=some (.ref bl))(R:(bl,.list Bs)∈L)(w:Bs[i]?=some (.ref B))(rb:Ec L i B x)
 (ok:ic Z b x.os)(k:x.os.length<=2)(sb:SB I (dm a,T))(U:gT x.os (dm a,T)=some o)(ev:vJ o.1 x.la.gs=some vs)(s1:a.length<600)(s2:S.length<600)(e1:C .bO=some (.ref u))(e2:C .at_=some (.int i))(e3:C .bz=some (.ref c))(W:C .eV=some (.ref g))
 (q:∀e a3 Y h a4 a1,mJ L a4 x.la->um Y a3 o.2->dm e=o.1->e.length<=a.length+4->a3.length<=S.length+2->a1 .last=some (.ref a4)->a1 .dQ=some (.ref h)->
  (∀x,x≠.dQ->x≠.data->x≠.aB->x≠.op->x≠.last->a1 x=C x)->J O (Tn<|n+2) K (LM c g e a3<|(h,.list vs)::(Y++L)) a1 [.ss<|Ss.dr 3<|cy bU] .b):J O (Tn<|n+2) K (LM c g a S<|X++L) C [.ss<|cy bU] .b:=by
 obtain⟨pa,ob,a4,ov,p,a2,r,l,s⟩:=rb;refine jn s.args λfs ag M N E=>?_;haveI up:∀{x a S X},x∈L->x∈LM c g a S (X++L):=λI=>LM.mem<|cs _ I;exact aY .v<|y .a e1<|Q .v (up P) v<|y .a e2<|fL .a (up R) (jp i) w<|Q .a (up p) z<|gd .z (up r)<|Sv r l ok tt sb U (aG 0x258c041c001d06012c02101042bcc041c1401e001d09d0e1 z k s1) (aG 0x258c041c001d06012c02101042bcc041c1401e001d09d0e1 z k s2) e3 W λe a3 Y a1 f t F G j=>
  OL (cs _ P) v (cs _ R) w (cs _ p) z (cs _ M) N (cs _ E) (t▸ev) ((j _ m m m m).trans e1) ((j _ m m m m).trans e2) ((j _ m m m m).trans e3) λh=>
  q e a3 Y h a4 _ s f t (bF 0x2201e101d09001012c02201024c101d060011 z k F) (bF 0x2101d05001012c02201012c101d060011 z k G) z rfl λx n1 n2 n3 n4 n5=>(if_neg n1).trans<|(if_neg n5).trans<|j x n1 n2 n3 n4
theorem AY(U:Un):SB 0 (uc U,[]):=by
 refine⟨λr v q=>?_,(rW _)⟩;haveI q:(if r<U.ah then some (P6 r) else none)=some v:=q;split at q;·cases q;exact⟨z,ct 1⟩
 ·cases q
theorem CI{u y i w:Nat}{f:List (IK×V)}{d:Un}(o:(u,.inst .dz f)∈L)(l:f.lookup .params=some (.ref y))(t:f.lookup .rest=some d.oz)(p:(y,.list<|G<|List.range d.np)∈L)(r:(i,.list [.int w])∈L)(h:d.np<=3)
 (v:∀c g x b,b .bz=some (.ref c)->b .eV=some (.ref g)->b .at_=some (.int (0:Nat))->b .left=some (.ref x)->b .bO=some (.ref u)->J O (Tn<|n+2) (Rt A) (LM c g (vK d.ah) []<|(x,.list [.int w])::L) b [.ss<|Ss.dr 2 bU] .b):
 U O L<|Tn (n+3) .fR [.ref u,.ref i] A:=by
 refine aZ .a [.bO,.qo] bU z rfl rfl<|aW .a λc=>aW .a λg=>mG .a (N<|N r) λx=>aA (L':=LM c g (vK 0) []<|(x,.list [.int w])::L) (λa=>O.perm a<|(List.Perm.swap _ _ _).trans<|(List.Perm.cons _<|.swap _ _ _).trans<|.swap _ _ _)<|
  CH .a (r:=.bO) (N<|N<|N o) l t (N<|N<|N p) h z λs=>aA (L':=LM c g (vK 0) []<|(s,.list<|G<|List.range d.ah)::(x,.list [.int w])::L) (aT.mv [] [_] [_,_])<|gd .z (N<|N q) ?_
 haveI k:vK (0+d.ah)=vK d.ah:=by rw[Nat.zero_add]
 rw[List.range_eq_range'];refine OO (k:=0) (d:=d.ah) q (by have:d.rest.toNat<=1:=(by cases d.rest<;>decide);exact aG 0x1c02101013c0200101384c041c1001dc01d09d0e1 z h this) z λj e=>?_;rw[k];exact aA (λa=>O.sub a<|.cons_cons _<|.cons_cons _<|.cons _<|.refl _)<|v c g x j ((e _ m).trans z) ((e _ m).trans z) ((e _ m).trans z) ((e _ m).trans z)<|(e _ m).trans z
def FR(k a b:V):D:=.aF [.str .cU,xq k,.list<|xQ [a,b]]
def CJ(f k a b:V):D:=.aF [.str .call,xq f,xq k,.list<|xQ [a,b]]
theorem EH{u num X w b:Nat}{I:Un}{i:s7}{ks:List Nat}{F G J:Ag}{S:Env}{T:List D}{f h j:V}(ru:uW L u num I)(E:I.np<=3)(mw:(X,.list [.int w])∈L)(e:I.mO=[i])(H:i.la=.cU F G J)(ok:ic ks b i.os)(M:i.os.length<=2)
 (t:gT i.os (uc I,[])=some (S,T))(k:dU S F=some f)(l:dU S G=some h)(o:dU S J=some j)
 (Q:∀r a2 a1,um a1 a2 (T++[FR j f h])->jb (T++[FR j f h])<=500->U O ((r,.list a2)::(a1++L)) (A<|.ref r)):U O L<|Tn (n+3) .fR [.ref u,.ref X] A:=by
 obtain⟨pl,bl,Bs,W,m2,m3,s⟩:=ru;haveI d:=rI (AY I) t;rw[e] at s;refine bS (s.at (i:=0) z) λB0 f0 WM=>?_;haveI he:I.ah<10:=by have:I.rest.toNat<=1:=(by cases I.rest<;>decide);exact aG 0x1c02101013c0200101ac021c1001d05d0a1 z E this
 haveI dd:jb (T++[FR j f h])<=500:=by refine eJ (DB.VJ (c:=0+i.os.length+4)<|d.2.add ?_)<|bN 0x2c02001011f4c044c0c01d05d0a1 z M;refine eJ (s4<|qc.mpr ⟨Nat.zero_le _,qc.mpr ⟨Nat.le_succ_of_le (fM d.1 o).2,qc.mpr ⟨WJ (fM d.1 k)<|fM d.1 l,Nat.zero_le _⟩⟩⟩)<|r_ m _
 refine CI W z rfl m2 mw E λc g lf gY v p f3 f4 f5=>aY .a<|kp .z 1<|eI .a<|C0 .z z<|wx (X:=[(lf,.list [.int w])]) (T:=[]) (S:=[]) ?_ W z m3 (by rw[oe,f0];rfl) WM ok M (by rw[ny];exact AY I) (by rw[ny];exact t) (vs:=[f,h]) (by rw[H];exact vd k l) (by rw[nA];exact ci ‹_› m) m f5 f3 v p λHs a2 Y al la cY Z tt ee n1 n2 g1 g2 B=>?_;·exact .nil
 rw[H] at Z;cases Z with
 |cU x y R=>
 exact OM (cs _ x) (ee▸o) g1 g2 ((B _ m m m m m).trans v) ((B _ m m m m m).trans p) (sg n2 m) λr=>aA (λa=>O.sub a<|.cons_cons _<|.cons _<|.cons _<|.refl _)<|Q r _ ((al,.list [f,h])::Y) ((tt.mono λ_ P=>N P).add<|.cU q (i8 d.1 o)<|S5 (i8 d.1 k)<|i8 d.1 l) dd
end
theorem SB.test(h:SB b (e,T))(a:dU e g=some c):SB b (e,T++[uj c]):=
 ⟨h.1,h.2.add<|eJ (s4<|qc.mpr ⟨Nat.zero_le _,qc.mpr ⟨(fM h.1 a).2,Nat.zero_le _⟩⟩)<|r_ m _⟩
section
variable{n:Nat}{L:H}{f:dC}
theorem vL{u num wl w c0 c1 c3 s t:Nat}{k0 k1 k3:List Nat}{g a1 a2 I gx gy gk:Ag}{h0 l T:Env}{T0 T1 T3:List D}{v0 c d vf vk C F:V}(ru:uW L u num a6)(hp:a6.np<=3)(mw:(wl,.list [.int w])∈L)(hw:w<2)(e0:a6.mO[0]?=some a3)(e1:a6.mO[w+1]?=some a4)(e3:a6.mO[3]?=some a5)(p3:a5.ps=[s,t])
 (l0:a3.la=.iff g)(l1:a4.la=.dj a1 a2)(l3:a5.la=.call I gx gy gk)(o0:ic k0 c0 a3.os)(o1:ic k1 c1 a4.os)(o3:ic k3 c3 a5.os)(n0:a3.os.length<=2)(R:a4.os.length<=2)(b:a5.os.length<=2)
 (r0:gT a3.os (uc a6,[])=some (h0,T0))(q0:dU h0 g=some v0)(r1:gT a4.os (h0,T0++[uj v0])=some (l,T1))(qa:dU l a1=some c)(qb:dU l a2=some d)(r3:gT a5.os ((l.put s c).put t d,T1)=some (T,T3))(qf:dU T I=some vf)(qk:dU T gk=some vk)(qx:dU T gx=some C)(qy:dU T gy=some F)
 (M:∀r ts a7,um a7 ts (T3++[CJ vf vk C F])->jb (T3++[CJ vf vk C F])<=500->U O ((r,.list ts)::(a7++L)) (f<|.ref r)):U O L<|Tn (n+3) .fR [.ref u,.ref wl] f:=by
 obtain⟨pl,bl,Bs,W,m2,m3,P_⟩:=ru;refine bS (P_.at e0) λB0 f0 WM=>bS (P_.at e1) λB1 f1 Mv=>?_;refine bS (P_.at e3) λB3 f3 YL=>?_;obtain⟨pa,ob,S4,ov,p1,p2,_⟩:=id YL;rw[p3] at p2;rw[Nat.zero_add] at WM Mv YL;have WN:∀{i B:Nat},Bs[i]?=some B->(Bs.map V.ref)[i]?=some (.ref B):=λe=>by rw[oe,e];rfl
 have X:=rI (AY a6) r0;have VU:=X.test q0;have WO:=rI VU r1;have VV:SB (0+a3.os.length+a4.os.length) ((l.put s c).put t d,T1):=⟨(WO.1.put<|fM WO.1 qa).put<|fM WO.1 qb,WO.2⟩;have a:=rI VV r3;have he:a6.ah<10:=by have:a6.rest.toNat<=1:=(by cases a6.rest<;>decide);exact aG 0x1c02101013c0200101ac021c1001d05d0a1 z hp this
 have Q:∀{x y:Nat×a0},x∈L->x∈y::L:=λJ=>N J;have dd:jb (T3++[CJ vf vk C F])<=500:=by refine eJ (DB.VJ (c:=0+a3.os.length+a4.os.length+a5.os.length+4)<|a.2.add ?_)<|bF 0x2c02201012c02101012c02001011f4c044c210c01d05d09d0dd121 z n0 R b;exact eJ (s4<|qc.mpr ⟨Nat.zero_le _,qc.mpr ⟨Nat.le_succ_of_le (fM a.1 qf).2,qc.mpr ⟨Nat.le_succ_of_le (fM a.1 qk).2,qc.mpr ⟨WJ (fM a.1 qx)<|fM a.1 qy,Nat.zero_le _⟩⟩⟩⟩)<|r_ m _
 refine CI W z rfl m2 mw hp λhd tl o gY k G g3 g4 g5=>aY .a<|kp .z 3<|eI .a<|C0 .z z<|wx (X:=[]) (T:=[]) (S:=[]) .nil (Q W) z (Q m3) (WN f0) (WM.mono λ_ J=>Q J) o0 n0 (by rw[ny];exact AY a6) (by rw[ny];exact r0) (vs:=[]) (by rw[l0];rfl) (by rw[nA];exact ci ‹_› m) (Nat.succ_pos _) g5 g3 k G λHs ts Y al la cY Z tt ee z1 z2 y1 y2 y3=>?_;have h:∀{x:Vr}{v:V},gY x=some v->x≠.dQ->x≠.data->x≠.aB->x≠.op->x≠.last->cY x=some v:=λe R S b p A=>(y3 _ R S b p A).trans e;rw[l0] at Z;have Z:∃ag j,(la,a0.inst .gw<|lF .SM g.v ag .none j)∈(o,a0.list [.int w])::L/\(j,a0.list [.int 1,.int 2])∈(o,a0.list [.int w])::L:=by cases Z with|iff x y P=>exact⟨_,_,x,P⟩
 refine iB Z λag j d1 d2=>?_;clear Z;have d2':(j,a0.list [.int 1,.int 2])∈L:=by
  refine db (ew.mp d2) (λP=>?_) λP=>?_;·injection P with _ P;injection P with P;injection P with _ P;cases P
  ·exact P
 rw[nA] at z1;have YM:(ts++[V.aF [.str .test,v0]]).length<=3:=by rw[eR];exact s4 z2
 refine Sz (cs _ d1) (At.head.skip Y) (cs _<|N d2') hw (ee▸q0) y1 (h k m m m m m) (h G m m m m m) (h g4 m m m m m) (sg z2 m)<|
  iM<|eI .a<|C0 .z z<|wx (L:=(o,.list [])::L) (X:=(al,.list [])::Y) (i:=w+1) (vs:=[c,d]) ((tt.mono λ_ J=>N J).add<|.test<|i8 X.1 q0) (Q W) rfl (Q m3) (WN f1) (Mv.mono λ_ J=>Q J) o1 R (by rw[ee];exact VU) (by rw[ee];exact r1) (by rw[l1];exact vd qa qb) (aG 0x4c101d0600101ac021c101d0601258c041c001d061 z he z1) (bN 0x3c0200101258c041c001d061 z YM) (h g5 m m m m m) rfl (h k m m m m m) (h G m m m m m) λsa uo Y' al' la' lg E OK VS z1' z2' y1' y2' y3'=>?_
 have SD:∀{x:Vr}{v:V},gY x=some v->x≠.dQ->x≠.data->x≠.aB->x≠.op->x≠.last->x≠.at_->lg x=some v:=λe R S b p A n6=>(y3' _ R S b p A).trans<|(if_neg n6).trans<|h e R S b p A;rw[l1] at E;have E:∃ag j,(la',a0.inst .gw<|lF .dj .none ag .none j)∈(o,a0.list [])::L/\(j,a0.list [.int 3])∈(o,a0.list [])::L:=by cases E with|dj x y P=>exact⟨_,_,x,P⟩
 refine iB E λag' b'' d1' VG=>?_;clear E;refine OP (cs _ d1') (cs _ VG) (cs _<|Q W) z (cs _<|Q m3) (WN f3) (cs _<|Q p1) z (cs _<|Q p2) y1' y2' (SD k m m m m m m) (SD g5 m m m m m m) (bF 0x4c201d06001014c101d0620101ac021c101d0601384c041c001d061 z he z1 z1') λL5 at5 y5=>?_;have K:∀{x:Vr}{v:V},gY x=some v->x≠.dQ->x≠.data->x≠.aB->x≠.op->x≠.last->x≠.at_->x≠.bL->x≠.value->L5 x=some v:=λe R S b p A n6 n7 n8=>(y5 _ n7 n8 n6).trans<|SD e R S b p A n6;have ek:dm (aE (t:Int) d<|aE (s:Int) c sa)=(l.put s c).put t d:=by rw[gM,gM,VS]
 have lk1:=gZ (s:Int) c sa;have lk2:=gZ (t:Int) d<|aE (s:Int) c sa;refine iM<|eI .a<|C0 .z z<|wx (L:=(o,.list [])::L) (X:=(al',.list [c,d])::Y') (i:=3) (vs:=[C,F]) (OK.mono λ_ J=>N J) (Q W) rfl (Q m3) (WN f3) (YL.mono λ_ J=>Q J) o3 b (ek▸VV) (ek▸r3) (l3▸vd qx qy) (L1 [_,_,_,_,_] 0x1c401d06001011c301d06401014c201d06301014c101d0620101ac021c101d0601258c041c001d061 z he z1 z1' lk1 lk2) (aG 0x2c101d06001013c0210101258c041c001d061 z YM z2') (K g5 m m m m m m m m) at5 (K k m m m m m m m m) (K G m m m m m m m m) λaal aam Y'' YO aan xZ VX YQ VY aao YR YS YT VZ=>?_;rw[l3] at VX;cases VX with
 |call x y P=>
 exact ON (cs _ x) (VY▸qf) (VY▸qk) YS YT ((VZ _ m m m m m).trans<|K k m m m m m m m m) ((VZ _ m m m m m).trans<|K G m m m m m m m m) (bF 0x2c201d06001012c101d06201013c0210101384c041c001d061 z YM z2' YR) λr=>aA (λH=>O.sub H<|.cons_cons _<|.cons _<|.cons _<|List.Sublist.append (.refl _)<|.cons _<|.refl _)<|M r _ ((YO,a0.list [C,F])::Y'') ((YQ.mono λ_ J=>N J).add<|.call q (i8 a.1 qf) (i8 a.1 qk)<|S5 (i8 a.1 qx)<|i8 a.1 qy) dd
end
def H5(e:Env):Prop:=∀x v,e x=some v->yg v=true
theorem H5.put{v:V}(h:H5 e)(k:yg v):H5<|e.put r v:=λx w q=>by
 by_cases z:x=r;·subst z;rw[cP] at q;cases q;exact k
 ·rw[b4 _ _ z] at q;exact h x w q
theorem wy(h:H5 e):∀{k:List Nat}{a:List V},cu e k=some a->tf a:=λ{l}=>by
 induction l with
 |nil=>intro a q;cases q;rfl
 |cons r k m=>intro a q;refine oB q λv p c=>?_;clear q;refine oM c ?_;clear c;rintro t s rfl;show(yg v&&tf t)=true;rw[h r v p,m s];rfl
theorem L7:∀{c:List Nat}{a:List V},cu e c=some a->a.length=c.length:=λ{k}=>by
 induction k with
 |nil=>intro a q;cases q;rfl
 |cons r c l=>intro a q;refine oB q λv p h=>?_;clear q;refine oM h ?_;clear h;rintro s m rfl;exact congrArg (·+1)<|l m
section
variable{n:Nat}{L s:H}{f:Sp}{b g w i j:Nat}{d:List (Int×V)}{o:List V}{T:aV}{C:List V}{A:List Int}{Y:dC}
theorem OR(m:(b,.dict false d)∈L){a:List Nat}:∀{c B:List V}{T:aV},cu (dm d) a=some c->T .bz=some (.ref b)->(∀u,U O L λh=>a1 (B++c) ⟨u,h⟩)->
 Co O f L [] (.one .cB) .tt (.ay .sub<|.cons (.ai .bz)<|.cons (.ai .cB) Es.nil) a1 (G a) B T:=by
 induction a with
 |nil=>exactλ{c B T} e _ q=>gB jS (by cases e;have:=q T;rw[j0] at this;exact this)
 |cons r a x=>intro c B T e D q;refine oB e λv p k=>?_;clear e;refine oM k λz l t=>?_;clear k;subst t;rw[List.append_cons] at q;exact cJ (x:=.int r) (xs:=G a) .v jS<|y .a D<|cH .a m p<|cF<|x l D q
end
theorem AZ(l:Lv){K:Kk}{c:List I}{p:Fr}{d:List Nat}{h:List V}(m:(b,.dict false i)∈L)(e:cu (dm i) d=some h)(f:g .bz=some (.ref b))(q:∀a,eh O j K l ((a,.list h)::L) g c<|.v (.ref a) p):
 J O j K L g (.cp (.ay .sub<|.cons (.ai .bz)<|.cons (.ai .cB) Es.nil) (.one .cB) .it .tt::c)<|.v (.aF<|G d)<|.m p:=tY l<|OR (B:=[]) m e f λk=>dF q
def KB(m:Nat)(f:List<|Int×V):Prop:=∀x∈f,0<=x.1/\x.1<(m:Int)
theorem KB.set{m r:Nat}{f:List (Int×V)}{v:V}(h:KB m f)(a:r<m):KB m<|aE (r:Int) v f:=LW (P:=λi=>0<=i/\i<(m:Int)) ⟨jp r,Int.ofNat_lt.mpr a⟩ h
section
variable{n:Nat}{L b:H}{t u w s Y A e:Nat}{f:List (Int×V)}{l:List V}{C:List V}{j:List Int}{i:dC}{F:V}{T:List D}
theorem OS(mw:(w,.inst .Unit [(.cC,.ref s),(.bE,.ref Y),(.globals,.ref A),(.fh,F)])∈L)(mc:(Y,.list C)∈L)(mg:(A,.list<|j.map .int)∈L)(Z:a2.Sk)(J:∀r∈a2.writes,r<e)(tt:um b l T)(I:H5<|dm f)(kb:KB e f)
 (c:oC C j a2 (dm f,T)=some s')(sm:f.length<800)(st:l.length<800)
 (a3:∀sa uo a1,um (a1++b) uo s'.2->dm sa=s'.1->H5 s'.1->KB e sa->sa.length<=f.length+2->uo.length<=l.length+1->U O (LM t u sa uo<|a1++L) (i .none)):U O (LM t u f l L)<|Tn (n+3) .qp [.ref w,.ref t,.ref u,a2.v] i:=by
 haveI VQ:l.length=T.length:=tt.len;have a5:∀{r:Nat}{v:V}(a1:H),yg v->r<e->((dm f).put r v,T)=s'->U O (LM t u (aE (r:Int) v f) l<|a1++L) (i .none):=λ{r v} a1 nv hr S=>by clear c;subst S;exact a3 _ l a1 (tt.mono λ_ k=>cs _ k) (gM ..) (I.put nv) (kb.set hr) (Nat.le_succ_of_le<|gZ ..)<|Nat.le_succ _
 haveI C2:f.length<1000000:=f6 sm m;haveI Su:l.length<1000000:=f6 st m;haveI up:∀{x},x∈L->x∈LM t u f l L:=LM.mem;haveI YU:∀{k:Nat}{g:Int},j[k]?=some g->(j.map V.int)[((k:Nat):Int).toNat]?=some (.int g):=λ{k g} S=>by show(j.map V.int)[k]?=_;rw[oe,S];rfl
 induction a2 using cL.casesOn with
 |cst r k=>refine oB c λd h K=>?_;clear c;refine oM K λy E c4=>?_;clear K;exact aZ .a [.cX,.bz,.eV,.op] fT z rfl rfl<|Q .a (up mw) z<|fL .e (up mc) (jp k) h<|eE (us:=[d]) .a (.str y) (by show((ec d).map _).bind _=_;rw[E];rfl) ⟨z,z⟩<|fC .a .head C2<|dE<|a5 (v:=cV y) [] z (J r q) c4
 |iH r k=>exact aZ .a [.cX,.bz,.eV,.op] fT z rfl rfl<|fC .a .head C2<|dE<|a5 (v:=fV k) [] z (J r q)<|me c
 |zy r a4=>refine oM c λv h K=>?_;clear c;exact aZ .a [.cX,.bz,.eV,.op] fT z rfl rfl<|cH .a q h<|fC .a .head C2<|dE<|a5 [] (I a4 v h) (J r q) K
 |Fm r k=>refine oM c λg h K=>?_;clear c;exact aZ .a [.cX,.bz,.eV,.op] fT z rfl rfl<|Q .a (up mw) z<|fL (w:=.int g) .a (up mg) (jp k) (YU h)<|fC .a .head C2<|dE<|a5 (v:=gV g) [] z (J r q) K
 |set wd k a4=>
  refine oB c λg h K=>?_;clear c;refine oM K λv E c4=>?_;clear K a5;subst c4;haveI fin:U O (LM t u f (l++[.aF [.str wd,.int g,v]]) L)<|i .none:=a3 f _ [] (tt.add<|.set<|I a4 v E) z I kb (ox _ _) (by rw[eR];exact ct _);rcases(Z.elim id nofun:wd=.jw\/wd=.eN) with S|S
  ·subst S;exact aZ .a [.cX,.bz,.eV,.op] fT z rfl rfl<|gc .a (N q) z<|Q .a (up mw) z<|fL (w:=.int g) .a (up mg) (jp k) (YU h)<|cH .a q E<|de .a (.tail .head) Su<|dE fin
  ·subst S;exact aZ .a [.cX,.bz,.eV,.op] fT z rfl rfl<|gc .a (N q) z<|Q .a (up mw) z<|fL (w:=.int g) .a (up mg) (jp k) (YU h)<|cH .a q E<|de .a (.tail .head) Su<|dE fin
 |fix rows=>
  obtain⟨p,D,a,er⟩:∃p a3 a,rows=[(p,1,[a3,a]),(a3,2,[p])]:=Z.elim id nofun;clear Z;subst er;refine oM c λRH h x1=>?_;clear c;refine oB h λv1 K E=>?_;clear h;refine oM E λv2 c4 x2=>?_;clear E;refine oB c4 λv3 c6 c7=>?_;clear c4;refine oM c7 λv4 c8 x3=>?_;clear c7 a5;subst x1 x2 x3;cases c8;rw[show(dm f,T).2.length=l.length from VQ.symm] at K c6 a3;haveI nm:H5<|((dm f).put p<|bI l.length 1).put D<|bI l.length 2:=(I.put z).put z;haveI n1:=wy nm K;haveI n3:=wy nm c6;refine oB K λvq d1 d2=>?_;clear K;refine oM d2 λus d3 x4=>?_;clear d2;refine oB d3 λva d4 d5=>?_;clear d3;refine oM d5 λXY d6 x5=>?_;clear d5;subst x4 x5;cases d6;refine oB c6 λvp g1 g2=>?_;clear c6;refine oM g2 λaap g3 x6=>?_;clear g2;subst x6;cases g3;haveI l1:=gZ (p:Int) (bI l.length 1) f;haveI l2:=gZ (D:Int) (bI l.length 2)<|aE (p:Int) (bI l.length 1) f;exact aZ .a [.cX,.bz,.eV,.op] fT z rfl rfl<|tY .a<|cJ (x:=iZ (p,1,[D,a])) (xs:=[iZ (D,2,[p])]) .a jS<|tY .a<|cJ (x:=.int D) (xs:=G [a]) .a jS<|cF<|cJ (x:=.int a) (xs:=[]) .a jS<|cF<|gB jS<|dF λW=>cF<|
   cJ (x:=iZ (D,2,[p])) (xs:=[]) .a jS<|tY .a<|cJ (x:=.int p) (xs:=[]) .a jS<|cF<|gB jS<|dF λX=>cF<|gB jS<|dF λrl=>
   aA (L':=LM t u f l<|(rl,.list [.aF [.int p,.int 1,.ref W],.aF [.int D,.int 2,.ref X]])::(X,.list [(Ag.bL p).v])::(W,.list [(Ag.bL D).v,(Ag.bL a).v])::L) (aT.mv [] [_,_,_] [_,_])<|M .a<|
   FN q (N<|N q) (N q) (f6 sm m) (f6 st m) d4 d1 g1 ⟨n1,n3⟩ λa1 te t2=>dE<|
   aA (λo=>O.sub o<|.cons_cons _<|.cons_cons _<|List.Sublist.append (.refl a1)<|.cons _<|.cons _<|.cons _<|.refl L)<|a3 _ _ a1 ((tt.mono λ_ k=>cs _ k).add<|t2.mono λ_ k=>ll _ k) (by rw[gM,gM];rfl) nm ((kb.set<|J p q).set<|J D<|N q) (bF 0x1c201d06001011c101d06201012c101d060011 z l1 l2) (by rw[eR];exact ct _)
 |yK r k ss=>
  refine oM c λB h K=>?_;clear c a5;subst K;obtain⟨a,P,es⟩:∃a P,ss=[a,P]:=Z.elim id nofun;clear Z;subst es;exact aZ .a [.cX,.bz,.eV,.op] fT z rfl rfl<|AZ .a (d:=[a,P]) q h z λal=>aA (L':=LM t u f l<|(al,.list B)::L) (aT.mv [] [_] [_,_])<|fv .a (N q)<|fC .a .head C2<|gc .a (N q) z<|de .a (.tail .head) Su<|dE<|
   a3 _ _ [(al,.list B)] ((tt.mono λ_ k=>N k).add<|.ay q<|wy I h) (by show dm (aE (r:Int) (yL l.length) f)=(dm f).put r (yL T.length);rw[gM,VQ]) (I.put z) (kb.set<|J r q) (Nat.le_succ_of_le<|gZ ..) (by rw[eR];exact ct _)
 |A5 r k ss=>
  refine oM c λB h K=>?_;clear c;obtain⟨a,P,es⟩:∃a P,ss=[a,P]:=Z.elim id nofun;clear Z;subst es;haveI vl:=L7 h;exact aZ .a [.cX,.bz,.eV,.op] fT z rfl rfl<|AZ .a (d:=[a,P]) q h z λal=>aA (L':=LM t u f l<|(al,.list B)::L) (aT.mv [] [_] [_,_])<|iC .o (N<|N q)<|
   eE (us:=[.aF [.str .bt,.int k],.aF B]) .a (vG k B) (by show((if fi (2+B.length) then some (R.val<|vG k B) else none).bind _:Option V)=_;rw[vl];rfl) ⟨z,z⟩<|fC .a .head C2<|dE<|a5 (v:=vG k B) [(al,.list B)] (by show tf B=true;exact wy I h) (J r q) K
end
def kq:Ss:=match Ss.dr 2 rc with
 |.cons (.zN<|.cons (.du _ _ _ b) _) _=>b
 |_=>.nil
structure RE(b:aV)(u g a A w:Nat):Prop where
 h:b .bz=some (.ref u)
 t:b .eV=some (.ref g)
 l:b .left=some (.ref a)
 c:b .code=some (.ref A)
 w:b .cX=some (.ref w)
theorem RE.on{u g G A w:Nat}(e:RE b u g G A w)(k:∀x,x≠.op->x≠.at_->x≠.jt->a x=b x):RE a u g G A w:=
 ⟨(k _ m m m).trans e.h,(k _ m m m).trans e.t,(k _ m m m).trans e.l,(k _ m m m).trans e.c,(k _ m m m).trans e.w⟩
theorem SE{o:cL}(f:o.Sk):∃a c,o.v=.aF (.str a::c)/\a≠.zH/\a≠.fE/\a≠.call/\a≠.cU:=by
 induction o using cL.casesOn with
 |set w k s=>
  haveI b:=f.elim id nofun;refine(fJ w _ z ?_)
  (clear f;rcases b with rfl|rfl)<;>decide
 |_=>exact⟨_,_,z,by decide,by decide,by decide,by decide⟩
theorem L8:∀{k:List (Int×V)},k≠[]->∃i,pi k=some i/\∃x∈k,x.1=i
 |[(a,v)],_=>⟨a,z,_,.head _,z⟩
 |(a,v)::x::k,_=>by
  refine O6 (L8 (k:=x::k) nofun) λi e y m b=>?_;refine(a_ (if a<i then i else a) (by show(pi<|x::k).map _=_;rw[e];rfl) ?_);split;·exact(a_ y (N m) b)
  ·exact(a_ _ q z)
section
variable{n:Nat}{L:H}{u g T A w h i:Nat}{d:List (Int×V)}{F C:List V}{K:Kk}{Y:aV}{s:Sp}{r:List (IK×V)}
theorem uq(b:(A,.inst .dP r)∈L)(k:r.lookup .ak=some (.ref h))(c:(h,.list C)∈L)(e:C[i]?=some j)(f:RE Y u g T A w)(a:Y .at_=some (.int i))(q:J O s K L (bX (bX Y .op j) .at_<|.int (i+1:Nat)) [.ss<|Ss.dr 2 kq] .b):J O s K L Y [.ss kq] .b:=
 aY .v<|y .a f.c<|Q .v b k<|y .a a<|fL .v c (jp i) e<|y .o a<|aY .o<|aY .o<|aY .o<|aY .o q
theorem OT(e:Y .op=some (P2 a))(q:J O s K L (bX Y .at_<|.int a) [] .b):J O s K L Y [.ss<|Ss.dr 2 kq] .b:=aY .v<|y .v e<|y .a e q
theorem V0{v l B:Nat}{c:List V}{b:H}(f:At T (.list<|.int B::c) (.list c) L b)(e:Y .op=some (Mw v l))(k:RE Y u g T A w)(j:Y .at_=some (.int i))(p:dm d v=some x)(D:F.length<900)
 (t:J O s K (LM u g d (F++[.aF [.str .test,x]]) b) (bX Y .at_<|.int (if B=0 then i else l:Nat)) [] .b):J O s K (LM u g d F L) Y [.ss<|Ss.dr 2 kq] .b:=
 aY .v<|y .v e<|y .v e<|y .v k.t<|gc .v (N q) z<|y .v k.h<|y .a e<|cH .a q p<|de .v (.tail .head) (f6 D m)<|y .v k.l<|gc .a (LM.mem f.mem) z<|L4 .e (.tail<|.tail f)<|
  nh .v .v (λa=>y .a j<|by rw[if_pos<|Int.ofNat.inj a] at t;exact t) λa=>y .a e (by rw[if_neg λo=>a<|congrArg Int.ofNat o] at t;exact t)
def YV:E:=.ite (.e<|.ay (.eW .lt)<|.cons (.ay .ke<|.cons (.ai .bz) Es.nil)<|.cons (.ay (.attr .bi)<|.cons (.ai .code) Es.nil) Es.nil) (.ai .eV)<|.hD .none
theorem SF(l:Lv)(m:(a,.dict lk bo)∈L)(e:pi bo=some j)(k:eh x s K l L Y c<|.v (.int j) gs):J x s K L Y (.p .ke::c)<|.v (.ref a)<|.m gs:=
 aS ⟨λf b=>(a_ _ (bj (o:=f a) (x.get b m)<|cR (o:=pi bo) (f:=λi=>R.val<|V.int i) e)<|(aJ k).at_ f b)⟩
theorem L9{c:List I}{p:Fr}{o:Nat}(j:(A,.inst .dP r)∈L)(f:r.lookup .bi=some (.int o))(b:KB o d)(l:d≠[])(m:RE Y u g T A w)(t:U O (LM u g d F L) λa1=>K (.ret<|.ref g) ⟨Y,a1⟩):
 J O s K (LM u g d F L) Y (.e YV::.ret::c) p:=by
 refine O6 (L8 l) λi e x k a=>?_;subst a;exact aY .v<|y .a m.h<|SF .v q e<|y .a m.c<|Q .b (LM.mem j) f<|Ce .v (decide_eq_true (b x k).2)<|y .a m.t<|AX t
theorem ur(e:dm d a=some b):d≠[]:=λz=>by subst z;cases e
theorem OU{k a b x:Nat}(D:(A,.inst .dP r)∈L)(B:r.lookup .bi=some (.int x))(p:KB x d)(e:Y .op=some (LR k a b))(v:RE Y u g T A w)(f:dm d k=some a3)(l:dm d a=some j)(o:dm d b=some a2)(E:F.length<900)
 (t:∀c,U O (LM u g d (F++[.aF [.str .cU,a3,.ref c]])<|(c,.list [j,a2])::L) λa1=>K (.ret<|.ref g) ⟨Y,a1⟩):J O s K (LM u g d F L) Y [.ss<|Ss.dr 2 kq] .b:=
 aY .v<|y .v e<|y .v e<|y .v e<|y .v e<|y .v v.t<|gc .v (N q) z<|y .v v.h<|y .a e<|cH .v q f<|y .a e<|AZ .a (d:=[a,b]) q (oD l o) v.h λc=>aA (L':=LM u g d F<|(c,.list [j,a2])::L) (aT.mv [] [_] [_,_])<|
  de .o (.tail .head) (f6 E m)<|aY .o<|aY .o<|L9 (N D) B p (ur f) v<|t c
theorem OV{f k a b l:Nat}(v:(A,.inst .dP r)∈L)(t:r.lookup .bi=some (.int l))(E:KB l d)(e:Y .op=some (tz f k a b))(G:RE Y u g T A w)(D:dm d f=some x)(j:dm d k=some a4)(o:dm d a=some a2)(p:dm d b=some a3)(H:F.length<900)
 (B:∀c,U O (LM u g d (F++[.aF [.str .call,x,a4,.ref c]])<|(c,.list [a2,a3])::L) λa1=>K (.ret<|.ref g) ⟨Y,a1⟩):J O s K (LM u g d F L) Y [.ss<|Ss.dr 2 kq] .b:=
 aY .v<|y .v e<|y .v e<|y .v e<|y .v G.t<|gc .v (N q) z<|y .v G.h<|y .a e<|cH .v q D<|y .v G.h<|y .a e<|cH .v q j<|y .a e<|AZ .a (d:=[a,b]) q (oD o p) G.h λc=>aA (L':=LM u g d F<|(c,.list [a2,a3])::L) (aT.mv [] [_] [_,_])<|
  de .o (.tail .head) (f6 H m)<|aY .o<|aY .o<|L9 (N v) t E (ur j) G<|B c
end
theorem t6{g P S:List V}{c:List cL}{i j:Nat}{o:cL}(e:g=P++(c.map cL.v++S))(a:P.length=i)(h:c[j]?=some o):g[i+j]?=some o.v:=by subst e a;haveI b:=(v6.mp h).1;rw[List.getElem?_append_right<|ox _ _,Nat.add_sub_cancel_left,List.getElem?_append_left (by rw[fZ];exact b),oe,h];rfl
theorem A0{g P S:List V}{x:V}{i:Nat}(e:g=P++x::S)(a:P.length=i):g[i]?=some x:=by subst e a;rw[List.getElem?_append_right<|ct _,Nat.sub_self];rfl
section
variable{n:Nat}{L:H}{p t j A w h r c K F:Nat}{C g:List V}{f:List Int}{Y:V}{u:Kk}{T:List (IK×V)}
theorem V1(l:Lv)(k:eh i e (Kf u<|sZ l e u x gs) l L a [.ss b] .b):J i e u L a (.s (.zN b)::x) gs:=by rw[hU] at k;exact aS ⟨λm H=>by refine(iff_of_eq<|congrArg (λq=>gp e b q ⟨a,m⟩) ?_).mp<|(aJ k).at_ m H;funext d s;cases d<;>rfl⟩
theorem uu(mw:(w,.inst .Unit [(.cC,.ref h),(.bE,.ref r),(.globals,.ref c),(.fh,Y)])∈L)(mc:(r,.list C)∈L)(mg:(c,.list<|f.map .int)∈L)(mp:(A,.inst .dP T)∈L)(lc:T.lookup .ak=some (.ref K))(mi:(K,.list g)∈L){os:List cL}:
 ∀{xs:List V}{i:Nat}{b:List (Int×V)}{R:List V}{B:List D}{W:H}{a:aV}{s:AH},t7 F os->(∀J o,os[J]?=some o->g[i+J]?=some o.v)->xs.length=os.length+a1->um W R B->H5 (dm b)->KB F b->fX C f os (dm b,B)=some s->
  b.length+2*os.length<700->R.length+os.length<700->RE a p t j A w->a .at_=some (.int i)->
  (∀d v k Q S,d.length=a1->um Q k s.2->dm v=s.1->H5 s.1->KB F v->v.length<=b.length+2*os.length->k.length<=R.length+os.length->RE S p t j A w->S .at_=some (.int (i+os.length:Nat))->Fo O (Tn<|n+3) (LM p t v k<|Q++L) [] (.one .jt) kq u d S)->
  Fo O (Tn<|n+3) (LM p t b R<|W++L) [] (.one .jt) kq u xs a:=by
 induction os with
 |nil=>intro xs i b R B W a s _ _ l tt nr kb E _ _ re Z P;cases E;exact P xs b R W a (l▸Nat.zero_add a1) tt z nr kb (ct _) (ct _) re Z
 |cons o os ih=>
  intro xs i b R B W a s ao at_ l tt nr kb E s1 s2 re Z P;rw[jM] at s1 s2 l;refine oB E λI c1 c2=>?_;clear E;refine oA (ao o q) λG ow=>?_;obtain⟨tag,us,ev,t1,t2,t3,t4⟩:=SE G;induction xs using da with
  |nil=>exact absurd l<|List.length_nil▸λzz=>aG 0x11c001d06d0ac01210 z zz
  |cons x xs=>
   haveI up:∀{x W},x∈L->x∈W++L:=λm=>cs _ m;haveI L_:RE (bX a .jt x) p t j A w:=re.on λx _ _ n=>if_neg n;haveI U:=congrArg some ev;refine aO .z jS<|uq (LM.mem<|up mp) lc (LM.mem<|up mi) (at_ 0 o z) L_ Z<|aY .v<|y .e U<|pW .v t1<|y .e U<|pW .v t2<|y .e U<|pW .v t3<|y .e U<|pW .v t4<|y .v re.w<|y .v re.h<|y .v re.t<|y (v:=o.v) .a z<|M .a<|
    OS (up mw) (up mc) (up mg) G ow tt nr kb c1 (aG 0x2bcc041c1c101d201e001d0ed1301320c041c001d061 z s1) (aG 0x2bcc041c1c101d001d0ad0f01320c041c001d061 z s2) λLZ VR X L0 ee V2 V3 l1 l2=>aP ?_
   haveI es:I=(dm LZ,I.2):=by rw[ee]
   rw[es] at c2;rw[<-lX];refine ih (i:=i+1) (λo m=>ao o<|N m) (λJ o e=>by rw[show i+1+J=i+(J+1) by exact ng (aG 0x1c101d001d0a11c001d06d0a1 z)<|aG 0x11c001d06d0a1c101d001d0a1 z];exact at_ (J+1) o e) (by rw[jM] at l;exact ng (bF 0x21c101d06d0a1c001d06112101d050011 z l)<|bF 0x11c001d06d0a1c201d06212011001d051 z l) L0 (ee▸V2) V3 c2 (bF 0x2c201d06001012bcc041c1c101d201e201d0ed13012bcc041c1201e001d09d0e1 z s1 l1) (bF 0x1c201d06001012bcc041c1c101d201d0ad0f012bcc041c1001d05d0a1 z s2 l2) (L_.on λx n1 n2 _=>(if_neg n2).trans<|if_neg n1) rfl λd v k Q S H6 OK VS S6 YW Sw VT YX YY=>?_;exact P d v k Q S H6 OK VS S6 YW (jM▸jQ 0x2201e301d09001012c101d06301011c201d201e101d0e0011 z l1 Sw) (jM▸jQ 0x2301d05001011c101d06301011c201d101d0a0011 z l2 VT) YX (by rw[YY,jM,show i+1+os.length=i+(os.length+1) by exact ng (aG 0x1c101d001d0a11c001d06d0a1 z)<|aG 0x11c001d06d0a1c101d001d0a1 z])
theorem V4{o:List V}(E:(a2,.list o)∈L){m:List V}{d:Nat}:∀{k:Nat}{a:aV},k+d<900->a .bz=some (.ref p)->(∀b,(∀x,x≠.aa->x≠.bL->b x=a x)->U O (LM p t (vK<|k+d) m L) λD=>u .next ⟨b,D⟩)->
 Fo O a1 (LM p t (vK k) m L) [(a2,.list o)] (.many [.aa,.bL]) (bD rc) u (fk k<|G<|List.range' k d) a:=by
 induction d with
 |zero=>exactλ{k a} _ _ q=>b5 (df<|LM.mem E)<|q a λ_ _ _=>rfl
 |succ d H=>
  intro k a l e q;have i:k+1+d=k+(d+1):=by rw[Nat.add_assoc,Nat.add_comm 1]
  rw[<-i] at q;exact aO (x:=.aF [.int k,.int k]) (xs:=fk (k+1)<|G<|List.range' (k+1) d) .v (df<|LM.mem E)<|y .v z<|y .a e<|eY .a (FQ k) .head (by rw[nA];exact aG 0x384c041c1c101d001d0ad0f01f4240c061c001d061 z l)<|aP<|
   H (i▸l) e λb B=>q b λx s v=>(B x s v).trans<|(if_neg v).trans<|if_neg s
theorem Qa(b:e<=s):KB s<|vK e:=λx q=>by refine bS (List.mem_map.mp q) ?_;clear q;rintro i a rfl;have:=List.mem_range.mp a;exact⟨jp i,Int.ofNat_lt.mpr<|bF 0x2011c001d0601101201011011c001d061 z b this⟩
theorem FT(U:Un):H5<|uc U:=λa v q=>by
 haveI q:(if a<U.ah then some (P6 a) else none)=some v:=q;split at q;·cases q;rfl
 ·cases q
theorem CL{Q:dC}{d o B e:Nat}(l:(d,.list<|G<|List.range e)∈L)(k:(o,.list [.int B])∈L)(i:e<900)
 (q:∀(u:Kk) p t j a1 b,(∀a2 s,Q a2 s.h->u (.ret a2) s)->a1.length=80->RE b p t j A w->b .at_=some (.int (0:Nat))->Fo O (Tn<|n+3) (LM p t (vK e) []<|(j,.list [.int B])::L) [] (.one .jt) kq u a1 b):U O L<|Tn (n+4) .j_ [.ref w,.ref A,.ref d,.ref o] Q:=by
 refine aZ .a [.cX,.code,.fQ,.qo] rc z rfl rfl<|aW .a λp=>aW .a λt=>mG .a (N<|N k) λj=>aA (L':=LM p t (vK 0) []<|(j,.list [.int B])::L) (λH=>O.perm H<|(List.Perm.swap _ _ _).trans<|(List.Perm.cons _<|.swap _ _ _).trans<|.swap _ _ _)<|Ez .a (LM.mem<|N l) ?_;haveI v:vK (0+e)=vK e:=by rw[Nat.zero_add]
 rw[List.range_eq_range'] at l⊢;refine V4 (k:=0) (d:=e) (N l) (bN 0x384c041c001d0601384c041c0c01d05d0a1 z i) z λy a=>?_;rw[v];exact V1 .a<|wk .a m m<|q _ p t j _ y (λ_ _ x=>x) rfl ⟨(a _ m m).trans z,(a _ m m).trans z,(a _ m m).trans z,(a _ m m).trans z,(a _ m m).trans z⟩<|(a _ m m).trans z
end
section
variable{n:Nat}{L:H}{w Y f t u b p v F e:Nat}{C a:List V}{j:List Int}{A:V}{d:List (IK×V)}{h:dC}{T:List D}
theorem Ma{i o c r:Nat}{q g l:List V}{W:H}{P:Hp->Prop}(k:U O ((o,.list q)::(((c,.list g)::W)++L)) P):U O (LM i o s q<|(c,.list g)::(W++((r,.list l)::L))) P:=
 aA (λm=>O.sub m<|.cons _<|.cons_cons _<|List.Sublist.append (l₁:=(c,a0.list g)::W) (.refl _)<|.cons _<|.refl L) k
structure RW(L:H)(w Y f t p u b:Nat)(C:List V)(j:List Int)(A:V)(d:List<|IK×V)(a:List V):Prop where
 w:(w,.inst .Unit [(.cC,.ref Y),(.bE,.ref f),(.globals,.ref t),(.fh,A)])∈L
 c:(f,.list C)∈L
 g:(t,.list<|j.map .int)∈L
 p:(p,.inst .dP d)∈L
 i:d.lookup .ak=some (.ref u)
 r:d.lookup .bi=some (.int b)
 m:(u,.list a)∈L
theorem RW.up(r:RW L w Y f t p u b C j A d a):RW (x::L) w Y f t p u b C j A d a:=⟨N r.w,N r.c,N r.g,N r.p,r.i,r.r,N r.m⟩
theorem OW{pk Z X Q:Nat}{S:Env}(EI:RW L w Y f t p u b C j A d a)(mb:(v,.list<|G<|List.range a1.ah)∈L)(mz:(F,.list [.int Q])∈L)(he:a1.ah<10)(hr:a1.ah<=b)
 (s:a=os.map cL.v++[LR pk Z X])(V:t7 b os)(R:os.length<=12)(ls:fX C j os (uc a1,[])=some (S,T))(M:S pk=some vk)(H:S Z=some va)(K:S X=some vb)
 (J:∀r a3 a2,um a2 a3 (T++[FR vk va vb])->U O ((r,.list a3)::(a2++L)) (h<|.ref r)):U O L<|Tn (n+4) .j_ [.ref w,.ref p,.ref v,.ref F] h:=by
 refine CL mb mz (ci ‹_› m) λKK hd tl y xs gY hk B re Mb=>?_;haveI c:=EI.up (x:=(y,a0.list [.int Q]));refine uu (W:=[]) (i:=0) (a1:=80-os.length) c.w c.c c.g c.p c.i c.m V (λE o e=>t6 (P:=[]) s z e) (ng (bF 0x50c031201d052150c03001112101d050011 z B<|hB (n:=80) (m:=os.length)<|bN 0xcc020010150c030011 z R)<|bF 0x50c030101d051150c03201212011001d051 z B<|hB (n:=80) (m:=os.length)<|bN 0xcc020010150c030011 z R) .nil (by rw[ny];exact FT a1) (Qa hr) (by rw[ny];exact ls) (by rw[nA];exact aG 0xcc0210102ac021c001d06012bcc041c1201e001d09d0e1 z he R) (by exact bN 0xcc02001012bcc041c0c01d05d0a1 z R) re Mb λg Hs a3 W cY H6 tt i k kb l1 l CN yj=>?_;rw[Nat.zero_add] at yj;induction g using da with
 |nil=>exact absurd H6 (by rw[List.length_nil];exactλzz=>aG 0x101c012150c030101d0521cc02001010 z R (hB (n:=80) (m:=os.length)<|bN 0xcc020010150c030011 z R) zz)
 |cons x g=>
 refine aO .z jS ?_;haveI P:RE (bX cY .jt x) hd tl y p w:=CN.on λx _ _ n=>if_neg n;refine uq (LM.mem<|cs _ c.p) c.i (LM.mem<|cs _ c.m) (A0 (P:=os.map cL.v) s<|fZ _) P yj ?_;refine OU (cs _ c.p) c.r kb z (P.on λx n1 n2 _=>(if_neg n2).trans<|if_neg n1) (by rw[i];exact M) (by rw[i];exact H) (by rw[i];exact K) (by rw[List.length_nil] at l;exact aG 0x1c01d0500101cc0210101384c041c001d061 z R l) λal=>?_;refine(Ma<|J tl _ ((al,.list [va,vb])::W)<|(tt.mono λ_ I=>N I).add<|.cU q (k _ _ M)<|S5 (k _ _ H)<|k _ _ K).imp λD x=>⟨uR,hk _ _ x⟩
theorem CO{os:List cL}{i X pf pk px py G tl E k:Nat}{y:List (Int×V)}{l xs P S:List V}{T1 T3:List D}{W:H}{c:aV}{e3:Env}{vf vk I Z:V}{lv:List V}{KK:Kk}(EI:RW L w Y f t p u b C j A d a)(CM:a=P++(os.map cL.v++tz pf pk px py::S))(hi:P.length=i)(ao:t7 b os)(len:os.length<=12)(lx:xs.length=os.length+(k+1))(tt:um W l T1)(nr:H5<|dm y)(kb:KB b y)
 (ls:fX C j os (dm y,T1)=some (e3,T3))(s1:y.length<500)(s2:l.length<500)(re:RE c G tl E p w)(ea:c .at_=some (.int i))(ef:e3 pf=some vf)(ek:e3 pk=some vk)(ex:e3 px=some I)(ey:e3 py=some Z)
 (hk:∀a2 s,h a2 s.h->KK (.ret a2) s)(R:∀r l a1,um a1 l (T3++[CJ vf vk I Z])->U O ((r,.list l)::(a1++L)) (h<|.ref r)):Fo O (Tn<|n+3) (LM G tl y l<|W++((E,.list lv)::L)) [] (.one .jt) kq KK xs c:=by
 haveI g:=EI.up (x:=(E,a0.list lv));refine uu (a1:=k+1) g.w g.c g.g g.p g.i g.m ao (λQ o e=>t6 CM hi e) lx tt nr kb ls (aG 0x1f4c041c001d0601cc02101022bcc041c1201e001d09d0e1 z len s1) (aG 0x1f4c041c001d0601cc02101012bcc041c1001d05d0a1 z len s2) re ea λK sa uo W' cY H6 OK B M YW l1 l2 CN yj=>?_;induction K using da with
 |nil=>exact absurd H6 (Nat.succ_ne_zero k).symm
 |cons x K=>
 refine aO .z jS ?_;haveI L_:RE (bX cY .jt x) G tl E p w:=CN.on λx _ _ n=>if_neg n;refine uq (LM.mem<|cs _ g.p) g.i (LM.mem<|cs _ g.m) (A0 (P:=P++os.map cL.v) (by rw[lX];exact CM)<|by rw[eR,fZ,hi]) L_ yj ?_;refine OV (cs _ g.p) g.r YW z (L_.on λx n1 n2 _=>(if_neg n2).trans<|if_neg n1) (by rw[B];exact ef) (by rw[B];exact ek) (by rw[B];exact ex) (by rw[B];exact ey) (bF 0x1201d05001011f4c041c201d0601cc0210101384c041c001d061 z len s2 l2) λal=>?_;refine(Ma<|R tl _ ((al,.list [I,Z])::W')<|(OK.mono λ_ m=>N m).add<|.call q (M _ _ ef) (M _ _ ek)<|S5 (M _ _ ex)<|M _ _ ey).imp λJ x=>⟨uR,hk _ _ x⟩
set_option maxHeartbeats 1000000 in
theorem CP{J r pf pk px py k H:Nat}{e0 e1 e3:Env}{v0 vf vk vx vy:V}{T1 T3:List D}{y:Un}(EI:RW L w Y f t p u b C j A d a)(mb:(v,.list<|G<|List.range y.ah)∈L)(mz:(F,.list [.int J])∈L)(he:y.ah<10)(hr:y.ah<=b)
 (M:a=c.map cL.v++Mw r k::(a3.map cL.v++(g.map cL.v++tz pf pk px py::(a5.map cL.v++[P2 H]))))(K:H=c.length+1+a3.length)(q2:k=H+(g.length+1))(ao:t7 b c/\t7 b a3/\t7 b a5/\t7 b g)(len:c.length<=12/\a3.length<=21/\a5.length<=21/\g.length<=12)
 (zw:(J=0/\a4=a3)\/(J≠0/\a4=a5))(ls0:fX C j c (uc y,[])=some (e0,T))(ev:e0 r=some v0)(YZ:fX C j a4 (e0,T++[uj v0])=some (e1,T1))(ls3:fX C j g (e1,T1)=some (e3,T3))(ef:e3 pf=some vf)(ek:e3 pk=some vk)(ex:e3 px=some vx)(ey:e3 py=some vy)
 (q:∀r a2 a1,um a1 a2 (T3++[CJ vf vk vx vy])->U O ((r,.list a2)::(a1++L)) (h<|.ref r)):U O L<|Tn (n+4) .j_ [.ref w,.ref p,.ref v,.ref F] h:=by
 refine oU ao λp0 p1 p2 p3=>?_;clear ao;refine oU len λP R Q n3=>?_;clear len;refine CL mb mz (ci ‹_› m) λKK hd tl B xs gY hk lx re Mb=>?_;haveI s:=EI.up (x:=(B,a0.list [.int J]));haveI i:=EI.up (x:=(B,a0.list []));refine uu (W:=[]) (i:=0) (a1:=80-c.length) s.w s.c s.g s.p s.i s.m p0 (λE o e=>t6 (P:=[]) M z e) (ng (bF 0x50c031201d052150c03001112101d050011 z lx<|hB (n:=80) (m:=c.length)<|bN 0xcc020010150c030011 z P)<|bF 0x50c030101d051150c03201212011001d051 z lx<|hB (n:=80) (m:=c.length)<|bN 0xcc020010150c030011 z P) .nil (by rw[ny];exact FT y) (Qa hr) (by rw[ny];exact ls0) (by rw[nA];exact aG 0xcc0210102ac021c001d06012bcc041c1201e001d09d0e1 z he P) (by exact bN 0xcc02001012bcc041c0c01d05d0a1 z P) re Mb λxs' Hs a2 W cY N tt ee nr kb l1 l CN yj=>?_;rw[Nat.zero_add] at yj;rw[nA] at l1;rw[List.length_nil] at l;induction xs' using da with
 |nil=>exact absurd N<|List.length_nil▸λzz=>aG 0x101c012150c030101d0521cc02001010 z P (hB (n:=80) (m:=c.length)<|bN 0xcc020010150c030011 z P) zz
 |cons x xs'=>
 rw[jM] at N;refine aO .z jS ?_;haveI L_:RE (bX cY .jt x) hd tl B p w:=CN.on λx _ _ n=>if_neg n;refine uq (LM.mem<|cs _ s.p) s.i (LM.mem<|cs _ s.m) (A0 (P:=c.map cL.v) M<|fZ _) L_ yj ?_;haveI re3:RE (bX (bX (bX cY .jt x) .op<|Mw r k) .at_<|.int (c.length+1:Nat)) hd tl B p w:=L_.on λx R Q _=>(if_neg Q).trans<|if_neg R;refine V0 (i:=c.length+1) (l:=k) (At.head.skip W) z re3 z (by rw[ee];exact ev) (aG 0x1c01d0500101cc0210101384c041c001d061 z P l)<|aP ?_;haveI Qb:um W (a2++[.aF [.str .test,v0]])<|T++[uj v0]:=tt.add<|.test<|nr _ _ ev;haveI a6:(a2++[V.aF [.str .test,v0]]).length=a2.length+1:=eR;haveI re4:∀{I:V},RE (bX (bX (bX (bX cY .jt x) .op<|Mw r k) .at_<|.int (c.length+1:Nat)) .at_ I) hd tl B p w:=re3.on λx _ Q _=>if_neg Q;have nr:H5<|dm Hs:=by rw[ee];exact nr
 rw[show e0=dm Hs from ee.symm] at YZ;have cd3:a=(c.map cL.v++Mw r k::a3.map cL.v)++(g.map cL.v++tz pf pk px py::(a5.map cL.v++[P2 H])):=by rw[M];simp only[lX,List.cons_append]
 have V5:(c.map cL.v++Mw r k::a3.map cL.v).length=H:=by rw[eR,jM,fZ,fZ];exact ng (bF 0x11c001d06d0a201212011c101d001d0a1 z K)<|bF 0x21c101d06d0a001111c201d101d0a0011 z K
 rcases zw with⟨hz,eo⟩|⟨hz,eo⟩
 ·subst eo;rw[if_pos hz];refine uu (i:=c.length+1) (a1:=79-c.length-a4.length) i.w i.c i.g i.p i.i i.m p1 (λE o e=>t6 (P:=c.map cL.v++[Mw r k]) (by rw[M,lX];rfl) (by rw[eR,fZ];rfl) e) (ng (L1 [_,_,_,_,_,_] 0x4011201d052150c035301d05114fc035401d05213011c001d06112101d050011 z N (hB (n:=79) (m:=c.length)<|bN 0xcc02001014fc030011 z P) (hB (n:=80) (m:=c.length)<|bN 0xcc020010150c030011 z P)<|hB (n:=79-c.length) (m:=a4.length)<|bF 0x4fc032101d052115c0300101cc02201011010011 z P R<|hB (n:=79) (m:=c.length)<|bN 0xcc02001014fc030011 z P)<|L1 [_,_,_,_,_,_] 0x4010101d051150c035301d05214fc035401d05113011c201d06212011001d051 z N (hB (n:=79) (m:=c.length)<|bN 0xcc02001014fc030011 z P) (hB (n:=80) (m:=c.length)<|bN 0xcc020010150c030011 z P)<|hB (n:=79-c.length) (m:=a4.length)<|bF 0x4fc032101d052115c0300101cc02201011010011 z P R<|hB (n:=79) (m:=c.length)<|bN 0xcc02001014fc030011 z P) Qb nr kb YZ (jQ 0x15c03101023201e201d0900101cc0230102ac021c201d06012bcc041c1201e001d09d0e1 z he P l1 R) (jQ 0x15c03101011c301d06001112c01d0530101cc02201012bcc041c1001d05d0a1 z P l a6 R) re4 rfl λS V6 V7 K9 lg X Mc Z Md Me l3 l4 Mf Mg=>?_;refine oE (Nat.le.dest<|show g.length+1<=S.length by rw[X];exact L1 [_,_,_,_,_] 0x4013101d05214fc032401d052115c0330101cc0200101cc02201011011c001d061 z P n3 R (hB (n:=79) (m:=c.length)<|bN 0xcc02001014fc030011 z P)<|hB (n:=79-c.length) (m:=a4.length)<|bF 0x4fc032101d052115c0300101cc02201011010011 z P R<|hB (n:=79) (m:=c.length)<|bN 0xcc02001014fc030011 z P) λk2 JE=>?_;exact CO (k:=k2) (X:=0) EI cd3 V5 p3 n3 (ng (bF 0x121c101d06d0a211c201d101d0a0011 z JE)<|bF 0x20111c001d06d0a112011c101d001d0a1 z JE) Mc (Z▸Md) Me (Z▸ls3) (L1 [_,_,_,_,_] 0x4201e301d090010115c03401022201e101d0930101cc0220102ac021c101d06011f4c041c001d061 z he P l1 R l3) (L1 [_,_,_,_,_] 0x4301d050010115c03401011c201d06301111c01d0520101cc02101011f4c041c001d061 z P l a6 R l4) Mf (by rw[Mg,K]) ef ek ex ey hk q
 ·subst eo;rw[if_neg hz];refine uu (i:=k) (a1:=79-c.length-a4.length) i.w i.c i.g i.p i.i i.m p2 (λE o e=>t6 (P:=c.map cL.v++Mw r k::(a3.map cL.v++(g.map cL.v++[tz pf pk px py]))) (S:=[P2 H]) (by rw[M];simp only[lX,List.cons_append,List.nil_append]) (by simp only[eR,jM,fZ,List.length_nil];exact ng (L1 [_,_,_,_,_] 0x1c201d401d0a3012111c001d06d0a401213011c1cc01d201d101d0ed001d171 z K q2)<|L1 [_,_,_,_,_] 0x1c301d401d0a0011121c101d06d0a401111c1cc01d301d201d0ed101d170011 z K q2) e) (ng (L1 [_,_,_,_,_,_] 0x4011201d052150c035301d05114fc035401d05213011c001d06112101d050011 z N (hB (n:=79) (m:=c.length)<|bN 0xcc02001014fc030011 z P) (hB (n:=80) (m:=c.length)<|bN 0xcc020010150c030011 z P)<|hB (n:=79-c.length) (m:=a4.length)<|bF 0x4fc032101d052115c0300101cc02201011010011 z P Q<|hB (n:=79) (m:=c.length)<|bN 0xcc02001014fc030011 z P)<|L1 [_,_,_,_,_,_] 0x4010101d051150c035301d05214fc035401d05113011c201d06212011001d051 z N (hB (n:=79) (m:=c.length)<|bN 0xcc02001014fc030011 z P) (hB (n:=80) (m:=c.length)<|bN 0xcc020010150c030011 z P)<|hB (n:=79-c.length) (m:=a4.length)<|bF 0x4fc032101d052115c0300101cc02201011010011 z P Q<|hB (n:=79) (m:=c.length)<|bN 0xcc02001014fc030011 z P) Qb nr kb YZ (jQ 0x15c03101023201e201d0900101cc0230102ac021c201d06012bcc041c1201e001d09d0e1 z he P l1 Q) (jQ 0x15c03101011c301d06001112c01d0530101cc02201012bcc041c1001d05d0a1 z P l a6 Q) re4 rfl λS V6 V7 K9 lg X Mc Z Md Me l3 l4 Mf Mg=>?_;induction S using da with
  |nil=>exact absurd X<|List.length_nil▸λzz=>jQ 0x301c01212011301d05214fc030201d052115c0310101cc02001010 z P Q (hB (n:=79) (m:=c.length)<|bN 0xcc02001014fc030011 z P) (hB (n:=79-c.length) (m:=a4.length)<|bF 0x4fc032101d052115c0300101cc02201011010011 z P Q<|hB (n:=79) (m:=c.length)<|bN 0xcc02001014fc030011 z P) zz
  |cons RD S=>
  rw[jM] at X;refine aO .z jS ?_;haveI re6:RE (bX lg .jt RD) hd tl B p w:=Mf.on λx _ _ n=>if_neg n;refine uq (LM.mem<|cs _ i.p) i.i (LM.mem<|cs _ i.m) (A0 (x:=P2 H) (P:=c.map cL.v++Mw r k::(a3.map cL.v++(g.map cL.v++tz pf pk px py::a4.map cL.v))) (S:=[]) (by rw[M];simp only[lX,List.cons_append])<|by simp only[eR,jM,fZ];exact ng (L1 [_,_,_,_,_,_] 0x1c201d501d0a4012111c001d06d0a501213401d051c1c301d201d101d0ed001d171 z K q2)<|L1 [_,_,_,_,_,_] 0x1c401d501d0a0011131c201d06d0a501111c1c101d401d301d0ed201d171001d051 z K q2) re6 Mg ?_;refine OT z<|aP<|oE (Nat.le.dest<|show g.length+1<=S.length by exact L1 [_,_,_,_,_,_] 0x5013401d05214fc032501d05214011c101d062115c0330101cc0200101cc02201011011c001d061 z P n3 Q X (hB (n:=79) (m:=c.length)<|bN 0xcc02001014fc030011 z P)<|hB (n:=79-c.length) (m:=a4.length)<|bF 0x4fc032101d052115c0300101cc02201011010011 z P Q<|hB (n:=79) (m:=c.length)<|bN 0xcc02001014fc030011 z P) λk2 JE=>?_;exact CO (k:=k2) (X:=0) EI cd3 V5 p3 n3 (ng (bF 0x121c101d06d0a211c201d101d0a0011 z JE)<|bF 0x20111c001d06d0a112011c101d001d0a1 z JE) Mc (Z▸Md) Me (Z▸ls3) (L1 [_,_,_,_,_] 0x4201e301d090010115c03401022201e101d0930101cc0220102ac021c101d06011f4c041c001d061 z he P l1 Q l3) (L1 [_,_,_,_,_] 0x4301d050010115c03401011c201d06301111c01d0520101cc02101011f4c041c001d061 z P l a6 Q l4) (re6.on λx R Q _=>(if_neg Q).trans<|(if_neg Q).trans<|if_neg R) rfl ef ek ex ey hk q
end
def vM(g:Nat)(a:V):a0:=.inst .lP [(.units,.ref g),(.fh,a)]
section
variable{n:Nat}{L R:H}{d l p g b i:Nat}
theorem EJ(e:Lv)(q:∀p g,eh j (Tn<|n+1) h e ((p,vM g<|.int 0)::(g,.list [])::L) a c<|.v (.ref p) fs):J j (Tn<|n+1) h L a (.new .lP::c)<|.m fs:=
 s6 e λp=>aZ .a [.aq] pR z rfl rfl<|aW .a λg=>aX .a (.tail .head) z rfl<|aX .a (.tail .head) z rfl<|jf<|aA (aT.mv [] [_] [_])<|q p g
theorem wz{P:Hp->Prop}(k:∀c:Int,0<=c->c<=b->U O ((d,xP l c)::(l,.list<|xs.map .int)::(e++R)) P):U (dN e d l xs b) R P:=⟨λh H=>by exact iK H λc f a H=>(k c f a).at_ h H⟩
theorem yl{P:Hp->Prop}(c:Int)(f:0<=c)(a:c<=b)(k:U (dN e d l xs b) R P):U O ((d,xP l c)::(l,.list<|xs.map .int)::(e++R)) P:=⟨λh H=>k.at_ h<|g6 c f a H⟩
theorem A1(v:xs.length<=60)(s:b<600)(t:h.length<9)(C:a .dX=some (.ref p))(D:a .b_=some (.ref d))(E:a .ax=some (.int i))
 (B:∀(T:Un) Y e,T.Ok->uW e Y i T->(∀a1∈R,a1∈e)->J (dN [(p,vM g st),(g,.list<|h++[.ref Y])] d l xs<|b+110) (Tn<|n+6) A e a [] .b):J (dN [(p,vM g st),(g,.list h)] d l xs b) (Tn<|n+6) A R a [.ss<|bD tE] .b:=
 wz λc j k=>aY .v<|y .a C<|Q .a (N<|N q) z<|gc .v (N<|N<|N q) z<|y .v D<|y .a E<|M .z<|yl c j k<|NR v s λT Y e w r x=>wz λf u o=>aY .a<|de .a (.tail<|.tail<|.tail .head) (f6 t m)<|yl f u o<|B T Y e w r x
theorem Mh(j:Lv){f:List V}{a:Nat}(m:(a,.ro f)∈L)(k:∀a,eh O T r j ((a,.list f)::L) e c<|.v (.ref a) fs):J O T r L e (.p .dR::c)<|.v (.ref a)<|.m fs:=
 aS ⟨λh H=>(a_ (.new<|.list f) (cR (o:=bm (.ref a) h) (f:=λx=>R.new<|.list x.1)<|bj (o:=h a) (O.get H m) z) λa n=>(aJ<|k a).at_ _<|O.add H n)⟩
theorem SG(j:Lv){f:List V}{a:Nat}(m:(a,.list f)∈L)(k:∀a,eh O T r j ((a,.list<|f.take 60)::L) e c<|.v (.ref a) fs):J O T r L e (.p (.slice .Ib)::c)<|.v (.ref a)<|.m fs:=
 aS ⟨λh H=>(a_ (.new<|.list<|f.take 60) (cR (o:=mT (.ref a) h) (f:=λf=>R.new<|.list<|f.take 60)<|cT<|O.get H m) λa n=>(aJ<|k a).at_ _<|O.add H n)⟩
theorem HZ{f:List Int}{a:Nat}(P:∀p g a3 us Us a4 h,HS a4 p a3 g us Us->(∀a2∈Us,a2.Ok)->h .dX=some (.ref p)->J O (Tn<|n+6) a1 a4 h [.ss<|Ss.dr 3 tE] .b):
 J O (Tn<|n+6) a1 [(a,.ro<|f.map V.int)] (bX (λ_=>none) .nD<|.ref a) [.ss tE] .b:=by
 have t:(f.take 60).length<=60:=by rw[List.length_take];exact Nat.min_le_left _ _
 have o:∀{p g d l b:Nat}{us:List Nat}{Us:List Un}{R:H}{h:aV},vH R 0 us Us->(∀a2∈Us,a2.Ok)->b<800->us.length<=2->1<=us.length->h .dX=some (.ref p)->h .b_=some (.ref d)->J (dN [(p,vM g<|.int 0),(g,.list<|us.map V.ref)] d l (f.take 60) b) (Tn<|n+6) a1 R h [.ss<|Ss.dr 2 tE] .b:=λ{p g d l b us Us R h} r B Y Z I e1 e2=>
  wz λc G v=>aY .v<|y .v e2<|y .a e1<|Q .a (N<|N q) z<|fv .a (N<|N<|N q)<|M .z<|yl c G v<|dZ t (ci ‹_› m) (by rw[fZ];lia) (by rw[fZ];lia) λa3 k0 k1=>wz λT W X=>aY .v<|y .a e1<|aX .z (.tail<|.tail .head) z rfl<|
   P p g a3 us Us _ h ⟨N<|N q,N<|N<|N q,r.mono λ_ K=>N<|N<|N<|N K⟩ B e1
 refine aY .a<|Mh .a q λS=>SG .a q λl=>aW .a λd=>EJ .a λp g=>aA (b:=dN [(p,vM g<|.int 0),(g,.list<|[].map V.ref)] d l (f.take 60) 0) (L':=[]) (λk=>(g6 0 (Int.le_refl 0) (Int.le_refl 0)<|O.sub (O.perm k<|show((p,vM g<|.int 0)::(g,a0.list [])::(d,a0.list [.ref l,.int 0])::(l,a0.list<|(f.map V.int).take 60)::(S,a0.list<|f.map V.int)::[(a,a0.ro<|f.map V.int)]).Perm ((d,xP l 0)::(l,.list<|(f.take 60).map .int)::(p,vM g<|.int 0)::(g,a0.list [])::(S,a0.list<|f.map V.int)::[(a,a0.ro<|f.map V.int)]) by rw[List.map_take];exact List.perm_append_comm_assoc [(p,vM g<|.int 0),(g,a0.list [])] [(d,a0.list [.ref l,.int 0]),(l,a0.list<|(f.map V.int).take 60)] _)<|.cons_cons _<|.cons_cons _<|.cons_cons _<|.cons_cons _<|.cons _<|.cons _ .slnil))<|
  M .a<|dZ t m m m λj U A=>wk .z (by lia) (by lia) ?_
 have s:j=0\/j=1:=by lia
 rcases s with s|s
 ·clear U A;subst s;exact aO (x:=.int 0) (xs:=[]) .z jS<|A1 (i:=0) t m m z rfl rfl λa2 u a4 ok r up=>aP<|b5 jS<|o (us:=[u]) (Us:=[a2]) ⟨r,trivial⟩ (λV K=>by rw[eL.mp K];exact ok) m (Nat.le_succ 1) (ct 1) rfl rfl
 ·clear U A;subst s;refine aO (x:=.int 0) (xs:=[.int 1]) .z jS<|A1 (i:=0) t m m z rfl rfl λa2 u a4 ok r up=>aP<|aO (x:=.int 1) (xs:=[]) .z jS<|A1 (i:=1) t m (by show 1<9;decide) z rfl rfl λF E C w D x=>aP<|b5 jS<|
   o (us:=[u,E]) (Us:=[a2,F]) (eP (r.mono x) D trivial) (λV K=>?_) m (ct 2) (Nat.le_succ 1) rfl rfl
  rcases ew.mp K with e|K
  ·rw[e];exact ok
  ·rw[eL.mp K];exact w
end
theorem UK.SH(h:UK a):∀x∈a.mO,∃c s,ic c s x.os:=by
 haveI d:∀{S c x},BK S c x->∃c s,ic c s x.os:=λ{S c x} b=>(H3 c b.ex.choose b.ex.choose_spec.1);cases h with
 |one e _ _ f=>intro x m;rw[e] at m;rw[eL.mp m];exact d f
 |four e _ _ _ _ _ _ _ _ _ f g i j=>
  intro x m;rw[e] at m;simp only[ew,i3,or_false] at m;clear e l0 l1 l2 l3 p0 p1 p2 p3;rcases m with rfl|rfl|rfl|rfl
  ·exact d f
  ·exact d g
  ·exact d i
  ·exact d j
section
variable{n:Nat}{L:H}{T:aV}{K:Kk}{c:List I}{d:Fr}
theorem SI(l:Lv){a b:E}{f g:Fn}{x z:List V}{k:List D}(G:∀K h,pN (Tn n) f x K ⟨T,h⟩->gg (Tn n) a K ⟨T,h⟩)(o:∀K h,pN (Tn n) g z K ⟨T,h⟩->gg (Tn n) b K ⟨T,h⟩)
 (B:∀Y:dC,(∀r i a1,um a1 i k->U O ((r,.list i)::(a1++L)) (Y<|.ref r))->U O L (Tn n f x Y))
 (H:∀(Y:dC) a2,(∀a3∈L,a3∈a2)->(∀r i a1,um a1 i k->jb k<=500->U O ((r,.list i)::(a1++a2)) (Y<|.ref r))->U O a2 (Tn n g z Y))
 (P:eh O (Tn n) K l L T c<|.v (.bool false) d):J O (Tn n) K L T (.e (.jE a b)::c) d:=aS ⟨λh e=>by
 show gg (Tn n) a (λv s=>gg (Tn n) b (λw s=>(∃p,ga s.h v (.list p)/\ga s.h w (.list p)/\jb p<=500)/\io (Tn n) K c (.v (.bool false) d) s) s) ⟨T,h⟩;refine G _ _<|(B _ λr i a1 I=>⟨λC A=>o _ _<|(H _ _ (λa3 m=>N<|cs _ m) λy W u t Q=>⟨λF j=>?_⟩).at_ C A⟩).at_ h e;haveI M:(r,a0.list i)∈(y,a0.list W)::(u++((r,a0.list i)::(a1++L))):=N<|cs _ q;refine⟨(g6 k (.list (O.get j M)<|(I.mono λa3 m=>N<|cs _<|N<|ll _ m).P7 j) (.list (O.get j q)<|(t.mono λa3 m=>N<|ll _ m).P7 j) Q),?_⟩;exact(aJ P).at_ F<|O.sub j<|.cons _<|List.Sublist.trans (.cons _<|List.sublist_append_right a1 L)<|List.sublist_append_right u _⟩
theorem FU(l:Lv){C:List V}{B:List Int}{U:Un}{u num w pl tc tg p il bu bw X P:Nat}{code:List V}{CK:V}{fs':List (IK×V)}(ru:uW L u num U)(ok:U.Ok)(Y:RW L w pl tc tg p il bu C B CK fs' code)(rr:So C B U bu code)(hr:U.ah<=bu)(mb:(bw,.list<|G<|List.range U.ah)∈L)(b:(X,.list [.int P])∈L)(hz:P<2)
 (e1:T .cX=some (.ref w))(e2:T .code=some (.ref p))(e3:T .fQ=some (.ref bw))(e4:T .qo=some (.ref X))(e5:T .cM=some (.ref u))(q:eh O (Tn<|n+4) K l L T c<|.v (.bool false) d):
 J O (Tn<|n+4) K L T (.e (.jE (.call .j_<|.cons (.ai .cX)<|.cons (.ai .code)<|.cons (.ai .fQ)<|.cons (.ai .qo) Es.nil)<|.call .fR<|.cons (.ai .cM)<|.cons (.ai .qo) Es.nil)::c) d:=by
 refine oU ok.uk λuk _ _ e4'=>?_;haveI he:U.ah<10:=bN 0x4c0200101ac021c001d061 z e4';have SH:=uk.SH;have ca:∀K h,pN (Tn<|n+4) .j_ [.ref w,.ref p,.ref bw,.ref X] K ⟨T,h⟩->gg (Tn<|n+4) (.call .j_<|.cons (.ai .cX)<|.cons (.ai .code)<|.cons (.ai .fQ)<|.cons (.ai .qo) Es.nil) K ⟨T,h⟩:=λK h k=>⟨_,e1,_,e2,_,e3,_,e4,k⟩;have cb:∀K h',pN (Tn<|n+4) .fR [.ref u,.ref X] K ⟨T,h'⟩->gg (Tn<|n+4) (.call .fR<|.cons (.ai .cM)<|.cons (.ai .qo) Es.nil) K ⟨T,h'⟩:=λK h' k=>⟨_,e5,_,e4,k⟩;have Z:∀{g},(∀y∈L,y∈g)->uW g u num U:=λk=>ru.mono k;cases rr with
 |one e W v S R n0 r=>obtain⟨h0,H,va,vb,vk,e0,D,M,N,E,c5,c6,c7,c8⟩:=r;refine vP (SH _<|by rw[e];exact .head _) λks s ob=>?_;exact SI l ca cb (λQ a=>OW Y mb b he hr v S R c5 c6 c7 c8 a) (λQ g k a=>EH (n:=n+1) (Z k) ok.np.2 (k _ b) e W ob n0 D M N E a) q
 |@four j A F I _ _ _ _ _ _ _ _ _ _ _ os0 os1 os2 os3 _ _ _ _ _ _ _ e p3 W l1 l2 l3 v q3 q2 S R f r=>
  obtain⟨h0,H,v0,e0,D,M,N,E,W1,W2⟩:=r;have lk:∀(i:Nat)(x:s7),[j,A,F,I][i]?=some x->U.mO[i]?=some x:=λi x k=>by rw[e];exact k
  refine vP (SH j<|List.mem_of_getElem?<|lk 0 j z) λks0 s0 o=>vP (SH A<|List.mem_of_getElem?<|lk 1 A z) λks1 s1 ob1=>?_;refine vP (SH F<|List.mem_of_getElem?<|lk 2 F z) λks2 s2 ob2=>vP (SH I<|List.mem_of_getElem?<|lk 3 I z) λks3 s3 t=>?_;haveI zZ:P=0\/P=1:=by lia
  refine db zZ ?_ ?_<;>clear zZ<;>intro ez;·clear hz;subst ez;obtain⟨h1,T1,va,vb,FI,h3,T3,vf,vk,vx,vy,e3',d1,d2,d3,d4,d5,d6,d7,d8,d9,f1,f2,f3,f4,f5⟩:=W1;have x1:=lk 1 A z;exact SI l ca cb (λQ a=>CP Y mb b he hr v q3 q2 S R (.inl ⟨z,z⟩) N E d4 f1 f2 f3 f4 f5 a) (λQ g k a=>vL (n:=n+1) (w:=0) (Z k) ok.np.2 (k _ b) m (lk 0 j z) x1 (lk 3 I z) p3 W l1 l3 o ob1 t f.1 f.2.1 f.2.2.2 D M d1 d2 d3 d5 d6 d7 d8 d9 a) q
  ·clear hz;subst ez;obtain⟨h1,T1,va,vb,FI,h3,T3,vf,vk,vx,vy,e3',d1,d2,d3,d4,d5,d6,d7,d8,d9,f1,f2,f3,f4,f5⟩:=W2;have x2:=lk 2 F z;exact SI l ca cb (λQ a=>CP Y mb b he hr v q3 q2 S R (.inr ⟨by decide,z⟩) N E d4 f1 f2 f3 f4 f5 a) (λQ g k a=>vL (n:=n+1) (w:=1) (Z k) ok.np.2 (k _ b) m (lk 0 j z) x2 (lk 3 I z) p3 W l2 l3 o ob2 t f.1 f.2.2.1 f.2.2.2 D M d1 d2 d3 d5 d6 d7 d8 d9 a) q
end
section
variable{n:Nat}{r:aV}
theorem uv(i:Int):cZ (.int i)<|.int i:=decide_eq_true z
theorem SJ(k:eh e T a .o L r c<|.v (.int<|if b then i else j) fs):J e T a L r (.it (.hD<|.int i) (.hD<|.int j)::c)<|.v (.bool b) fs:=by
 induction b using ff with
 |true=>exact Ce .o z<|aY .o k
 |false=>exact NM .o z<|aY .o k
theorem Y1{b d:Bool}{x:E}(a:J g T e L r c (.v (.bool d) fs)->J g T e L r (.e x::c) fs)(k:J g T e L r c<|.v (.bool<|b||d) fs):J g T e L r (.oq false (.cons x .nil)::c)<|.v (.bool b) fs:=by
 induction b using ff with
 |true=>exact PH .z z k
 |false=>exact RB .o z<|a k
theorem Mj(l:Lv)(m:(a,.list xs)∈L)(o:(b,.list e)∈L)(j:xs.length=e.length)(f:dL xs)(g:dL e)(i:((xs.zip e).all λw=>cZ w.1 w.2))(k:eh O T s l L r c<|.v (.bool false) fs):
 J O T s L r (.p (.eW .ne)::c)<|.v (.ref b)<|.v (.ref a)<|.m fs:=aS ⟨λh d=>
 (a_ (.val<|.bool false) (cR (f:=λb=>R.val<|V.bool b)<|cR (f:=not) (x:=true) (o:=zO (.ref a) (.ref b) h)<|bj (O.get d m)<|bj (O.get d o)<|(if_neg<|not_not_intro j).trans<|(if_pos<|by rw[f,g];rfl).trans<|congrArg some i)<|(aJ k).at_ h d)⟩
theorem OX{u i w pl s t p S:Nat}(Z:uW L u i a5)(ok:a5.Ok)(rp:zG L p i a5 S code)(F:So a1 a2 a5 S code)(hr:a5.ah<=S)(X:(w,.inst .Unit [(.cC,.ref pl),(.bE,.ref s),(.globals,.ref t),(.fh,a3)])∈L)(D:(s,.list a1)∈L)(T:(t,.list<|a2.map .int)∈L)
 (U:r .cX=some (.ref w))(R:r .code=some (.ref p))(d:r .cM=some (.ref u))(H:∀a6,a6 .cX=some (.ref w)->J O (Tn<|n+4) a4 L a6 [] .b):J O (Tn<|n+4) a4 L r [.ss<|bD<|Ss.dr 5 tE] .b:=by
 obtain⟨I,j,Bs,e,o,C,M⟩:=Z;obtain⟨A,f,W⟩:=rp;haveI sp:Mu (.eW .eq) [.str (if a5.aD then Nm.aD else .cont),.str .aD]=some (.bool a5.aD):=by cases a5.aD<;>rfl
 haveI sc:Mu (.eW .eq) [.str (if a5.aD then Nm.aD else .cont),.str .cont]=some (.bool<|!a5.aD):=by cases a5.aD<;>rfl
 haveI sr:Mu (.eW .ge) [a5.oz,.int 0]=some (.bool a5.rest):=by
  unfold Un.oz;cases a5.rest with
  |false=>rfl
  |true=>show some (V.bool<|decide ((0:Int)<=(a5.np:Nat)))=_;rw[decide_eq_true<|jp _]
 haveI B:Mu (.fA .sub) [.int (G<|List.range a5.np).length,.int<|if a5.aD then 1 else 0]=some (.int a5.bA):=by show some (V.int<|((G<|List.range a5.np).length:Int)-_)=_;rw[bB,List.length_range];unfold Un.bA;cases a5.aD<;>simp
 haveI Y:Mu (.eW .ne) [.bool<|a5.rest||a5.takes,.bool<|a5.rest||a5.takes]=some (.bool false):=by show some (V.bool<|!cZ (.bool<|a5.rest||a5.takes) (.bool<|a5.rest||a5.takes))=_;cases(a5.rest||a5.takes)<;>rfl
 refine aY .v<|y .a d<|CH .v e z rfl o ok.np.2 d λl=>y .a d<|Q .a (N e) z<|fv .v (N o)<|y .a d<|Q .e (N e) z<|eE (us:=[.str (if a5.aD then Nm.aD else .cont),.str .aD]) .b (.bool a5.aD) sp ⟨z,z⟩<|SJ<|
  eE (us:=[.int (G<|List.range a5.np).length,.int<|if a5.aD then 1 else 0]) .v (.int a5.bA) B ⟨z,z⟩<|y .a R<|Q .v (N f) z<|y .a R<|Q .v (N f) z<|y .a R<|Q .v (N f) z<|y .a R<|Q .v (N f) z<|y .a R<|Q .a (N f) z<|aW .v λa=>
  y .v z<|y .a d<|Q .v (N<|N e) z<|y .a d<|Q .e (N<|N e) z<|eE (us:=[.str (if a5.aD then Nm.aD else .cont),.str .cont]) .a (.bool<|!a5.aD) sc ⟨z,z⟩<|aW .a λb=>
  Mj .v (N q) q z rfl rfl (by show(cZ (.int (i:Nat)) (.int (i:Nat))&&(cZ (.str .iO) (.str .iO)&&(cZ (.bool<|!a5.aD) (.bool<|!a5.aD)&&(cZ (.int a5.bA) (.int a5.bA)&&(cZ (.int 2) (.int 2)&&true)))))=true;rw[uv,uv];cases a5.aD<;>rfl)<|aA (λc=>aT.tl<|aT.tl c)<|
  y .a R<|Q .v (N f) z<|y .a d<|Q .o (N e) z<|aY .o<|aY .o<|eE (us:=[a5.oz,.int 0]) .b (.bool a5.rest) sr ⟨z,z⟩<|Y1 (d:=a5.takes) (λk=>aY .v<|y .a d<|Q .z (N e) z k)<|aY .o<|
  eE (us:=[.bool<|a5.rest||a5.takes,.bool<|a5.rest||a5.takes]) .a (.bool false) Y ⟨z,z⟩<|aW .a λh=>aW .a λg=>PL .a ?_
 haveI P:∀{x},x∈L->x∈(g,a0.list [.int 1])::(h,a0.list [.int 0])::(l,a0.list<|G<|List.range a5.ah)::L:=λE=>N<|N<|N E;haveI K:uW ((g,a0.list [.int 1])::(h,a0.list [.int 0])::(l,a0.list<|G<|List.range a5.ah)::L) u i a5:=⟨I,j,Bs,P e,P o,P C,s9 (λ_ E=>P E) M⟩;haveI v:RW ((g,a0.list [.int 1])::(h,a0.list [.int 0])::(l,a0.list<|G<|List.range a5.ah)::L) w pl s t p A S a1 a2 a3 (VE (.int i) (.str .iO) (.int a5.bA) (.bool<|a5.rest||a5.takes) (.bool<|!a5.aD) S (.int 2) A) code:=⟨P X,P D,P T,P f,z,z,P W⟩;exact aO (x:=.ref h) (xs:=[.ref g]) .a jS<|FU .a (P:=0) K ok v F hr (N<|N q) (N q) m U R z rfl d<|aP<|aO (x:=.ref g) (xs:=[]) .a jS<|FU .a (P:=1) K ok v F hr (N<|N q) q m U R z rfl d<|aP<|
  b5 jS<|aA (λc=>aT.tl<|aT.tl<|aT.tl c)<|H _ U
end
section
variable{L:H}{Y:aV}
theorem OY{n x P w t v:Nat}{K:Kk}{C d f:List V}{G:List Int}{y:V}(r:(x,.list d)∈L)(s:(P,.list f)∈L)(Q:(w,.inst .Unit [(.cC,.ref P),(.bE,.ref t),(.globals,.ref v),(.fh,y)])∈L)(J:(t,.list C)∈L)(l:(v,.list<|G.map .int)∈L)(H:∀a1,a1 .cX=some (.ref w)->U O L λh=>K .next ⟨a1,h⟩){g:List Nat}:
 ∀{b:List Nat}{a:List Un}{i:Nat}{Y:aV},vH L i g a->ye L C G i b a->(∀D∈a,D.Ok)->Y .cX=some (.ref w)->
 Fo O (Tn<|n+4) L [(x,.list d),(P,.list f)] (.many [.cM,.code]) (bD<|Ss.dr 5 tE) K (bn (g.map V.ref)<|b.map V.ref) Y:=by
 induction g with
 |nil=>exactλ{b a i Y} _ _ _ e=>b5 (PV r s)<|H Y e
 |cons u g F=>
  intro b a i Y k j o e;induction a using da with
  |nil=>exact k.elim
  |cons D a=>
   induction b using da with
   |nil=>exact j.elim
   |cons p b=>obtain⟨E,Z,B,c,M,W,bu,R,I,rp⟩:=j.1;have ok:=o D q;obtain⟨T,S⟩:=EZ I ok.uk.1;exact aO (x:=.aF [.ref u,.ref p]) (xs:=bn (g.map V.ref)<|b.map V.ref) .z (PV r s)<|OX k.1 ok rp T S Q J l e z rfl λX A=>aP<|F k.2 j.2 (λD m=>o D<|N m) A
theorem Y2{R:H}{e:List Nat}:∀{i:Nat}{b:List Nat}{a:List Un},vH R i e a->ye R g h i b a->b.length=e.length:=by
 induction e with
 |nil=>
  intro i b a d c;induction a using da with
  |cons=>exact d.elim
  |nil=>induction b using da with
   |nil=>rfl
   |cons=>exact c.elim
 |cons u e f=>
  intro i b a d c;induction a using da with
  |nil=>exact d.elim
  |cons U a=>induction b using da with
   |nil=>exact c.elim
   |cons p b=>exact congrArg (·+1)<|f d.2 c.2
def MN(d:V):Sy:=(ec d).getD .n0
theorem OZ(f:U O L<|ch c){a:List V}:∀{n:List V}{Y:aV},(∀d∈a,d∈dG)->(∀b,U O L λh=>i (n++a.map λd=>.str (MN d)) ⟨b,h⟩)->
 Co O T L c (.one .fG) .tt (.ay .repr<|.cons (.ai .fG) Es.nil) i a n Y:=by
 induction a with
 |nil=>exactλ{n Y} _ k=>gB f (by have:=k Y;rw[List.map_nil,j0] at this;exact this)
 |cons d a j=>intro n Y g k;refine oE (pC<|g d q) λl e=>?_;refine cJ .v f<|y .e z<|eE (us:=[d]) .a (.str (MN d)) (by show((ec d).map _).bind _=_;unfold MN;rw[e];rfl) ⟨z,z⟩<|cF<|j (λd m=>g d<|N m) λb=>?_;have:=k b;rw[pc,List.append_cons] at this;exact this
theorem SK:∀d∈dG,∀a∈dG,cZ (.str (MN d)) (.str (MN a))->qd d=qd a:=by
 intro d f a b e;haveI c:∀d∈dG,d=.int 1\/d=.bool true\/d=.bool false\/d=.int 0\/d=.int 2:=λd g=>by simpa[dG] using g
 rcases c d f with rfl|rfl|rfl|rfl|rfl<;>rcases c a b with rfl|rfl|rfl|rfl|rfl<;>first|rfl|exact absurd e m
theorem Mk:∀{a:List V},(a.map qd).Nodup->(∀d∈a,d∈dG)->nG (a.map λd=>.str (MN d)):=λ{c}=>by
 induction c with
 |nil=>intro _ _;exact z
 |cons d a j=>intro h k;refine oA (List.nodup_cons.mp h) λg i=>?_;show(!((a.map λd=>V.str<|MN d).any<|cZ<|.str (MN d))&&nG _)=true;rw[j i λd m=>k d<|N m,Bool.and_true,Bool.not_eq_true',List.any_eq_false];intro x m e;refine bS (List.mem_map.mp m) ?_;clear m;rintro f b rfl;exact g<|List.mem_map.mpr<|a_ f b<|(SK _ (k _ q) _ (k _<|N b) e).symm
theorem H0:∀{G:List Int},G.Nodup->nG (G.map V.int):=λ{a}=>by
 induction a with
 |nil=>intro _;exact z
 |cons g G f=>intro h;refine oA (List.nodup_cons.mp h) λc d=>?_;show(!((G.map V.int).any<|cZ<|.int g)&&nG _)=true;rw[f d,Bool.and_true,Bool.not_eq_true',List.any_eq_false];intro x m e;refine bS (List.mem_map.mp m) ?_;clear m;rintro b i rfl;exact c<|(of_decide_eq_true e:g=b)▸i
theorem CU(l:Lv)(m:(a,.list j)∈L)(e:(j.all V.Qe||j.all V.Qg))(f:nG j)(g:j.length<4000)(k:eh O T i l L Y c<|.v (.int j.length) fs):J O T i L Y (.p .oR::c)<|.v (.ref a)<|.m fs:=
 aS ⟨λh b=>(a_ (.val<|.int j.length) (bj (o:=mT (.ref a) h) (cT<|O.get b m)<|if_pos<|by rw[e,f,decide_eq_true g];rfl)<|(aJ k).at_ h b)⟩
theorem V'{ns:List Int}{a:Nat}:J O (Tn 10) (λv _=>v=.ret (.bool true)) [(a,.ro<|ns.map V.int)] (bX (λ_=>none) .nD<|.ref a) [.ss tE] .b:=by
 refine HZ (n:=4) λp W k F K L Y r S e1=>aY .v<|y .a e1<|M .a<|EE (k:=0) r S λw pl T U C E G B I u c n h l X=>?_;haveI b:=r.mono X;haveI ln:=Y2 b.u u;haveI t:∀{i j:Int},i=j->Mu (.eW .ne) [.int i,.int j]=some (.bool false):=λ{i j} e=>by subst e;show some (V.bool<|!cZ _ _)=_;rw[uv];rfl
 haveI o:∀{i:Int},Mu (.eW .eq) [.int i,.int i]=some (.bool true):=λ{i}=>by show some (V.bool<|cZ _ _)=_;rw[uv]
 haveI s:∀d∈E.map (·.1),d∈dG:=λd m=>by refine bS (List.mem_map.mp m) λx A e=>?_;exact e▸I.dt x A
 haveI R:=I.small;haveI Z:∀f:List V,((f.map λd=>V.str<|MN d).all V.Qe||(f.map λd=>V.str<|MN d).all V.Qg):=λf=>by rw[Bool.or_eq_true];refine .inr<|sS.mpr λx m=>?_;refine bS (List.mem_map.mp m) λd _ e=>?_;clear m;subst e;rfl
 haveI a1:((G.map V.int).all V.Qe||(G.map V.int).all V.Qg):=by rw[Bool.or_eq_true];refine .inl<|sS.mpr λx m=>?_;refine bS (List.mem_map.mp m) λd _ e=>?_;clear m;subst e;rfl
 refine Q .a c z<|fv .v n<|y .a e1<|Q .a b.p z<|fv .e b.l<|eE (us:=[.int (C.map V.ref).length,.int (F.map V.ref).length]) .b (.bool false) (t<|by rw[fZ,fZ,ln]) ⟨z,z⟩<|zt .a z<|Q .v c z<|y .a e1<|Q .e b.p z<|
  eE (us:=[.int k,.int k]) .b (.bool false) (t z) ⟨z,z⟩<|zt .b z<|CZ .v z<|y .a e1<|Q .a b.p z<|Q .a c z<|Kp .v b.l n<|OY (n:=6) b.l n c h l (λP g=>?_) b.u u S rfl
 exact y .a g<|Q .a c z<|uV .a h<|OZ (n:=[]) (df h) s λH=>dF λD=>CU .a q (Z _) (Mk (by rw[List.map_map];exact I.nd) s) (by simp only[List.nil_append,fZ];lia)<|fv .e q<|eE (us:=[.int _,.int _]) .b (.bool true) o ⟨z,z⟩<|
  RB .v z<|y .a g<|Q .a (N c) z<|CU .v (N l) a1 (H0 I.gn) (by rw[fZ];lia)<|y .a g<|Q .a (N c) z<|fv .e (N l)<|eE (us:=[.int _,.int _]) .a (.bool true) o ⟨z,z⟩<|AX ⟨λ_ _=>rfl⟩
theorem O0:v7:=by intro c _ a;haveI b:O.C (h9 (λ_=>none) a<|.ro<|c.map V.int) [(a,.ro<|c.map V.int)]:=O.add (L:=[]) trivial rfl;haveI k:=(V' (ns:=c) (a:=a)).at_ _ b;refine(iff_of_eq<|congrArg (λq=>gp (Tn 10) tE q ⟨bX (λ_=>none) .nD<|.ref a,h9 (λ_=>none) a<|.ro<|c.map V.int⟩) ?_).mp k.at_;funext d s;cases d<;>rfl
end
end Q
end
end Mine.Internal
theorem PySem.Challenge.cw_pq1035_01_holds : PySem.Challenge.rw_pq1035_01.Holds :=
 Mine.Internal.M' Mine.Internal.Q.O0
