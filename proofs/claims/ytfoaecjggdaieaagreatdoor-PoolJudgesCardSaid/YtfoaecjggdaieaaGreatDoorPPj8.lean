/-
  Part 8 of the lemmas of these laws: PoolJudges.
-/
import Derived.Test.YtfoaecjggdaieaaGreatDoorPPj7
set_option linter.unusedVariables false
set_option linter.unusedSimpArgs false
open Go.Proofs.Tryz
namespace Go.Proofs.YtfoaecjggdaieaaGreatDoor
namespace W
open Go.RowKit G
set_option maxRecDepth 20000
set_option maxHeartbeats 8000000
attribute [local irreducible] RS RX
theorem T57:TI prog 57 11 112 [.int .u32 0, .slice none 0 0, .int .u64 0, .int .u8 0, .string .empty, .int .u8 0, .int .i64 0, .int .u64 0, .string .empty, .int .u32 0, .int .u32 0]:=by
 have h:(prog.info? 57).map (fun i=>(i.size,i.bytes,i.zero))=some (11,112,some (.agg #[.int .u32 0, .slice none 0 0, .int .u64 0, .int .u8 0, .string .empty, .int .u8 0, .int .i64 0, .int .u64 0, .string .empty, .int .u32 0, .int .u32 0])):=by kernel_rfl
 exact TI.of h rfl
theorem T123:TI prog 123 2 32 [.slice none 0 0, .bool false]:=by
 have h:(prog.info? 123).map (fun i=>(i.size,i.bytes,i.zero))=some (2,32,some (.agg #[.slice none 0 0, .bool false])):=by kernel_rfl
 exact TI.of h rfl
theorem F57:SI prog 57 [(0,1),(1,1),(2,1),(3,6),(9,2)]:=⟨_,V57,by kernel_rfl,by kernel_rfl⟩
theorem F123:SI prog 123 [(0,1),(1,1)]:=⟨_,V123,by kernel_rfl,by kernel_rfl⟩
theorem E66:Enters prog 66:= .mk func66 (by kernel_rfl) rfl
theorem E67:Enters prog 67:= .mk func67 (by kernel_rfl) rfl
theorem E68:Enters prog 68:= .mk func68 (by kernel_rfl) rfl
theorem E69:Enters prog 69:= .mk func69 (by kernel_rfl) rfl
theorem E72:Enters prog 72:= .mk func72 (by kernel_rfl) rfl
theorem decFail(w:World):
  Calls prog 66 #[] w (Ret w fun v _=>v= .tuple #[.agg ([.int .u32 S.OpV.zero.au, .slice none S.OpV.zero.n 0, .int .u64 S.OpV.zero.st, .int .u8 S.OpV.zero.k, .string S.OpV.zero.key, .int .u8 S.OpV.zero.vk, .int .i64 S.OpV.zero.num, .int .u64 S.OpV.zero.bits, .string S.OpV.zero.t, .int .u32 S.OpV.zero.e, .int .u32 S.OpV.zero.s]:List Value).toArray, .int .i64 12]):=by
 refine eE 3 func66 rfl rfl fun hE=>?_
 refine sq fun _ J1=>?_
 refine RS.alloc T57 (fun b2 w2 e2 s2 x2 B2=>?_);refine RS.nm ?_;have zw2:=x2.size;refine RS.asI rfl ?_;refine nl J1 (sq fun _ J3=>?_);refine RS.o (D.buildS T57 F57 (ps:=[]) rfl rfl) ?_;refine RS.sa C57 B2 (fun w4 y4 N4=>?_);have zw4:=y4.size;replace B2:=N4;refine RS.asI rfl (nl J3 (wp_ret ?_));refine retAI V57 C57 B2 11 ?_;replace hE:=(Ext.tr hE x2).trans y4.belo;exact⟨_,rfl,hE,rfl⟩
theorem decodeO{S0:Nat→Prop}(a:Option Addr)(n c:Nat)(bs:List Int)(w:World)(R0:IRow .u8 S0 w a n bs)(hc:n≤c)(hn:n≤1000000):
  Calls prog 50 #[.slice a n c] w (Ret w fun v w'=>∃a' c',v= .tuple #[.agg ([.int .u32 (S.decO bs).au, .slice a' (S.decO bs).n c', .int .u64 (S.decO bs).st, .int .u8 (S.decO bs).k, .string (S.decO bs).key, .int .u8 (S.decO bs).vk, .int .i64 (S.decO bs).num, .int .u64 (S.decO bs).bits, .string (S.decO bs).t, .int .u32 (S.decO bs).e, .int .u32 (S.decO bs).s]:List Value).toArray, .int .i64 (S.decE bs)]∧(S.decO bs).n≤c'∧WRow .u8 32 (fun k=>w.heap.size≤k) w' a' (S.decO bs).n (S.decO bs).ids):=by
 replace R0:=R0.weaken (T:=fun k=>k<w.heap.size) (fun k hk _=>hk);have hbl:=R0.len;have hbd:=R0.bd;refine eE 124 func50 rfl rfl fun hE=>?_
 refine sq fun _ J1=>?_
 refine RS.alloc T57 (fun b2 w2 e2 s2 x2 B2=>?_);refine RS.nm ?_;have zw2:=x2.size;refine RS.asI rfl ?_;refine nl J1 (sq fun _ J3=>?_);refine RS.mvS rfl ?_;refine RS.o (D.buildS T123 F123 (ps:=[(0, .slice _ _ _)]) rfl rfl) ?_;refine RS.box rfl rfl (fun b4 w4 e4 s4 x4 B4=>?_);refine RS.nm ?_;have zw4:=x4.size;refine RS.asP rfl ?_;refine nl J3 (sq fun _ J5=>?_);refine RS.assign rfl ?_;refine nl J5 (wx fun _ J6=>sq fun _ J7=>RS.mvP rfl ?_);replace R0:=(R0.ext x2).ext x4;refine RS.callx E67 (rOne _ w.heap.size _ (by omega) _ _ _ _ _ _ B4 R0 hc (by omega)) rfl (fun e8 w8 A8=>?_);obtain⟨rfl,X8,a1,n1,c1,N8,hc1,hn1,Q1⟩:=A8;refine⟨_,rfl,?_⟩;refine RS.nm ?_;have zw8:=X8.size;replace B4:=N8;obtain⟨zh,eh⟩:∃z,z=S.oneB false bs:=⟨_,rfl⟩
 rw[←eh]at B4 Q1⊢;have lQ1:=Q1.len;have bQ1:=Q1.bd;refine RS.on ?_;refine nl J7 ?_;replace hE:=(Ext.tr (Ext.tr hE x2) x4).trans X8.belo;replace B2:=(B2.ext x4).pro X8;refine C.ifn rfl (fun c9=>?_) (fun c9=>?_)
 ·have hx:=c9;refine sq fun _ J10=>?_
  refine RS.move (v:= .func _ _ _) rfl ?_;refine RS.callv E66 (decFail _) rfl rfl (fun e11 w11 A11=>?_);obtain⟨v11,rfl,x11,A11⟩:=A11;refine⟨_,rfl,?_⟩;have zw11:=x11.size;subst A11;refine RS.nm ?_;refine RS.exA ?_;refine RS.exI ?_;replace B2:=B2.ext x11;refine RS.sa C57 B2 (fun w12 y12 N12=>?_);have zw12:=y12.size;replace B2:=N12;refine RS.asI rfl (nl J10 (wp_ret ?_));refine retAI V57 C57 B2 11 ?_;obtain⟨q1,q2⟩:=S.dec_none (S.dec_head (by rw[←eh];exact hx));rw[q1,q2];replace hE:=(Ext.tr hE x11).trans y12.belo;exact⟨_,rfl,hE,_,_,rfl,Nat.le_refl _,WRow.nil⟩
 have hx1:=c9;refine wp_skip (J6 _ _ (sq fun _ J13=>?_));refine RS.alloc T57 (fun b14 w14 e14 s14 x14 B14=>?_);refine RS.nm ?_;have zw14:=x14.size;refine nl J13 (sq fun _ J15=>?_);refine RS.mvP rfl ?_;replace B4:=B4.ext x14;replace Q1:=Q1.ext x14;refine RS.callx E68 (rNumber _ w.heap.size _ (by omega) _ _ _ _ _ 1000000007 (by decide) _ B4 Q1 hc1 (by omega)) rfl (fun e16 w16 A16=>?_);obtain⟨rfl,X16,a2,n2,c2,N16,hc2,hn2,Q2⟩:=A16;refine⟨_,rfl,?_⟩;refine RS.nm ?_;have zw16:=X16.size;replace B4:=N16;obtain⟨za,ea⟩:∃z,z=S.numB 1000000007 zh.2.1 zh.2.2:=⟨_,rfl⟩
 rw[←ea]at B4 Q2⊢;have lQ2:=Q2.len;have bQ2:=Q2.bd;refine RS.o (D.conv rfl V49 V47 (W.u32m _)) ?_;refine RS.fl 0 V57 rfl C47 ?_;replace B14:=B14.pro X16;refine RS.store rfl (v:= .int _ _) rfl C47 rfl B14 rfl (fun w17 y17 N17=>?_);have zw17:=y17.size;replace B14:=N17;refine nl J15 (sq fun _ J18=>?_);refine RS.mvP rfl ?_;refine RS.nilCheck rfl ?_;refine RS.fl 0 V123 rfl C63 ?_;replace B4:=B4.sto y17;refine RS.ld V63 B4 ?_;replace Q2:=Q2.sto y17;refine RS.call E69 (readIds _ _ _ _ 4 (by decide) _ Q2 hc2 (by omega)) rfl (fun v19 w19 x19 A19=>?_);have zw19:=x19.size;obtain⟨aL,cL,rfl,hcL,DL⟩:=A19;obtain⟨f1,f2,f3,f4⟩:=S.idsB_rd za.2.1 za.2.2;have hidl:=S.id_le bQ2;obtain⟨zl,el⟩:∃z,z=S.idsB za.2.1 za.2.2:=⟨_,rfl⟩
 rw[←el]at f1 f2 f3 f4;rw[f1]at hcL DL⊢;rw[f2]at DL;replace DL:=DL.weaken (T:=fun k=>b14<k∧k<w19.heap.size) (fun k hk h=>by omega);refine RS.nm ?_;refine RS.move (v:= .tuple _) rfl ?_;refine RS.exS ?_;refine RS.exI ?_;refine RS.exI ?_;refine RS.asS rfl (RS.asI rfl (RS.asI rfl ?_));refine nl J18 (sq fun _ J20=>?_);refine RS.mvP rfl (RS.mvI rfl (RS.mvI rfl ?_));replace B4:=B4.ext x19;replace Q2:=Q2.ext x19;refine RS.callx E70 (rNext _ w.heap.size _ (by omega) _ _ _ _ _ (S.idU 4 za.2.2) (S.idE 4 za.2.2) (by omega) _ B4 Q2 hc2 (by omega)) rfl (fun e21 w21 A21=>?_);obtain⟨rfl,X21,a3,n3,c3,N21,hc3,hn3,Q3⟩:=A21;refine⟨_,rfl,?_⟩;refine RS.nm ?_;have zw21:=X21.size;replace B4:=N21;rw[f3]at B4;rw[f4]at Q3;have lQ3:=Q3.len;have bQ3:=Q3.bd;refine nl J20 (sq fun _ J22=>?_);refine RS.mvS rfl (RS.mvP rfl ?_);refine RS.callx E68 (rNumber _ w.heap.size _ (by omega) _ _ _ _ _ 1000000000000 (by decide) _ B4 Q3 hc3 (by omega)) rfl (fun e23 w23 A23=>?_);obtain⟨rfl,X23,a4,n4,c4,N23,hc4,hn4,Q4⟩:=A23;refine⟨_,rfl,?_⟩;refine RS.nm ?_;have zw23:=X23.size;replace B4:=N23;obtain⟨zt,et⟩:∃z,z=S.numB 1000000000000 zl.2.2.1 zl.2.2.2:=⟨_,rfl⟩
 rw[←et]at B4 Q4⊢;have lQ4:=Q4.len;have bQ4:=Q4.bd;refine RS.mvP rfl ?_;refine RS.callx E67 (rOne _ w.heap.size _ (by omega) _ _ _ _ _ _ B4 Q4 hc4 (by omega)) rfl (fun e24 w24 A24=>?_);obtain⟨rfl,X24,a5,n5,c5,N24,hc5,hn5,Q5⟩:=A24;refine⟨_,rfl,?_⟩;refine RS.nm ?_;have zw24:=X24.size;replace B4:=N24;obtain⟨zk,ek⟩:∃z,z=S.oneB zt.2.1 zt.2.2:=⟨_,rfl⟩
 rw[←ek]at B4 Q5⊢;have lQ5:=Q5.len;have bQ5:=Q5.bd;refine RS.fl 1 V57 rfl C48 ?_;replace B14:=(((B14.ext x19).pro X21).pro X23).pro X24;refine RS.store rfl rfl C48 rfl B14 rfl (fun w25 y25 N25=>?_);have zw25:=y25.size;replace B14:=N25;refine RS.fl 2 V57 rfl C49 ?_;refine RS.store rfl (v:= .int _ _) rfl C49 rfl B14 rfl (fun w26 y26 N26=>?_);have zw26:=y26.size;replace B14:=N26;refine RS.fl 3 V57 rfl C53 ?_;refine RS.fl 3 V53 rfl C5 ?_;refine RS.store rfl (v:= .int _ _) rfl C5 rfl B14 rfl (fun w27 y27 N27=>?_);have zw27:=y27.size;replace B14:=N27;refine nl J22 (wx fun _ J28=>sq fun _ J29=>?_);refine RS.fl 3 V57 rfl C53 ?_;refine RS.fl 3 V53 rfl C5 ?_;refine RS.ld V5 B14 ?_;refine RS.on ?_;refine nl J29 ?_;replace hE:=((((((Ext.tr (((Ext.tr hE x14).trans X16.belo).trans y17.belo) x19).trans X21.belo).trans X23.belo).trans X24.belo).trans y25.belo).trans y26.belo).trans y27.belo;replace B2:=(((((((((B2.ext x14).pro X16).sto y17).ext x19).pro X21).pro X23).pro X24).sto y25).sto y26).sto y27;replace DL:=(((((DL.pro X21).pro X23).pro X24).sto y25).sto y26).sto y27;replace B4:=((B4.sto y25).sto y26).sto y27;replace Q5:=((Q5.sto y25).sto y26).sto y27;refine C.ifn rfl (fun c30=>?_) (fun c30=>?_)
 ·have hk1:=c30;refine sq fun _ J31=>RS.mvP rfl ?_;refine RS.nilCheck rfl ?_;refine RS.fl 0 V123 rfl C63 ?_;refine RS.ld V63 B4 ?_;refine RS.call E71 (readB _ _ _ _ 20 (by decide) _ Q5 hc5 (by omega)) rfl (fun v32 w32 x32 A32=>?_);have zw32:=x32.size;obtain⟨aK,nK,cK,rfl,OKs⟩:=A32;have hOK:=OKs.lo;obtain⟨k1,k2,k3⟩:=S.keyB_rd zk.2.1 zk.2.2;have hpu:=S.ptU_le (most:=20) (wd:=1) bQ5 (by decide);obtain⟨zq,ezq⟩:∃z,z=S.keyB zk.2.1 zk.2.2:=⟨_,rfl⟩
  rw[←ezq]at k1 k2 k3;refine RS.nm ?_;refine RS.move (v:= .tuple _) rfl ?_;refine RS.exS ?_;refine RS.exI ?_;refine RS.exI ?_;refine RS.asS rfl (RS.asI rfl (RS.asI rfl ?_));refine nl J31 (sq fun _ J33=>?_);refine RS.mvP rfl (RS.mvI rfl (RS.mvI rfl ?_));replace B4:=B4.ext x32;replace Q5:=Q5.ext x32;refine RS.callx E70 (rNext _ w.heap.size _ (by omega) _ _ _ _ _ (S.ptU 20 1 zk.2.2) (S.ptE 20 1 zk.2.2) (by omega) _ B4 Q5 hc5 (by omega)) rfl (fun e34 w34 A34=>?_);obtain⟨rfl,X34,a6,n6,c6,N34,hc6,hn6,Q6⟩:=A34;refine⟨_,rfl,?_⟩;refine RS.nm ?_;replace OKs:=OKs.pr X34 (by intros;try (first|(intro _ _)|(intro _)|skip);first|omega|(have hq:=hOK _ (by assumption);first|omega|(dsimp only at*;omega)));have zw34:=X34.size;replace B4:=N34;rw[k2]at B4;rw[k3]at Q6;have lQ6:=Q6.len;have bQ6:=Q6.bd;refine nl J33 (region (RS.mvS rfl ?_));refine RS.o (D.convBS OKs.row rfl V63 V5 V9) ?_;refine RS.nm ?_;rw[k1];refine RS.fl 3 V57 rfl C53 ?_;refine RS.fl 4 V53 rfl C9 ?_;replace B14:=(B14.ext x32).pro X34;refine RS.store rfl rfl C9 rfl B14 rfl (fun w35 y35 N35=>?_);replace OKs:=OKs.st y35 (by intros;try (first|(intro _ _)|(intro _)|skip);first|omega|(have hq:=hOK _ (by assumption);first|omega|(dsimp only at*;omega)));have zw35:=y35.size;replace B14:=N35;refine nl J28 (wx fun _ J36=>sq fun _ J37=>?_);refine RS.fl 3 V57 rfl C53 ?_;refine RS.fl 3 V53 rfl C5 ?_;refine RS.ld V5 B14 ?_;refine RS.oq ?_;refine nl J37 ?_;replace hE:=((Ext.tr hE x32).trans X34.belo).trans y35.belo;replace B2:=((B2.ext x32).pro X34).sto y35;replace DL:=((DL.ext x32).pro X34).sto y35;replace B4:=B4.sto y35;replace Q6:=Q6.sto y35;refine C.ife rfl (fun c38=>?_) (fun c38=>?_)
  ·have hk4:=c38;refine sq fun _ J39=>RS.mvP rfl ?_;refine RS.nilCheck rfl ?_;refine RS.fl 0 V123 rfl C63 ?_;refine RS.ld V63 B4 ?_;refine RS.call E72 (decodeV _ _ _ _ _ Q6 hc6 (by omega)) rfl (fun v40 w40 x40 A40=>?_);have zw40:=x40.size;subst A40;have hvb:=S.vd_bd bQ6;obtain⟨v1,v2,v3⟩:=S.valB_rd zq.1 zq.2.1 zq.2.2;obtain⟨zv,ez⟩:∃z,z=S.valB zq.1 zq.2.1 zq.2.2:=⟨_,rfl⟩
   rw[←ez]at v1 v2 v3;have j1:(S.vdS zq.2.2).k=zv.1.vk:=congrArg S.ActV.vk v1;have j2:(S.vdS zq.2.2).num=zv.1.num:=congrArg S.ActV.num v1;have j3:(S.vdS zq.2.2).bits=zv.1.bits:=congrArg S.ActV.bits v1;have j4:(S.vdS zq.2.2).t=zv.1.t:=congrArg S.ActV.t v1;have j5:zq.1=zv.1.key:=congrArg S.ActV.key v1;rw[j1,j2,j3,j4];replace B14:=B14.ext x40;rw[j5]at B14;refine RS.nm ?_;refine RS.move (v:= .tuple _) rfl ?_;refine RS.exA ?_;refine RS.exI ?_;refine RS.exI ?_;refine RS.alloc T51 (fun b41 w41 e41 s41 x41 B41=>?_);refine RS.nm ?_;have zw41:=x41.size;refine RS.sa C51 B41 (fun w42 y42 N42=>?_);replace OKs:=(OKs.ext x40).ext x41;replace OKs:=OKs.st y42 (by intros;try (first|(intro _ _)|(intro _)|skip);first|omega|(have hq:=hOK _ (by assumption);first|omega|(dsimp only at*;omega)));have zw42:=y42.size;replace B41:=N42;refine RS.asI rfl (RS.asI rfl ?_);refine nl J39 (sq fun _ J43=>?_);refine RS.mvP rfl (RS.mvI rfl (RS.mvI rfl ?_));replace B4:=((B4.ext x40).ext x41).sto y42;replace Q6:=((Q6.ext x40).ext x41).sto y42;refine RS.callx E70 (rNext _ w.heap.size _ (by omega) _ _ _ _ _ (S.vdS zq.2.2).u (S.vdS zq.2.2).e (by omega) _ B4 Q6 hc6 (by omega)) rfl (fun e44 w44 A44=>?_);obtain⟨rfl,X44,a7,n7,c7,N44,hc7,hn7,Q7⟩:=A44;refine⟨_,rfl,?_⟩;refine RS.nm ?_;replace OKs:=OKs.pr X44 (by intros;try (first|(intro _ _)|(intro _)|skip);first|omega|(have hq:=hOK _ (by assumption);first|omega|(dsimp only at*;omega)));have zw44:=X44.size;replace B4:=N44;rw[v2]at B4;rw[v3]at Q7;have lQ7:=Q7.len;have bQ7:=Q7.bd;refine nl J43 (region ?_);replace B41:=B41.pro X44;refine RS.la V51 C51 B41 4 ?_;refine RS.fl 3 V57 rfl C53 ?_;refine RS.fl 5 V53 rfl C51 ?_;replace B14:=((B14.ext x41).sto y42).pro X44;refine RS.sa C51 B14 (fun w45 y45 N45=>?_)
   replace OKs:=OKs.st y45 (by intros;try (first|(intro _ _)|(intro _)|skip);first|omega|(have hq:=hOK _ (by assumption);first|omega|(dsimp only at*;omega)));have zw45:=y45.size;replace B14:=N45;refine nl J36 (sq fun _ J46=>?_);refine RS.mvP rfl ?_;replace B4:=B4.sto y45;replace Q7:=Q7.sto y45;refine RS.callx E68 (rNumber _ w.heap.size _ (by omega) _ _ _ _ _ 500000003 (by decide) _ B4 Q7 hc7 (by omega)) rfl (fun e47 w47 A47=>?_);obtain⟨rfl,X47,a8,n8,c8,N47,hc8,hn8,Q8⟩:=A47;refine⟨_,rfl,?_⟩;refine RS.nm ?_;replace OKs:=OKs.pr X47 (by intros;try (first|(intro _ _)|(intro _)|skip);first|omega|(have hq:=hOK _ (by assumption);first|omega|(dsimp only at*;omega)));have zw47:=X47.size;replace B4:=N47;obtain⟨ze,ee⟩:∃z,z=S.numB 500000003 zv.2.1 zv.2.2:=⟨_,rfl⟩
   rw[←ee]at B4 Q8⊢;have lQ8:=Q8.len;have bQ8:=Q8.bd;refine RS.o (D.conv rfl V49 V47 (W.u32m _)) ?_;refine RS.mvP rfl ?_;refine RS.callx E68 (rNumber _ w.heap.size _ (by omega) _ _ _ _ _ 500000003 (by decide) _ B4 Q8 hc8 (by omega)) rfl (fun e48 w48 A48=>?_);obtain⟨rfl,X48,a9,n9,c9,N48,hc9,hn9,Q9⟩:=A48;refine⟨_,rfl,?_⟩;refine RS.nm ?_;replace OKs:=OKs.pr X48 (by intros;try (first|(intro _ _)|(intro _)|skip);first|omega|(have hq:=hOK _ (by assumption);first|omega|(dsimp only at*;omega)));have zw48:=X48.size;replace B4:=N48;obtain⟨zs,es⟩:∃z,z=S.numB 500000003 ze.2.1 ze.2.2:=⟨_,rfl⟩
   rw[←es]at B4 Q9⊢;have lQ9:=Q9.len;have bQ9:=Q9.bd;refine RS.o (D.conv rfl V49 V47 (W.u32m _)) ?_;refine RS.fl 9 V57 rfl C55 ?_;refine RS.fl 9 V55 rfl C47 ?_;replace B14:=(B14.pro X47).pro X48;refine RS.store rfl (v:= .int _ _) rfl C47 rfl B14 rfl (fun w49 y49 N49=>?_);replace OKs:=OKs.st y49 (by intros;try (first|(intro _ _)|(intro _)|skip);first|omega|(have hq:=hOK _ (by assumption);first|omega|(dsimp only at*;omega)));have zw49:=y49.size;replace B14:=N49;refine RS.fl 9 V57 rfl C55 ?_;refine RS.fl 10 V55 rfl C47 ?_;refine RS.store rfl (v:= .int _ _) rfl C47 rfl B14 rfl (fun w50 y50 N50=>?_);replace OKs:=OKs.st y50 (by intros;try (first|(intro _ _)|(intro _)|skip);first|omega|(have hq:=hOK _ (by assumption);first|omega|(dsimp only at*;omega)));have zw50:=y50.size;replace B14:=N50;refine nl J46 (wx fun _ J51=>wx fun _ J52=>?_);have hsb:=S.Steps.ok hbd (⟨zh,za,zl,zt,zk,zv,ze,zs,eh,ea,el,et,ek,(by rw[ez,ezq];exact S.actB_val zk.2.1 zk.2.2 hk4),ee,es⟩:S.Steps bs);refine region (RS.mvP rfl ?_);refine RS.nilCheck rfl ?_;refine RS.fl 1 V123 rfl C4 ?_;replace B4:=(B4.sto y49).sto y50;refine RS.ld V4 B4 ?_;refine RS.mvB rfl ?_;replace hE:=(((((((Ext.tr (Ext.tr hE x40) x41).trans y42.belo).trans X44.belo).trans y45.belo).trans X47.belo).trans X48.belo).trans y49.belo).trans y50.belo;replace B2:=((((((((B2.ext x40).ext x41).sto y42).pro X44).sto y45).pro X47).pro X48).sto y49).sto y50;refine RS.splitb 107 rfl rfl (fun c53=>?_) (fun c53=>?_)
   ·refine RS.nm ?_;have hb1:=c53;refine RS.skT 107 ?_;refine RS.skT 107 ?_;refine RS.skT 107 ?_;refine RS.skT 107 ?_;refine RS.skT 107 ?_;refine RS.skT 107 ?_;refine RS.pkt ?_;refine RS.mvB rfl ?_;refine RS.skT 115 ?_;refine RS.skT 115 ?_;refine RS.skT 115 ?_;refine RS.pkt ?_;refine nl J52 ?_;refine C.ift rfl ?_;refine sq fun _ J54=>?_
    refine RS.move (v:= .func _ _ _) rfl ?_;refine RS.callv E66 (decFail _) rfl rfl (fun e55 w55 A55=>?_);obtain⟨v55,rfl,x55,A55⟩:=A55;refine⟨_,rfl,?_⟩;have zw55:=x55.size;subst A55;refine RS.nm ?_;refine RS.exA ?_;refine RS.exI ?_;replace B2:=B2.ext x55;refine RS.sa C57 B2 (fun w56 y56 N56=>?_);replace OKs:=OKs.ext x55;replace OKs:=OKs.st y56 (by intros;try (first|(intro _ _)|(intro _)|skip);first|omega|(have hq:=hOK _ (by assumption);first|omega|(dsimp only at*;omega)));have zw56:=y56.size;replace B2:=N56;refine RS.asI rfl (nl J54 (wp_ret ?_));refine retAI V57 C57 B2 11 ?_;obtain⟨q1,q2⟩:=S.dec_none (S.Steps.none hbd (⟨zh,za,zl,zt,zk,zv,ze,zs,eh,ea,el,et,ek,(by rw[ez,ezq];exact S.actB_val zk.2.1 zk.2.2 hk4),ee,es⟩:S.Steps bs) (fun⟨_,g2,g3,g4⟩=>by first|exact Bool.noConfusion (hb1.symm.trans g2)|exact absurd g4 hz|(have g3:zs.2.2=[]:=g3;rw[g3]at lQ9;simp at lQ9;omega)));rw[q1,q2];replace hE:=(Ext.tr hE x55).trans y56.belo;exact⟨_,rfl,hE,_,_,rfl,Nat.le_refl _,WRow.nil⟩
   refine RS.nm ?_;have hb0:=c53;refine RS.wt 107 ?_;refine RS.mvP rfl ?_;refine RS.wt 107 ?_;refine RS.nilCheck rfl ?_;refine RS.wt 107 ?_;refine RS.fl 0 V123 rfl C63 ?_;refine RS.wt 107 ?_;refine RS.ld V63 B4 ?_;refine RS.wt 107 ?_;refine RS.ln V63 ?_;refine RS.wt 107 ?_;refine RS.og ?_;refine RS.pk ?_;refine RS.mvB rfl ?_;refine RS.splitd 115 rfl rfl (fun c57=>?_) (fun c57=>?_)
   ·refine RS.nm ?_;have hr:=c57;refine RS.skT 115 ?_;refine RS.skT 115 ?_;refine RS.skT 115 ?_;refine RS.pkt ?_;refine nl J52 ?_;refine C.ift rfl ?_;refine sq fun _ J58=>?_
    refine RS.move (v:= .func _ _ _) rfl ?_;refine RS.callv E66 (decFail _) rfl rfl (fun e59 w59 A59=>?_);obtain⟨v59,rfl,x59,A59⟩:=A59;refine⟨_,rfl,?_⟩;have zw59:=x59.size;subst A59;refine RS.nm ?_;refine RS.exA ?_;refine RS.exI ?_;replace B2:=B2.ext x59;refine RS.sa C57 B2 (fun w60 y60 N60=>?_);replace OKs:=OKs.ext x59;replace OKs:=OKs.st y60 (by intros;try (first|(intro _ _)|(intro _)|skip);first|omega|(have hq:=hOK _ (by assumption);first|omega|(dsimp only at*;omega)));have zw60:=y60.size;replace B2:=N60;refine RS.asI rfl (nl J58 (wp_ret ?_));refine retAI V57 C57 B2 11 ?_;obtain⟨q1,q2⟩:=S.dec_none (S.Steps.none hbd (⟨zh,za,zl,zt,zk,zv,ze,zs,eh,ea,el,et,ek,(by rw[ez,ezq];exact S.actB_val zk.2.1 zk.2.2 hk4),ee,es⟩:S.Steps bs) (fun⟨_,g2,g3,g4⟩=>by first|exact Bool.noConfusion (hb1.symm.trans g2)|exact absurd g4 hz|(have g3:zs.2.2=[]:=g3;rw[g3]at lQ9;simp at lQ9;omega)));rw[q1,q2];replace hE:=(Ext.tr hE x59).trans y60.belo;exact⟨_,rfl,hE,_,_,rfl,Nat.le_refl _,WRow.nil⟩
   refine RS.nm ?_;have hr:=c57;refine RS.wt 115 ?_;refine RS.la V57 C57 B14 11 ?_;refine RS.wt 115 ?_;replace DL:=((((((((DL.ext x40).ext x41).sto y42).pro X44).sto y45).pro X47).pro X48).sto y49).sto y50;refine RS.call E73 (checkO (⟨zh,za,zl,zt,zk,zv,ze,zs,eh,ea,el,et,ek,(by rw[ez,ezq];exact S.actB_val zk.2.1 zk.2.2 hk4),ee,es⟩:S.Steps bs).op hsb.1 _ _ _ DL hcL) rfl (fun v61 w61 x61 A61=>?_);have zw61:=x61.size;subst A61;refine RS.nm ?_;refine RS.wt 115 ?_;refine RS.on ?_;refine RS.pk ?_;refine nl J52 ?_;replace hE:=Ext.tr hE x61;replace B2:=B2.ext x61;replace OKs:=OKs.ext x61;refine C.ifn rfl (fun c62=>?_) (fun c62=>?_)
   ·have hz:=c62;refine sq fun _ J63=>?_
    refine RS.move (v:= .func _ _ _) rfl ?_;refine RS.callv E66 (decFail _) rfl rfl (fun e64 w64 A64=>?_);obtain⟨v64,rfl,x64,A64⟩:=A64;refine⟨_,rfl,?_⟩;have zw64:=x64.size;subst A64;refine RS.nm ?_;refine RS.exA ?_;refine RS.exI ?_;replace B2:=B2.ext x64;refine RS.sa C57 B2 (fun w65 y65 N65=>?_);replace OKs:=OKs.ext x64;replace OKs:=OKs.st y65 (by intros;try (first|(intro _ _)|(intro _)|skip);first|omega|(have hq:=hOK _ (by assumption);first|omega|(dsimp only at*;omega)));have zw65:=y65.size;replace B2:=N65;refine RS.asI rfl (nl J63 (wp_ret ?_));refine retAI V57 C57 B2 11 ?_;obtain⟨q1,q2⟩:=S.dec_none (S.Steps.none hbd (⟨zh,za,zl,zt,zk,zv,ze,zs,eh,ea,el,et,ek,(by rw[ez,ezq];exact S.actB_val zk.2.1 zk.2.2 hk4),ee,es⟩:S.Steps bs) (fun⟨_,g2,g3,g4⟩=>by first|exact Bool.noConfusion (hb1.symm.trans g2)|exact absurd g4 hz|(have g3:zs.2.2=[]:=g3;rw[g3]at lQ9;simp at lQ9;omega)));rw[q1,q2];replace hE:=(Ext.tr hE x64).trans y65.belo;exact⟨_,rfl,hE,_,_,rfl,Nat.le_refl _,WRow.nil⟩
   have hz:=c62;refine wp_skip (J51 _ _ (sq fun _ J66=>?_));replace B14:=B14.ext x61;refine RS.la V57 C57 B14 11 ?_;refine RS.sa C57 B2 (fun w67 y67 N67=>?_);replace OKs:=OKs.st y67 (by intros;try (first|(intro _ _)|(intro _)|skip);first|omega|(have hq:=hOK _ (by assumption);first|omega|(dsimp only at*;omega)));have zw67:=y67.size;replace B2:=N67;refine RS.asI rfl (nl J66 (wp_ret ?_));refine retAI V57 C57 B2 11 ?_;obtain⟨q1,q2⟩:=S.dec_some (S.Steps.good hbd (⟨zh,za,zl,zt,zk,zv,ze,zs,eh,ea,el,et,ek,(by rw[ez,ezq];exact S.actB_val zk.2.1 zk.2.2 hk4),ee,es⟩:S.Steps bs) (by show zh.1=111;exact hx1) hb0 (List.eq_nil_of_length_eq_zero (by show zs.2.2.length=0;omega)) hz);rw[q1,q2];replace DL:=(DL.ext x61).sto y67;replace hE:=hE.trans y67.belo;exact⟨_,rfl,hE,_,_,rfl,hcL,DL.weaken (fun k _ h=>by omega)⟩
  have hk4:=c38;refine wp_skip (J36 _ _ (sq fun _ J68=>RS.mvP rfl ?_));refine RS.callx E68 (rNumber _ w.heap.size _ (by omega) _ _ _ _ _ 500000003 (by decide) _ B4 Q6 hc6 (by omega)) rfl (fun e69 w69 A69=>?_);obtain⟨rfl,X69,a8,n8,c8,N69,hc8,hn8,Q8⟩:=A69;refine⟨_,rfl,?_⟩;refine RS.nm ?_;replace OKs:=OKs.pr X69 (by intros;try (first|(intro _ _)|(intro _)|skip);first|omega|(have hq:=hOK _ (by assumption);first|omega|(dsimp only at*;omega)));have zw69:=X69.size;replace B4:=N69;obtain⟨ze,ee⟩:∃z,z=S.numB 500000003 zq.2.1 zq.2.2:=⟨_,rfl⟩
  rw[←ee]at B4 Q8⊢;have lQ8:=Q8.len;have bQ8:=Q8.bd;refine RS.o (D.conv rfl V49 V47 (W.u32m _)) ?_;refine RS.mvP rfl ?_;refine RS.callx E68 (rNumber _ w.heap.size _ (by omega) _ _ _ _ _ 500000003 (by decide) _ B4 Q8 hc8 (by omega)) rfl (fun e70 w70 A70=>?_);obtain⟨rfl,X70,a9,n9,c9,N70,hc9,hn9,Q9⟩:=A70;refine⟨_,rfl,?_⟩;refine RS.nm ?_;replace OKs:=OKs.pr X70 (by intros;try (first|(intro _ _)|(intro _)|skip);first|omega|(have hq:=hOK _ (by assumption);first|omega|(dsimp only at*;omega)));have zw70:=X70.size;replace B4:=N70;obtain⟨zs,es⟩:∃z,z=S.numB 500000003 ze.2.1 ze.2.2:=⟨_,rfl⟩
  rw[←es]at B4 Q9⊢;have lQ9:=Q9.len;have bQ9:=Q9.bd;refine RS.o (D.conv rfl V49 V47 (W.u32m _)) ?_;refine RS.fl 9 V57 rfl C55 ?_;refine RS.fl 9 V55 rfl C47 ?_;replace B14:=(B14.pro X69).pro X70;refine RS.store rfl (v:= .int _ _) rfl C47 rfl B14 rfl (fun w71 y71 N71=>?_);replace OKs:=OKs.st y71 (by intros;try (first|(intro _ _)|(intro _)|skip);first|omega|(have hq:=hOK _ (by assumption);first|omega|(dsimp only at*;omega)));have zw71:=y71.size;replace B14:=N71;refine RS.fl 9 V57 rfl C55 ?_;refine RS.fl 10 V55 rfl C47 ?_;refine RS.store rfl (v:= .int _ _) rfl C47 rfl B14 rfl (fun w72 y72 N72=>?_);replace OKs:=OKs.st y72 (by intros;try (first|(intro _ _)|(intro _)|skip);first|omega|(have hq:=hOK _ (by assumption);first|omega|(dsimp only at*;omega)));have zw72:=y72.size;replace B14:=N72;refine nl J68 (wx fun _ J73=>wx fun _ J74=>?_);have hsb:=S.Steps.ok hbd (⟨zh,za,zl,zt,zk,(⟨0,0,0,zq.1, .empty⟩,zq.2.1,zq.2.2),ze,zs,eh,ea,el,et,ek,(by rw[ezq];exact S.actB_key zk.2.1 zk.2.2 hk1 hk4),ee,es⟩:S.Steps bs);refine region (RS.mvP rfl ?_);refine RS.nilCheck rfl ?_;refine RS.fl 1 V123 rfl C4 ?_;replace B4:=(B4.sto y71).sto y72;refine RS.ld V4 B4 ?_;refine RS.mvB rfl ?_;replace hE:=(((hE.trans X69.belo).trans X70.belo).trans y71.belo).trans y72.belo;replace B2:=(((B2.pro X69).pro X70).sto y71).sto y72;refine RS.splitb 107 rfl rfl (fun c75=>?_) (fun c75=>?_)
  ·refine RS.nm ?_;have hb1:=c75;refine RS.skT 107 ?_;refine RS.skT 107 ?_;refine RS.skT 107 ?_;refine RS.skT 107 ?_;refine RS.skT 107 ?_;refine RS.skT 107 ?_;refine RS.pkt ?_;refine RS.mvB rfl ?_;refine RS.skT 115 ?_;refine RS.skT 115 ?_;refine RS.skT 115 ?_;refine RS.pkt ?_;refine nl J74 ?_;refine C.ift rfl ?_;refine sq fun _ J76=>?_
   refine RS.move (v:= .func _ _ _) rfl ?_;refine RS.callv E66 (decFail _) rfl rfl (fun e77 w77 A77=>?_);obtain⟨v77,rfl,x77,A77⟩:=A77;refine⟨_,rfl,?_⟩;have zw77:=x77.size;subst A77;refine RS.nm ?_;refine RS.exA ?_;refine RS.exI ?_;replace B2:=B2.ext x77;refine RS.sa C57 B2 (fun w78 y78 N78=>?_);replace OKs:=OKs.ext x77;replace OKs:=OKs.st y78 (by intros;try (first|(intro _ _)|(intro _)|skip);first|omega|(have hq:=hOK _ (by assumption);first|omega|(dsimp only at*;omega)));have zw78:=y78.size;replace B2:=N78;refine RS.asI rfl (nl J76 (wp_ret ?_));refine retAI V57 C57 B2 11 ?_;obtain⟨q1,q2⟩:=S.dec_none (S.Steps.none hbd (⟨zh,za,zl,zt,zk,(⟨0,0,0,zq.1, .empty⟩,zq.2.1,zq.2.2),ze,zs,eh,ea,el,et,ek,(by rw[ezq];exact S.actB_key zk.2.1 zk.2.2 hk1 hk4),ee,es⟩:S.Steps bs) (fun⟨_,g2,g3,g4⟩=>by first|exact Bool.noConfusion (hb1.symm.trans g2)|exact absurd g4 hz|(have g3:zs.2.2=[]:=g3;rw[g3]at lQ9;simp at lQ9;omega)));rw[q1,q2];replace hE:=(Ext.tr hE x77).trans y78.belo;exact⟨_,rfl,hE,_,_,rfl,Nat.le_refl _,WRow.nil⟩
  refine RS.nm ?_;have hb0:=c75;refine RS.wt 107 ?_;refine RS.mvP rfl ?_;refine RS.wt 107 ?_;refine RS.nilCheck rfl ?_;refine RS.wt 107 ?_;refine RS.fl 0 V123 rfl C63 ?_;refine RS.wt 107 ?_;refine RS.ld V63 B4 ?_;refine RS.wt 107 ?_;refine RS.ln V63 ?_;refine RS.wt 107 ?_;refine RS.og ?_;refine RS.pk ?_;refine RS.mvB rfl ?_;refine RS.splitd 115 rfl rfl (fun c79=>?_) (fun c79=>?_)
  ·refine RS.nm ?_;have hr:=c79;refine RS.skT 115 ?_;refine RS.skT 115 ?_;refine RS.skT 115 ?_;refine RS.pkt ?_;refine nl J74 ?_;refine C.ift rfl ?_;refine sq fun _ J80=>?_
   refine RS.move (v:= .func _ _ _) rfl ?_;refine RS.callv E66 (decFail _) rfl rfl (fun e81 w81 A81=>?_);obtain⟨v81,rfl,x81,A81⟩:=A81;refine⟨_,rfl,?_⟩;have zw81:=x81.size;subst A81;refine RS.nm ?_;refine RS.exA ?_;refine RS.exI ?_;replace B2:=B2.ext x81;refine RS.sa C57 B2 (fun w82 y82 N82=>?_);replace OKs:=OKs.ext x81;replace OKs:=OKs.st y82 (by intros;try (first|(intro _ _)|(intro _)|skip);first|omega|(have hq:=hOK _ (by assumption);first|omega|(dsimp only at*;omega)));have zw82:=y82.size;replace B2:=N82;refine RS.asI rfl (nl J80 (wp_ret ?_));refine retAI V57 C57 B2 11 ?_;obtain⟨q1,q2⟩:=S.dec_none (S.Steps.none hbd (⟨zh,za,zl,zt,zk,(⟨0,0,0,zq.1, .empty⟩,zq.2.1,zq.2.2),ze,zs,eh,ea,el,et,ek,(by rw[ezq];exact S.actB_key zk.2.1 zk.2.2 hk1 hk4),ee,es⟩:S.Steps bs) (fun⟨_,g2,g3,g4⟩=>by first|exact Bool.noConfusion (hb1.symm.trans g2)|exact absurd g4 hz|(have g3:zs.2.2=[]:=g3;rw[g3]at lQ9;simp at lQ9;omega)));rw[q1,q2];replace hE:=(Ext.tr hE x81).trans y82.belo;exact⟨_,rfl,hE,_,_,rfl,Nat.le_refl _,WRow.nil⟩
  refine RS.nm ?_;have hr:=c79;refine RS.wt 115 ?_;refine RS.la V57 C57 B14 11 ?_;refine RS.wt 115 ?_;replace DL:=(((DL.pro X69).pro X70).sto y71).sto y72;refine RS.call E73 (checkO (⟨zh,za,zl,zt,zk,(⟨0,0,0,zq.1, .empty⟩,zq.2.1,zq.2.2),ze,zs,eh,ea,el,et,ek,(by rw[ezq];exact S.actB_key zk.2.1 zk.2.2 hk1 hk4),ee,es⟩:S.Steps bs).op hsb.1 _ _ _ DL hcL) rfl (fun v83 w83 x83 A83=>?_);have zw83:=x83.size;subst A83;refine RS.nm ?_;refine RS.wt 115 ?_;refine RS.on ?_;refine RS.pk ?_;refine nl J74 ?_;replace hE:=Ext.tr hE x83;replace B2:=B2.ext x83;replace OKs:=OKs.ext x83;refine C.ifn rfl (fun c84=>?_) (fun c84=>?_)
  ·have hz:=c84;refine sq fun _ J85=>?_
   refine RS.move (v:= .func _ _ _) rfl ?_;refine RS.callv E66 (decFail _) rfl rfl (fun e86 w86 A86=>?_);obtain⟨v86,rfl,x86,A86⟩:=A86;refine⟨_,rfl,?_⟩;have zw86:=x86.size;subst A86;refine RS.nm ?_;refine RS.exA ?_;refine RS.exI ?_;replace B2:=B2.ext x86;refine RS.sa C57 B2 (fun w87 y87 N87=>?_);replace OKs:=OKs.ext x86;replace OKs:=OKs.st y87 (by intros;try (first|(intro _ _)|(intro _)|skip);first|omega|(have hq:=hOK _ (by assumption);first|omega|(dsimp only at*;omega)));have zw87:=y87.size;replace B2:=N87;refine RS.asI rfl (nl J85 (wp_ret ?_));refine retAI V57 C57 B2 11 ?_;obtain⟨q1,q2⟩:=S.dec_none (S.Steps.none hbd (⟨zh,za,zl,zt,zk,(⟨0,0,0,zq.1, .empty⟩,zq.2.1,zq.2.2),ze,zs,eh,ea,el,et,ek,(by rw[ezq];exact S.actB_key zk.2.1 zk.2.2 hk1 hk4),ee,es⟩:S.Steps bs) (fun⟨_,g2,g3,g4⟩=>by first|exact Bool.noConfusion (hb1.symm.trans g2)|exact absurd g4 hz|(have g3:zs.2.2=[]:=g3;rw[g3]at lQ9;simp at lQ9;omega)));rw[q1,q2];replace hE:=(Ext.tr hE x86).trans y87.belo;exact⟨_,rfl,hE,_,_,rfl,Nat.le_refl _,WRow.nil⟩
  have hz:=c84;refine wp_skip (J73 _ _ (sq fun _ J88=>?_));replace B14:=B14.ext x83;refine RS.la V57 C57 B14 11 ?_;refine RS.sa C57 B2 (fun w89 y89 N89=>?_);replace OKs:=OKs.st y89 (by intros;try (first|(intro _ _)|(intro _)|skip);first|omega|(have hq:=hOK _ (by assumption);first|omega|(dsimp only at*;omega)));have zw89:=y89.size;replace B2:=N89;refine RS.asI rfl (nl J88 (wp_ret ?_));refine retAI V57 C57 B2 11 ?_;obtain⟨q1,q2⟩:=S.dec_some (S.Steps.good hbd (⟨zh,za,zl,zt,zk,(⟨0,0,0,zq.1, .empty⟩,zq.2.1,zq.2.2),ze,zs,eh,ea,el,et,ek,(by rw[ezq];exact S.actB_key zk.2.1 zk.2.2 hk1 hk4),ee,es⟩:S.Steps bs) (by show zh.1=111;exact hx1) hb0 (List.eq_nil_of_length_eq_zero (by show zs.2.2.length=0;omega)) hz);rw[q1,q2];replace DL:=(DL.ext x83).sto y89;replace hE:=hE.trans y89.belo;exact⟨_,rfl,hE,_,_,rfl,hcL,DL.weaken (fun k _ h=>by omega)⟩
 have hk1:=c30;refine wp_skip (J28 _ _ (wx fun _ J90=>sq fun _ J91=>?_));refine RS.fl 3 V57 rfl C53 ?_;refine RS.fl 3 V53 rfl C5 ?_;refine RS.ld V5 B14 ?_;refine RS.oq ?_;refine nl J91 ?_;refine C.ife rfl (fun c92=>?_) (fun c92=>?_)
 ·have hk4:=c92;exfalso;omega
 have hk4:=c92;refine wp_skip (J90 _ _ (sq fun _ J93=>RS.mvP rfl ?_));refine RS.callx E68 (rNumber _ w.heap.size _ (by omega) _ _ _ _ _ 500000003 (by decide) _ B4 Q5 hc5 (by omega)) rfl (fun e94 w94 A94=>?_);obtain⟨rfl,X94,a8,n8,c8,N94,hc8,hn8,Q8⟩:=A94;refine⟨_,rfl,?_⟩;refine RS.nm ?_;have zw94:=X94.size;replace B4:=N94;obtain⟨ze,ee⟩:∃z,z=S.numB 500000003 zk.2.1 zk.2.2:=⟨_,rfl⟩
 rw[←ee]at B4 Q8⊢;have lQ8:=Q8.len;have bQ8:=Q8.bd;refine RS.o (D.conv rfl V49 V47 (W.u32m _)) ?_;refine RS.mvP rfl ?_;refine RS.callx E68 (rNumber _ w.heap.size _ (by omega) _ _ _ _ _ 500000003 (by decide) _ B4 Q8 hc8 (by omega)) rfl (fun e95 w95 A95=>?_);obtain⟨rfl,X95,a9,n9,c9,N95,hc9,hn9,Q9⟩:=A95;refine⟨_,rfl,?_⟩;refine RS.nm ?_;have zw95:=X95.size;replace B4:=N95;obtain⟨zs,es⟩:∃z,z=S.numB 500000003 ze.2.1 ze.2.2:=⟨_,rfl⟩
 rw[←es]at B4 Q9⊢;have lQ9:=Q9.len;have bQ9:=Q9.bd;refine RS.o (D.conv rfl V49 V47 (W.u32m _)) ?_;refine RS.fl 9 V57 rfl C55 ?_;refine RS.fl 9 V55 rfl C47 ?_;replace B14:=(B14.pro X94).pro X95;refine RS.store rfl (v:= .int _ _) rfl C47 rfl B14 rfl (fun w96 y96 N96=>?_);have zw96:=y96.size;replace B14:=N96;refine RS.fl 9 V57 rfl C55 ?_;refine RS.fl 10 V55 rfl C47 ?_;refine RS.store rfl (v:= .int _ _) rfl C47 rfl B14 rfl (fun w97 y97 N97=>?_);have zw97:=y97.size;replace B14:=N97;refine nl J93 (wx fun _ J98=>wx fun _ J99=>?_);have hsb:=S.Steps.ok hbd (⟨zh,za,zl,zt,zk,(⟨0,0,0, .empty, .empty⟩,zk.2.1,zk.2.2),ze,zs,eh,ea,el,et,ek,(S.actB_none zk.2.1 zk.2.2 hk1),ee,es⟩:S.Steps bs);refine region (RS.mvP rfl ?_);refine RS.nilCheck rfl ?_;refine RS.fl 1 V123 rfl C4 ?_;replace B4:=(B4.sto y96).sto y97;refine RS.ld V4 B4 ?_;refine RS.mvB rfl ?_;replace hE:=(((hE.trans X94.belo).trans X95.belo).trans y96.belo).trans y97.belo;replace B2:=(((B2.pro X94).pro X95).sto y96).sto y97;refine RS.splitb 107 rfl rfl (fun c100=>?_) (fun c100=>?_)
 ·refine RS.nm ?_;have hb1:=c100;refine RS.skT 107 ?_;refine RS.skT 107 ?_;refine RS.skT 107 ?_;refine RS.skT 107 ?_;refine RS.skT 107 ?_;refine RS.skT 107 ?_;refine RS.pkt ?_;refine RS.mvB rfl ?_;refine RS.skT 115 ?_;refine RS.skT 115 ?_;refine RS.skT 115 ?_;refine RS.pkt ?_;refine nl J99 ?_;refine C.ift rfl ?_;refine sq fun _ J101=>?_
  refine RS.move (v:= .func _ _ _) rfl ?_;refine RS.callv E66 (decFail _) rfl rfl (fun e102 w102 A102=>?_);obtain⟨v102,rfl,x102,A102⟩:=A102;refine⟨_,rfl,?_⟩;have zw102:=x102.size;subst A102;refine RS.nm ?_;refine RS.exA ?_;refine RS.exI ?_;replace B2:=B2.ext x102;refine RS.sa C57 B2 (fun w103 y103 N103=>?_);have zw103:=y103.size;replace B2:=N103;refine RS.asI rfl (nl J101 (wp_ret ?_));refine retAI V57 C57 B2 11 ?_;obtain⟨q1,q2⟩:=S.dec_none (S.Steps.none hbd (⟨zh,za,zl,zt,zk,(⟨0,0,0, .empty, .empty⟩,zk.2.1,zk.2.2),ze,zs,eh,ea,el,et,ek,(S.actB_none zk.2.1 zk.2.2 hk1),ee,es⟩:S.Steps bs) (fun⟨_,g2,g3,g4⟩=>by first|exact Bool.noConfusion (hb1.symm.trans g2)|exact absurd g4 hz|(have g3:zs.2.2=[]:=g3;rw[g3]at lQ9;simp at lQ9;omega)));rw[q1,q2];replace hE:=(Ext.tr hE x102).trans y103.belo;exact⟨_,rfl,hE,_,_,rfl,Nat.le_refl _,WRow.nil⟩
 refine RS.nm ?_;have hb0:=c100;refine RS.wt 107 ?_;refine RS.mvP rfl ?_;refine RS.wt 107 ?_;refine RS.nilCheck rfl ?_;refine RS.wt 107 ?_;refine RS.fl 0 V123 rfl C63 ?_;refine RS.wt 107 ?_;refine RS.ld V63 B4 ?_;refine RS.wt 107 ?_;refine RS.ln V63 ?_;refine RS.wt 107 ?_;refine RS.og ?_;refine RS.pk ?_;refine RS.mvB rfl ?_;refine RS.splitd 115 rfl rfl (fun c104=>?_) (fun c104=>?_)
 ·refine RS.nm ?_;have hr:=c104;refine RS.skT 115 ?_;refine RS.skT 115 ?_;refine RS.skT 115 ?_;refine RS.pkt ?_;refine nl J99 ?_;refine C.ift rfl ?_;refine sq fun _ J105=>?_
  refine RS.move (v:= .func _ _ _) rfl ?_;refine RS.callv E66 (decFail _) rfl rfl (fun e106 w106 A106=>?_);obtain⟨v106,rfl,x106,A106⟩:=A106;refine⟨_,rfl,?_⟩;have zw106:=x106.size;subst A106;refine RS.nm ?_;refine RS.exA ?_;refine RS.exI ?_;replace B2:=B2.ext x106;refine RS.sa C57 B2 (fun w107 y107 N107=>?_);have zw107:=y107.size;replace B2:=N107;refine RS.asI rfl (nl J105 (wp_ret ?_));refine retAI V57 C57 B2 11 ?_;obtain⟨q1,q2⟩:=S.dec_none (S.Steps.none hbd (⟨zh,za,zl,zt,zk,(⟨0,0,0, .empty, .empty⟩,zk.2.1,zk.2.2),ze,zs,eh,ea,el,et,ek,(S.actB_none zk.2.1 zk.2.2 hk1),ee,es⟩:S.Steps bs) (fun⟨_,g2,g3,g4⟩=>by first|exact Bool.noConfusion (hb1.symm.trans g2)|exact absurd g4 hz|(have g3:zs.2.2=[]:=g3;rw[g3]at lQ9;simp at lQ9;omega)));rw[q1,q2];replace hE:=(Ext.tr hE x106).trans y107.belo;exact⟨_,rfl,hE,_,_,rfl,Nat.le_refl _,WRow.nil⟩
 refine RS.nm ?_;have hr:=c104;refine RS.wt 115 ?_;refine RS.la V57 C57 B14 11 ?_;refine RS.wt 115 ?_;replace DL:=(((DL.pro X94).pro X95).sto y96).sto y97;refine RS.call E73 (checkO (⟨zh,za,zl,zt,zk,(⟨0,0,0, .empty, .empty⟩,zk.2.1,zk.2.2),ze,zs,eh,ea,el,et,ek,(S.actB_none zk.2.1 zk.2.2 hk1),ee,es⟩:S.Steps bs).op hsb.1 _ _ _ DL hcL) rfl (fun v108 w108 x108 A108=>?_);have zw108:=x108.size;subst A108;refine RS.nm ?_;refine RS.wt 115 ?_;refine RS.on ?_;refine RS.pk ?_;refine nl J99 ?_;replace hE:=Ext.tr hE x108;replace B2:=B2.ext x108;refine C.ifn rfl (fun c109=>?_) (fun c109=>?_)
 ·have hz:=c109;refine sq fun _ J110=>?_
  refine RS.move (v:= .func _ _ _) rfl ?_;refine RS.callv E66 (decFail _) rfl rfl (fun e111 w111 A111=>?_);obtain⟨v111,rfl,x111,A111⟩:=A111;refine⟨_,rfl,?_⟩;have zw111:=x111.size;subst A111;refine RS.nm ?_;refine RS.exA ?_;refine RS.exI ?_;replace B2:=B2.ext x111;refine RS.sa C57 B2 (fun w112 y112 N112=>?_);have zw112:=y112.size;replace B2:=N112;refine RS.asI rfl (nl J110 (wp_ret ?_));refine retAI V57 C57 B2 11 ?_;obtain⟨q1,q2⟩:=S.dec_none (S.Steps.none hbd (⟨zh,za,zl,zt,zk,(⟨0,0,0, .empty, .empty⟩,zk.2.1,zk.2.2),ze,zs,eh,ea,el,et,ek,(S.actB_none zk.2.1 zk.2.2 hk1),ee,es⟩:S.Steps bs) (fun⟨_,g2,g3,g4⟩=>by first|exact Bool.noConfusion (hb1.symm.trans g2)|exact absurd g4 hz|(have g3:zs.2.2=[]:=g3;rw[g3]at lQ9;simp at lQ9;omega)));rw[q1,q2];replace hE:=(Ext.tr hE x111).trans y112.belo;exact⟨_,rfl,hE,_,_,rfl,Nat.le_refl _,WRow.nil⟩
 have hz:=c109;refine wp_skip (J98 _ _ (sq fun _ J113=>?_));replace B14:=B14.ext x108;refine RS.la V57 C57 B14 11 ?_;refine RS.sa C57 B2 (fun w114 y114 N114=>?_);have zw114:=y114.size;replace B2:=N114;refine RS.asI rfl (nl J113 (wp_ret ?_));refine retAI V57 C57 B2 11 ?_;obtain⟨q1,q2⟩:=S.dec_some (S.Steps.good hbd (⟨zh,za,zl,zt,zk,(⟨0,0,0, .empty, .empty⟩,zk.2.1,zk.2.2),ze,zs,eh,ea,el,et,ek,(S.actB_none zk.2.1 zk.2.2 hk1),ee,es⟩:S.Steps bs) (by show zh.1=111;exact hx1) hb0 (List.eq_nil_of_length_eq_zero (by show zs.2.2.length=0;omega)) hz);rw[q1,q2];replace DL:=(DL.ext x108).sto y114;replace hE:=hE.trans y114.belo;exact⟨_,rfl,hE,_,_,rfl,hcL,DL.weaken (fun k _ h=>by omega)⟩
end W
namespace S
open G
def jdV(b:List Int):Int:=if 400<b.length then 3 else if decE b=0 then(if verE (decO b)=0 then 0 else 4)else 2
def jdO(b:List Int):OpV:=if jdV b=0 then decO b else OpV.zero
def jdI(b:List Int):List Int:=if jdV b=0 then sha (encS (decO b))else List.replicate 32 0
theorem jd_long{b:List Int}(h:400<b.length):jdV b=3:=by unfold jdV;rw[if_pos h]
theorem jd_form{b:List Int}(h:¬400<b.length)(hd:decE b≠0):jdV b=2:=by unfold jdV;rw[if_neg h,if_neg hd]
theorem jd_sig{b:List Int}(h:¬400<b.length)(hd:decE b=0)(hv:verE (decO b)≠0):jdV b=4:=by unfold jdV;rw[if_neg h,if_pos hd,if_neg hv]
theorem jd_fine{b:List Int}(h:¬400<b.length)(hd:decE b=0)(hv:verE (decO b)=0):jdV b=0:=by unfold jdV;rw[if_neg h,if_pos hd,if_pos hv]
theorem jd_ne{b:List Int}(h:jdV b≠0):jdO b=OpV.zero∧jdI b=List.replicate 32 0:=by unfold jdO jdI;rw[if_neg h,if_neg h];exact⟨rfl,rfl⟩
theorem jd_zero{b:List Int}(h:jdV b=0):jdO b=decO b∧jdI b=sha (encS (decO b)):=by unfold jdO jdI;rw[if_pos h,if_pos h];exact⟨rfl,rfl⟩
theorem jdI_arr(b:List Int):Arr .u8 32 (jdI b):=by
 unfold jdI;split
 ·exact sha_arr _
 ·exact Arr.zeros .u8 32
theorem jd_bd(b:List Int):0≤jdV b∧jdV b≤4∧jdV b≠1:=by
 unfold jdV
 repeat' split
 all_goals decide
theorem decO_ok{b:List Int}(hB:Bd .u8 b):(decO b).ok∧(decO b).ids.length=32*(decO b).n:=by
 by_cases h:decE b=0
 ·obtain⟨q1,q2,q3,_⟩:=dec_inv hB (dec_zero h);obtain⟨c1,_,c3⟩:=check_zero.1 q3;have hf:(decO b).key.size≤100∧(decO b).t.size≤100:=by
   rcases c3.2.2.2.2 with⟨_,h1,_,_,_,h2⟩|⟨_,hK,_,_,_,h2⟩|⟨_,hK,hV⟩
   ·rw[h1,h2];exact⟨by decide,by decide⟩
   ·rw[h2];exact⟨by have:=hK.2.1;omega,by decide⟩
   ·refine⟨by have:=hK.2.1;omega,?_⟩;rcases hV with⟨_,_,h2⟩|⟨_,_,h2,_⟩|⟨_,_,_,h2,_⟩
    ·rw[h2];decide
    ·rw[h2];decide
    ·omega
  exact⟨q1.ok (by omega),q2⟩
 ·have e:=(dec_ne h).1;have:decO b=OpV.zero:=by unfold decO;rw[e];rfl
  rw[this];exact⟨OpV.zero_ok,rfl⟩
theorem dec_good{b:List Int}(hB:Bd .u8 b)(h:decE b=0):checkE (decO b)=0∧encS (decO b)=b:=by
 obtain⟨_,_,q3,q4⟩:=dec_inv hB (dec_zero h);exact⟨q3,q4.symm⟩
end S
namespace W
open Go.RowKit G
set_option maxRecDepth 20000
set_option maxHeartbeats 8000000
attribute [local irreducible] RS RX
theorem E50:Enters prog 50:= .mk func50 (by kernel_rfl) rfl
theorem E51:Enters prog 51:= .mk func51 (by kernel_rfl) rfl
theorem E52:Enters prog 52:= .mk func52 (by kernel_rfl) rfl
theorem judgeOf{S0:Nat→Prop}(a:Option Addr)(n c:Nat)(bs:List Int)(TK:TypeId)(w:World)(K0:Kst w TK)(R0:IRow .u8 S0 w a n bs)(hc:n≤c)(hn:n≤1000000):
  Calls prog 24 #[.slice a n c] w (Ret w fun v w'=>∃a' c',v= .tuple #[.agg ([.int .u32 (S.jdO bs).au, .slice a' (S.jdO bs).n c', .int .u64 (S.jdO bs).st, .int .u8 (S.jdO bs).k, .string (S.jdO bs).key, .int .u8 (S.jdO bs).vk, .int .i64 (S.jdO bs).num, .int .u64 (S.jdO bs).bits, .string (S.jdO bs).t, .int .u32 (S.jdO bs).e, .int .u32 (S.jdO bs).s]:List Value).toArray, .agg (ints .u8 (S.jdI bs)).toArray, .int .u8 (S.jdV bs)]∧(S.jdO bs).n≤c'∧WRow .u8 32 (fun k=>w.heap.size≤k) w' a' (S.jdO bs).n (S.jdO bs).ids):=by
 replace R0:=R0.weaken (T:=fun k=>k<w.heap.size) (fun k hk _=>hk);have hbl:=R0.len;have hbd:=R0.bd;have hKl:=K0.lt;refine eE 32 func24 rfl rfl fun hE=>?_
 refine sq fun _ J1=>?_
 refine RS.alloc T57 (fun b2 w2 e2 s2 x2 B2=>?_);refine RS.nm ?_;have zw2:=x2.size;refine RS.alloc T59 (fun b3 w3 e3 s3 x3 B3=>?_);refine RS.nm ?_;have zw3:=x3.size;have A3:IArr .u8 w3 b3 32 (List.replicate 32 0) [] 59:=IArr.zero B3;clear B3;refine RS.asI rfl (nl J1 (wx fun _ J4=>sq fun _ J5=>RS.mvS rfl ?_));refine RS.ln V63 ?_;refine RS.og ?_;refine nl J5 ?_;replace hE:=Ext.tr (Ext.tr hE x2) x3;replace B2:=B2.ext x3;refine C.ifd rfl (fun c6=>?_) (fun c6=>?_)
 ·have hg:=c6;have hv:=S.jd_long (b:=bs) (by omega);refine wx fun _ J7=>?_
  refine regionX (Pr (fun k=>k=b2)) [(1, .q),(0, .e),(2, .e),(3, .g),(4, .q)] mixed (fun w=>Pr.refl _ _) (fun h k=>Pr.tr h k) (by kernel_rfl) (fun w8 x8=>?_);have zw8:=x8.size;replace A3:=A3.ext x8;refine RX.o (fun w' hw=>D.loadAgg rfl V59 rfl C59 (by decide) (by rw[ints_length,A3.len]) (A3.pr hw (by intros;try (first|(intro _ _)|(intro _)|skip);first|omega|(dsimp only at*;omega)|(simp_all;done)|(simp at*;omega))).cells) ?_;refine RX.eff ?_;replace B2:=B2.ext x8;refine RS.la V57 C57 B2 11 ?_;refine RS.nil ⟨(Pr.refl _ _),?_⟩;refine RX.eff ?_;refine RS.sa C57 B2 (fun w9 y9 N9=>?_);have zw9:=y9.size;replace B2:=N9;refine RS.nil ⟨((Pr.refl _ _).sto y9),?_⟩;refine RX.big ?_;replace A3:=A3.sto y9;refine RS.storeArr A3 rfl rfl C59 (by decide) (Arr.zeros .u8 32).1 (Arr.zeros .u8 32).2 (fun w10 y10 N10=>?_);have zw10:=y10.size;replace A3:=N10;refine RS.nil ?_;refine RX.assign (v:= .int .u8 3) rfl ?_;refine RX.nil (J7 _ _ ?_);refine wp_ret ?_;replace B2:=B2.sto y10;refine ret (rs:=[.cell 2 57, .cell 3 59, .tmp 4]) (vs:=[.agg _, .agg _, .int _ _]) (v:=(.tuple #[.agg _, .agg _, .int _ _])) rfl ⟨⟨_,rfl,loadVar_agg V57 rfl C57 (by decide) rfl (B2.cellsN 11 rfl)⟩,⟨_,rfl,loadVar_agg V59 rfl C59 (by decide) (by rw[ints_length,A3.len]) A3.cells⟩,rfl,trivial⟩ rfl ?_;obtain⟨e1,e2⟩:=S.jd_ne (b:=bs) (by rw[hv];decide);rw[e1,e2,hv];replace hE:=((Ext.tr hE x8).trans y9.belo).trans y10.belo;exact⟨_,rfl,hE,_,_,rfl,Nat.le_refl _,WRow.nil⟩
 have hg:=c6;refine wp_skip (J4 _ _ (sq fun _ J11=>RS.mvS rfl ?_));replace R0:=(R0.ext x2).ext x3;refine RS.call E50 (decodeO _ _ _ _ _ R0 hc hn) rfl (fun v12 w12 x12 A12=>?_);have zw12:=x12.size;obtain⟨aD,cD,rfl,hcD,DD⟩:=A12;obtain⟨hok,hdl⟩:=S.decO_ok hbd;replace DD:=DD.weaken (T:=fun k=>b3<k∧k<w12.heap.size) (fun k hk h=>by omega);refine RS.nm ?_;refine RS.move (v:= .tuple _) rfl ?_;refine RS.exA ?_;refine RS.exI ?_;refine RS.alloc T57 (fun b13 w13 e13 s13 x13 B13=>?_);refine RS.nm ?_;have zw13:=x13.size;refine RS.sa C57 B13 (fun w14 y14 N14=>?_);have zw14:=y14.size;replace B13:=N14;refine RS.asI rfl (nl J11 (wx fun _ J15=>sq fun _ J16=>RS.mvI rfl ?_));refine RS.on ?_;refine nl J16 ?_;replace hE:=(Ext.tr (Ext.tr hE x12) x13).trans y14.belo;replace B2:=((B2.ext x12).ext x13).sto y14;replace A3:=((A3.ext x12).ext x13).sto y14;refine C.ifn rfl (fun c17=>?_) (fun c17=>?_)
 ·have hz:=c17;have hv:=S.jd_form (b:=bs) (by omega) hz;refine wx fun _ J18=>?_
  refine regionX (Pr (fun k=>k=b2)) [(1, .q),(0, .e),(2, .e),(3, .g),(4, .q)] mixed (fun w=>Pr.refl _ _) (fun h k=>Pr.tr h k) (by kernel_rfl) (fun w19 x19=>?_);have zw19:=x19.size;replace A3:=A3.ext x19;refine RX.o (fun w' hw=>D.loadAgg rfl V59 rfl C59 (by decide) (by rw[ints_length,A3.len]) (A3.pr hw (by intros;try (first|(intro _ _)|(intro _)|skip);first|omega|(dsimp only at*;omega)|(simp_all;done)|(simp at*;omega))).cells) ?_;refine RX.eff ?_;replace B2:=B2.ext x19;refine RS.la V57 C57 B2 11 ?_;refine RS.nil ⟨(Pr.refl _ _),?_⟩;refine RX.eff ?_;refine RS.sa C57 B2 (fun w20 y20 N20=>?_);have zw20:=y20.size;replace B2:=N20;refine RS.nil ⟨((Pr.refl _ _).sto y20),?_⟩;refine RX.big ?_;replace A3:=A3.sto y20;refine RS.storeArr A3 rfl rfl C59 (by decide) (Arr.zeros .u8 32).1 (Arr.zeros .u8 32).2 (fun w21 y21 N21=>?_);have zw21:=y21.size;replace A3:=N21;refine RS.nil ?_;refine RX.assign (v:= .int .u8 2) rfl ?_;refine RX.nil (J18 _ _ ?_);refine wp_ret ?_;replace B2:=B2.sto y21;refine ret (rs:=[.cell 2 57, .cell 3 59, .tmp 4]) (vs:=[.agg _, .agg _, .int _ _]) (v:=(.tuple #[.agg _, .agg _, .int _ _])) rfl ⟨⟨_,rfl,loadVar_agg V57 rfl C57 (by decide) rfl (B2.cellsN 11 rfl)⟩,⟨_,rfl,loadVar_agg V59 rfl C59 (by decide) (by rw[ints_length,A3.len]) A3.cells⟩,rfl,trivial⟩ rfl ?_;obtain⟨e1,e2⟩:=S.jd_ne (b:=bs) (by rw[hv];decide);rw[e1,e2,hv];replace hE:=((Ext.tr hE x19).trans y20.belo).trans y21.belo;exact⟨_,rfl,hE,_,_,rfl,Nat.le_refl _,WRow.nil⟩
 have hz:=c17;have hck:=(S.dec_good hbd hz).1;refine wp_skip (J15 _ _ (wx fun _ J22=>sq fun _ J23=>?_));refine RS.la V57 C57 B13 11 ?_;replace K0:=((((K0.ext x2).ext x3).ext x12).ext x13).sto y14;replace DD:=(DD.ext x13).sto y14;refine RS.call E51 (verifyO _ hok _ _ _ _ K0 DD hcD) rfl (fun v24 w24 x24 A24=>?_);have zw24:=x24.size;subst A24;refine RS.nm ?_;refine RS.on ?_;refine nl J23 ?_;replace hE:=Ext.tr hE x24;replace B2:=B2.ext x24;replace A3:=A3.ext x24;refine C.ifn rfl (fun c25=>?_) (fun c25=>?_)
 ·have hs:=c25;have hv:=S.jd_sig (b:=bs) (by omega) hz hs;refine wx fun _ J26=>?_
  refine regionX (Pr (fun k=>k=b2)) [(1, .q),(0, .e),(2, .e),(3, .g),(4, .q)] mixed (fun w=>Pr.refl _ _) (fun h k=>Pr.tr h k) (by kernel_rfl) (fun w27 x27=>?_);have zw27:=x27.size;replace A3:=A3.ext x27;refine RX.o (fun w' hw=>D.loadAgg rfl V59 rfl C59 (by decide) (by rw[ints_length,A3.len]) (A3.pr hw (by intros;try (first|(intro _ _)|(intro _)|skip);first|omega|(dsimp only at*;omega)|(simp_all;done)|(simp at*;omega))).cells) ?_;refine RX.eff ?_;replace B2:=B2.ext x27;refine RS.la V57 C57 B2 11 ?_;refine RS.nil ⟨(Pr.refl _ _),?_⟩;refine RX.eff ?_;refine RS.sa C57 B2 (fun w28 y28 N28=>?_);have zw28:=y28.size;replace B2:=N28;refine RS.nil ⟨((Pr.refl _ _).sto y28),?_⟩;refine RX.big ?_;replace A3:=A3.sto y28;refine RS.storeArr A3 rfl rfl C59 (by decide) (Arr.zeros .u8 32).1 (Arr.zeros .u8 32).2 (fun w29 y29 N29=>?_);have zw29:=y29.size;replace A3:=N29;refine RS.nil ?_;refine RX.assign (v:= .int .u8 4) rfl ?_;refine RX.nil (J26 _ _ ?_);refine wp_ret ?_;replace B2:=B2.sto y29;refine ret (rs:=[.cell 2 57, .cell 3 59, .tmp 4]) (vs:=[.agg _, .agg _, .int _ _]) (v:=(.tuple #[.agg _, .agg _, .int _ _])) rfl ⟨⟨_,rfl,loadVar_agg V57 rfl C57 (by decide) rfl (B2.cellsN 11 rfl)⟩,⟨_,rfl,loadVar_agg V59 rfl C59 (by decide) (by rw[ints_length,A3.len]) A3.cells⟩,rfl,trivial⟩ rfl ?_;obtain⟨e1,e2⟩:=S.jd_ne (b:=bs) (by rw[hv];decide);rw[e1,e2,hv];replace hE:=((Ext.tr hE x27).trans y28.belo).trans y29.belo;exact⟨_,rfl,hE,_,_,rfl,Nat.le_refl _,WRow.nil⟩
 have hs:=c25;have hv:=S.jd_fine (b:=bs) (by omega) hz hs;obtain⟨e1,e2⟩:=S.jd_zero hv;have hsh:=S.sha_arr (S.encS (S.decO bs));refine wp_skip (J22 _ _ (sq fun _ J30=>?_));replace B13:=B13.ext x24;refine RS.la V57 C57 B13 11 ?_;replace K0:=K0.ext x24;replace DD:=DD.ext x24;refine RS.call E52 (idO _ hok _ _ _ _ K0 DD hcD) rfl (fun v31 w31 x31 A31=>?_);have zw31:=x31.size;subst A31;rw[if_pos hck];refine RS.nm ?_;refine RS.move (v:= .tuple _) rfl ?_;refine RS.exA ?_;refine RS.exI ?_;replace A3:=A3.ext x31;refine RS.storeArr A3 rfl rfl C59 (by decide) hsh.1 hsh.2 (fun w32 y32 N32=>?_);have zw32:=y32.size;replace A3:=N32;refine nl J30 (wx fun _ J33=>?_);refine regionX (Pr (fun k=>k=b2)) [(0, .q),(1, .q),(2, .e),(3, .g),(4, .q)] mixed (fun w=>Pr.refl _ _) (fun h k=>Pr.tr h k) (by kernel_rfl) (fun w34 x34=>?_);have zw34:=x34.size;replace B13:=((B13.ext x31).sto y32).ext x34;refine RX.o (fun w' hw=>D.loadAgg rfl V57 rfl C57 (by decide) rfl ((B13.pr hw (by intros;try (first|(intro _ _)|(intro _)|skip);first|omega|(dsimp only at*;omega)|(simp_all;done)|(simp at*;omega))).cellsN 11 rfl)) ?_;replace A3:=A3.ext x34;refine RX.o (fun w' hw=>D.loadAgg rfl V59 rfl C59 (by decide) (by rw[ints_length,A3.len]) (A3.pr hw (by intros;try (first|(intro _ _)|(intro _)|skip);first|omega|(dsimp only at*;omega)|(simp_all;done)|(simp at*;omega))).cells) ?_;refine RX.eff ?_;replace B2:=((B2.ext x31).sto y32).ext x34;refine RS.sa C57 B2 (fun w35 y35 N35=>?_);have zw35:=y35.size;replace B2:=N35;refine RS.nil ⟨((Pr.refl _ _).sto y35),?_⟩;refine RX.big ?_;replace A3:=A3.sto y35;refine RS.storeArr A3 rfl rfl C59 (by decide) hsh.1 hsh.2 (fun w36 y36 N36=>?_);have zw36:=y36.size;replace A3:=N36;refine RS.nil ?_;refine RX.assign (v:= .int .u8 0) rfl ?_;refine RX.nil (J33 _ _ ?_);refine wp_ret ?_;replace B2:=B2.sto y36
 refine ret (rs:=[.cell 2 57, .cell 3 59, .tmp 4]) (vs:=[.agg _, .agg _, .int _ _]) (v:=(.tuple #[.agg _, .agg _, .int _ _])) rfl ⟨⟨_,rfl,loadVar_agg V57 rfl C57 (by decide) rfl (B2.cellsN 11 rfl)⟩,⟨_,rfl,loadVar_agg V59 rfl C59 (by decide) (by rw[ints_length,A3.len]) A3.cells⟩,rfl,trivial⟩ rfl ?_;rw[e1,e2,hv];replace hE:=((Ext.tr ((Ext.tr hE x31).trans y32.belo) x34).trans y35.belo).trans y36.belo;replace DD:=((((DD.ext x31).sto y32).ext x34).sto y35).sto y36;exact⟨_,rfl,hE,_,_,rfl,hcD,DD.weaken (fun k _ h=>by omega)⟩
end W
namespace S
open G
theorem by4_ref(n:Int)(h:0≤n∧n<4294967296):[n / 16777216,n / 65536 % 256,n / 256 % 256,n % 256]=by4 n:=by
 have h1:(2:Int) ^ (24:Int).toNat=16777216:=by decide
 have h2:(2:Int) ^ (16:Int).toNat=65536:=by decide
 have h3:(2:Int) ^ (8:Int).toNat=256:=by decide
 unfold by4;rw[h1,h2,h3,Int.emod_eq_of_lt (a:=n / 16777216) (by omega) (by omega)]
theorem head_two(k x y:Int):headS k [x,y]=([k]++by4 x)++by4 y:=by simp[headS]
theorem be_grow(xs:List Int)(i:Nat)(hi:i<xs.length):256*be (xs.take i)+xs.getD i 0=be (xs.take (i+1)):=by
 rw[take_snoc xs i hi,be_snoc,Int.mul_comm]
theorem be7_lt(xs:List Int)(i:Nat)(hB:Bd .u8 xs)(hi:i≤7):be (xs.take i)<72057594037927936:=by
 have hb:=be_bd _ (hB.take i);have hp:(256:Int) ^ (xs.take i).length≤256 ^ 7:=pow256 (by simp;omega);have h256:(256:Int) ^ 7=72057594037927936:=by decide
 omega
theorem inv_ref{y e:Int}(hy:isG y=true)(he:0≤e∧e<500000003):pw (pw y e 1000000007) 500000002 1000000007=pw y (500000003 - e) 1000000007:=by
 have h1:=isG_one hy;rw[pw_pw y e 500000002 _ he.1 (by decide),pw_mod y 500000003 _ _ (by decide) (by decide) (by omega) h1,pw_mod y 500000003 (500000003 - e) _ (by decide) (by decide) (by omega) h1];congr 1;omega
theorem ver_good{y e s:Int}{m:List Int}(hy:isG y=true)(hm:m.length≤9991):verS y m e s=0↔(e<500000003∧s<500000003)∧chalS (pubS s*pw y (500000003 - e) 1000000007 % 1000000007) y m=e:=by
 unfold verS;rw[if_neg (by rw[hy];simp),if_neg (by omega)];by_cases h:e<500000003∧s<500000003
 ·rw[if_neg (fun hn=>hn h)];by_cases h2:chalS (pubS s*pw y (500000003 - e) 1000000007 % 1000000007) y m=e
  ·rw[if_pos h2];simp[h,h2]
  ·rw[if_neg h2];simp[h2]
 ·rw[if_pos h];simp[h]
theorem ver_val{y e s:Int}{m:List Int}(hy:isG y=true)(hm:m.length≤9991):verS y m e s=0∨verS y m e s=22:=by
 unfold verS;rw[if_neg (by rw[hy];simp),if_neg (by omega)]
 repeat' split
 all_goals simp
theorem fine4{k:Int}{key:ByteArray}{vk num bits:Int}{t:ByteArray}(h:FineAct k key vk num bits t)(h4:k=4):FineV vk num bits t:=by
 rcases h with⟨h1,_⟩|⟨h1,_⟩|⟨_,_,h1⟩
 ·omega
 ·omega
 ·exact h1
end S
namespace W
open Go.RowKit G
set_option maxRecDepth 20000
set_option maxHeartbeats 8000000
attribute [local irreducible] RS RX
theorem E83:Enters prog 83:= .mk func83 (by kernel_rfl) rfl
theorem E114:Enters prog 114:= .mk func114 (by kernel_rfl) rfl
theorem E149:Enters prog 149:= .mk func149 (by kernel_rfl) rfl
theorem E150:Enters prog 150:= .mk func150 (by kernel_rfl) rfl
theorem E151:Enters prog 151:= .mk func151 (by kernel_rfl) rfl
theorem E152:Enters prog 152:= .mk func152 (by kernel_rfl) rfl
theorem E153:Enters prog 153:= .mk func153 (by kernel_rfl) rfl
theorem E173:Enters prog 173:= .mk func173 (by kernel_rfl) rfl
theorem E174:Enters prog 174:= .mk func174 (by kernel_rfl) rfl
theorem E175:Enters prog 175:= .mk func175 (by kernel_rfl) rfl
theorem raisedR(a:Int)(ha:0≤a∧a<4294967296)(n:Int)(hn:0≤n∧n<18446744073709551616)(w:World):
  Calls prog 150 #[.int .u32 a, .int .u64 n] w (Ret w fun v _=>v= .int .u32 (S.pw a n 1000000007)):=by
 have hp1:=S.pw_nonneg a n 1000000007 (by decide);have hp2:=S.pw_lt a n 1000000007 (by decide);refine eE 8 func150 rfl rfl fun hE=>?_
 refine sq fun _ J1=>RS.asI rfl ?_;refine nl J1 (sq fun _ J2=>?_);refine RS.mvI rfl ?_;refine RS.cw V47 V49 ?_;refine RS.mvI rfl ?_;refine RS.call E141 (ref_power _ _ _ (by omega) (by omega) (by omega) _) rfl (fun v3 w3 x3 A3=>?_);subst A3;refine RS.nm ?_;refine RS.o (D.conv rfl V49 V47 (W.u32 (by omega))) ?_;refine RS.asI rfl (nl J2 (wp_ret ?_));refine retI rfl rfl ?_;replace hE:=Ext.tr hE x3;exact⟨_,rfl,hE,rfl⟩
theorem baseR(n:Int)(hn:0≤n∧n<18446744073709551616)(w:World):
  Calls prog 175 #[.int .u64 n] w (Ret w fun v _=>v= .int .u32 (S.pubS n)):=by
 refine eE 4 func175 rfl rfl fun hE=>?_
 refine sq fun _ J1=>RS.asI rfl ?_;refine nl J1 (sq fun _ J2=>?_);refine RS.mvI rfl ?_;refine RS.call E150 (raisedR _ (by decide) _ hn _) rfl (fun v3 w3 x3 A3=>?_);subst A3;rw[S.pub_eq];refine RS.nm ?_;refine RS.asI rfl (nl J2 (wp_ret ?_));refine retI rfl rfl ?_;replace hE:=Ext.tr hE x3;exact⟨_,rfl,hE,rfl⟩
theorem keyRf(x:Int)(hx:0≤x∧x<4294967296)(w:World):
  Calls prog 153 #[.int .u32 x] w (Ret w fun v _=>v= .int .u32 (S.pubS x)):=by
 refine eE 5 func153 rfl rfl fun hE=>?_
 refine sq fun _ J1=>RS.asI rfl ?_;refine nl J1 (sq fun _ J2=>?_);refine RS.mvI rfl ?_;refine RS.cw V47 V49 ?_;refine RS.call E175 (baseR _ (by omega) _) rfl (fun v3 w3 x3 A3=>?_);subst A3;refine RS.nm ?_;refine RS.asI rfl (nl J2 (wp_ret ?_));refine retI rfl rfl ?_;replace hE:=Ext.tr hE x3;exact⟨_,rfl,hE,rfl⟩
theorem productR(a:Int)(ha:0≤a∧a<4294967296)(b:Int)(hb:0≤b∧b<4294967296)(w:World):
  Calls prog 152 #[.int .u32 a, .int .u32 b] w (Ret w fun v _=>v= .int .u32 (a*b % 1000000007)):=by
 have hm:=S.mul32 ha hb;have hr1:=Int.emod_nonneg (a*b) (show(1000000007:Int)≠0 by decide);refine eE 10 func152 rfl rfl fun hE=>?_
 refine sq fun _ J1=>RS.asI rfl ?_;refine nl J1 (sq fun _ J2=>?_);refine RS.mvI rfl ?_;refine RS.cw V47 V49 ?_;refine RS.mvI rfl ?_;refine RS.cw V47 V49 ?_;refine RS.o (D.mul rfl rfl (W.u64 (by omega))) ?_;refine RS.o (D.rem rfl rfl (by omega) (by omega)) ?_;refine RS.o (D.conv rfl V49 V47 (W.u32 (by omega))) ?_;refine RS.asI rfl (nl J2 (wp_ret ?_));refine retI rfl rfl ?_;exact⟨_,rfl,hE,rfl⟩
theorem invR(a:Int)(ha:0≤a∧a<4294967296)(hg:S.isG a=true)(w:World):
  Calls prog 149 #[.int .u32 a] w (Ret w fun v _=>v= .tuple #[.int .u32 (S.pw a 500000002 1000000007), .int .i64 0]):=by
 refine eE 8 func149 rfl rfl fun hE=>?_
 refine sq fun _ J1=>RS.asI rfl (RS.asI rfl (nl J1 (wx fun _ J2=>sq fun _ J3=>RS.mvI rfl ?_)));refine RS.call E109 (ref_Is _ (by omega) _) rfl (fun v4 w4 x4 A4=>?_);subst A4;refine RS.nm ?_;refine RS.o (D.not rfl) ?_;refine nl J3 ?_;refine C.ifnot rfl (fun c5=>?_) (fun c5=>?_)
 ·rw[hg]at c5;cases c5
 refine wp_skip (J2 _ _ (sq fun _ J6=>RS.mvI rfl ?_));refine RS.call E150 (raisedR _ ha _ (by decide) _) rfl (fun v7 w7 x7 A7=>?_);subst A7;refine RS.nm ?_;refine RS.asI rfl (RS.asI rfl (nl J6 (wp_ret ?_)));refine retII ?_;replace hE:=Ext.tr (Ext.tr hE x4) x7;exact⟨_,rfl,hE,rfl⟩
theorem fourR(x:Int)(hx:0≤x∧x<4294967296)(w:World):
  Calls prog 173 #[.int .u32 x] w (Ret w fun v w'=>∃a' c',v= .slice a' 4 c'∧IOwn w.heap.size w' 5 .u8 a' 4 c' (S.by4 x)):=by
 refine eE 17 func173 rfl rfl fun hE=>?_
 refine sq fun _ J1=>RS.asS rfl ?_;refine nl J1 (sq fun _ J2=>?_);refine RS.mvI rfl ?_;refine RS.o (D.quo rfl rfl (by omega) (by omega) (W.u32 (by omega))) ?_;refine RS.cu V47 V5 ?_;refine RS.mvI rfl ?_;refine RS.o (D.quo rfl rfl (by omega) (by omega) (W.u32 (by omega))) ?_;refine RS.o (D.rem rfl rfl (by omega) (by omega)) ?_;refine RS.cu V47 V5 ?_;refine RS.mvI rfl ?_;refine RS.o (D.quo rfl rfl (by omega) (by omega) (W.u32 (by omega))) ?_;refine RS.o (D.rem rfl rfl (by omega) (by omega)) ?_;refine RS.cu V47 V5 ?_;refine RS.mvI rfl ?_;refine RS.o (D.rem rfl rfl (by omega) (by omega)) ?_;refine RS.cu V47 V5 ?_;refine RS.buildSlice (xs:=[.tmp 5, .tmp 9, .tmp 13, .tmp 16]) (vs:=[.int _ _, .int _ _, .int _ _, .int _ _]) (cs:=[.int _ _, .int _ _, .int _ _, .int _ _]) V63 T5 (by decide) rfl rfl rfl rfl rfl rfl (by intro v hv;simp only[List.mem_cons,List.not_mem_nil,or_false]at hv;rcases hv with rfl|rfl|rfl|rfl<;>rfl) rfl (fun b3 w3 e3 s3 x3 B3=>?_);refine RS.nm ?_;have O1:IOwn w.heap.size w3 5 .u8 (some ⟨b3,0,none⟩) 4 4 [_,_,_,_]:=IOwn.of_blk B3 rfl rfl (by omega) (.cons (by simp only[lim];omega) (.cons (by simp only[lim];omega) (.cons (by simp only[lim];omega) (.cons (by simp only[lim];omega) (.nil _))))) (by decide);refine RS.asS rfl (nl J2 (wp_ret ?_));refine retS ?_;rw[S.by4_ref x hx]at O1;replace hE:=Ext.tr hE x3;exact⟨_,rfl,hE,_,_,rfl,O1.base (fun k hk=>by have:=O1.lo k hk;omega)⟩
theorem numberR{S0:Nat→Prop}(a:Option Addr)(n c:Nat)(m:List Int)(w:World)(R0:IRow .u8 S0 w a n m)(hn:n≤200000)(hc:n≤c):
  Calls prog 174 #[.slice a n c] w (Ret w fun v _=>v= .int .u64 (S.be ((S.sha m).take 8))):=by
 replace R0:=R0.weaken (T:=fun k=>k<w.heap.size) (fun k hk _=>hk);refine eE 19 func174 rfl rfl fun hE=>?_
 refine sq fun _ J1=>RS.asI rfl ?_;refine nl J1 (sq fun _ J2=>?_);refine RS.mvS rfl ?_;refine RS.call E112 (of _ _ _ _ _ R0 hn hc) rfl (fun v3 w3 x3 A3=>?_);have zw3:=x3.size;subst A3;have hsa:=S.sha_arr m;refine RS.nm ?_;refine RS.alloc T59 (fun b4 w4 e4 s4 x4 B4=>?_);refine RS.nm ?_;have A4:IArr .u8 w4 b4 32 (List.replicate 32 0) [] 59:=IArr.zero B4;clear B4;refine RS.storeArr A4 rfl rfl C59 (by decide) hsa.1 hsa.2 (fun w5 y5 N5=>?_);have zw5:=y5.size;replace A4:=N5;refine nl J2 (sq fun _ J6=>?_);refine RS.asI rfl (nl J6 (wx fun _ J7=>sAI rfl (wp_block ?_)));refine C.loop (A:=Int×Int) (fun p=>[(4, .int .u64 p.2),(5, .int .i64 p.1)]) [8,9,10,11,12,13,14,15,16,17,18] (fun p w'=>Ext w5 w'∧((0≤p.1∧p.1≤8)∧p.2=S.be ((S.sha m).take p.1.toNat))) (fun p=>(8 - p.1.toNat)) (0,0) (by kernel_rfl) ?_ ?_
 ·exact⟨Ext.refl _,⟨by dsimp only;omega,by dsimp only;omega⟩,rfl⟩
 rintro p j w9 ⟨x9,hI⟩;obtain⟨i,r⟩:=p;dsimp only at hI;obtain⟨g1,g2⟩:=hI;have g3:=S.be8_lt (S.sha m) i.toNat hsa.2 (by omega);rw[←g2]at g3;refine C.nmU ?_;refine wx fun _ J10=>sq fun _ J11=>RS.mvI rfl ?_;refine RS.ol ?_;refine nl J11 (C.ifd rfl (fun c12=>?_) (fun c12=>?_))
 ·have g4:=S.be7_lt (S.sha m) i.toNat hsa.2 (by omega);rw[←g2]at g4;refine wp_skip (J10 _ _ (wx fun _ J13=>wp_block (region (RS.mvI rfl ?_))));refine RS.o (D.mul rfl rfl (W.u64 (by omega))) ?_;refine RS.mvI rfl ?_;replace A4:=A4.ext x9;refine RS.idxA A4 rfl rfl V59 C5 (by omega) (fun v14 h14 q14 r14=>?_);refine RS.nm ?_;simp only[lim]at r14;have q2:=q14;have hgr:=S.be_grow (S.sha m) i.toNat (by rw[hsa.1];omega);rw[←g2,←q2]at hgr;have hb8:=S.be8_lt (S.sha m) (i.toNat+1) hsa.2 (by omega);rw[←hgr]at hb8;refine RS.o (D.load rfl V5 rfl (h14)) ?_;refine RS.cw V5 V49 ?_;refine RS.o (D.add rfl rfl (W.u64 (by omega))) ?_;refine RS.asI rfl (nl J13 (region (RS.mvI rfl ?_)));refine RS.adi ?_;refine RS.asI rfl (RS.nil ?_);change Nx _ _ _ _ _ _ _ _;refine C.next (i+1,_) ⟨rfl,rfl,trivial⟩ (by kernel_rfl) ?_ ?_
  ·refine⟨x9,⟨by dsimp only;omega,by dsimp only;omega⟩,?_⟩;dsimp only;rw[show(i+1).toNat=i.toNat+1 by omega,←hgr]
  dsimp only;omega
 refine wp_exit (J7 _ _ (sq fun _ J15=>RS.mvI rfl (RS.asI rfl (nl J15 (wp_ret ?_)))));refine retI rfl rfl ?_;rw[g2,show i.toNat=8 by omega];replace hE:=Ext.tr ((Ext.tr (Ext.tr hE x3) x4).trans y5.belo) x9;exact⟨_,rfl,hE,rfl⟩
theorem chalRf(r:Int)(hr:0≤r∧r<4294967296)(y:Int)(hy:0≤y∧y<4294967296){S0:Nat→Prop}(a:Option Addr)(n c:Nat)(m:List Int)(w:World)(R0:IRow .u8 S0 w a n m)(hn:n≤100000):
  Calls prog 151 #[.int .u32 r, .int .u32 y, .slice a n c] w (Ret w fun v _=>v= .int .u32 (S.chalS r y m)):=by
 replace R0:=R0.weaken (T:=fun k=>k<w.heap.size) (fun k hk _=>hk);refine eE 18 func151 rfl rfl fun hE=>?_
 refine sq fun _ J1=>RS.asI rfl ?_;refine nl J1 (sq fun _ J2=>?_);refine RS.bs1 V63 T5 (fun b3 w3 e3 s3 x3 B3=>?_);refine RS.nm ?_;have O1:IOwn w.heap.size w3 5 .u8 (some ⟨b3,0,none⟩) 1 1 [_]:=IOwn.of_blk B3 rfl rfl (by omega) (.cons (by simp only[lim];omega) (.nil _)) (by decide);refine RS.mvI rfl ?_;refine RS.call E173 (fourR r (by omega) _) rfl (fun v4 w4 x4 A4=>?_);have zw4:=x4.size;obtain⟨aF,cF,rfl,OF⟩:=A4;refine RS.nm ?_;replace O1:=O1.ext x4;refine RS.appendI O1 OF.row rfl rfl V63 T5 rfl (by omega) (by decide) (by omega) (fun a5 c5 w5 N5 x5=>?_);refine RS.nm ?_;replace hE:=Ext.tr (Ext.tr hE x3) x4;replace hE:=hE.trans (x5.belQ (fun _ h=>(O1.lo _ h).1));replace R0:=(R0.ext x3).ext x4;replace R0:=R0.prQ x5 (fun _ h=>(O1.lo _ h).1);have zw5:=x5.size;replace O1:=N5;refine RS.mvI rfl ?_;refine RS.call E173 (fourR y (by omega) _) rfl (fun v6 w6 x6 A6=>?_);have zw6:=x6.size;obtain⟨aF,cF,rfl,OF⟩:=A6;refine RS.nm ?_;replace O1:=O1.ext x6;refine RS.appendI O1 OF.row rfl rfl V63 T5 rfl (by omega) (by decide) (by omega) (fun a7 c7 w7 N7 x7=>?_);refine RS.nm ?_;replace hE:=Ext.tr hE x6;replace hE:=hE.trans (x7.belQ (fun _ h=>(O1.lo _ h).1));replace R0:=R0.ext x6;replace R0:=R0.prQ x7 (fun _ h=>(O1.lo _ h).1);have zw7:=x7.size;replace O1:=N7;refine RS.asS rfl ?_;refine nl J2 (sq fun _ J8=>?_);refine RS.mvS rfl (RS.mvS rfl ?_);refine RS.appendI O1 R0 rfl rfl V63 T5 rfl (by omega) (by decide) (by omega) (fun a9 c9 w9 N9 x9=>?_);refine RS.nm ?_;replace hE:=hE.trans (x9.belQ (fun _ h=>(O1.lo _ h).1));replace R0:=R0.prQ x9 (fun _ h=>(O1.lo _ h).1);replace O1:=N9;refine RS.call E174 (numberR _ _ _ _ _ O1.row (by omega) O1.own.pre) rfl (fun v10 w10 x10 A10=>?_);subst A10;rw[←S.head_two,S.hash_eq];have hhb:=S.hash_bd 99 [r,y] m;refine RS.nm ?_;refine RS.o (D.rem rfl rfl (by omega) (by omega)) ?_;refine RS.o (D.conv rfl V49 V47 (W.u32 (by omega))) ?_
 refine RS.asI rfl (nl J8 (wp_ret ?_));refine retI rfl rfl ?_;replace hE:=Ext.tr hE x10;refine⟨_,rfl,hE,?_⟩;rw[S.chal_eq]
theorem rightRf(y:Int)(hy:0≤y∧y<4294967296)(e s:Int)(he:0≤e∧e<4294967296)(hs:0≤s∧s<4294967296){S0:Nat→Prop}(a:Option Addr)(n c:Nat)(m:List Int)(w:World)(R0:IRow .u8 S0 w a n m)(hn:n≤100000)(hy2:S.isG y=true)(hm9:m.length≤9991):
  Calls prog 114 #[.int .u32 y, .slice a n c, .agg ([.int .u32 e, .int .u32 s]:List Value).toArray] w (Ret w fun v _=>v= .bool (decide (S.verS y m e s=0))):=by
 replace R0:=R0.weaken (T:=fun k=>k<w.heap.size) (fun k hk _=>hk);refine eE 36 func114 rfl rfl fun hE=>?_
 refine sq fun _ J1=>?_
 refine RS.box rfl rfl (fun b2 w2 e2 s2 x2 B2=>?_);refine RS.nm ?_;refine RS.asB rfl (nl J1 (wx fun _ J3=>sq fun _ J4=>?_));refine RS.fl 0 V55 rfl C47 ?_;refine RS.ld V47 B2 ?_;refine RS.call E111 (ref_Exponent _ (by omega) _) rfl (fun v5 w5 x5 A5=>?_);subst A5;refine RS.nm ?_;refine RS.o (D.not rfl) ?_;refine RS.mvB rfl ?_;replace hE:=Ext.tr (Ext.tr hE x2) x5;refine RS.splitnot 13 rfl rfl (fun c6=>?_) (fun c6=>?_)
 ·refine RS.nm ?_;have hf:=c6;refine RS.skT 13 ?_;refine RS.skT 13 ?_;refine RS.skT 13 ?_;refine RS.skT 13 ?_;refine RS.pkt ?_;refine nl J4 ?_;refine C.ift rfl ?_;refine sAB rfl (wp_ret ?_);refine retB rfl rfl ?_;refine⟨_,rfl,hE,congrArg Value.bool (decide_eq_false ?_).symm⟩;rw[S.ver_good hy2 hm9];rintro⟨⟨z1,z2⟩,_⟩;have:=of_decide_eq_false hf;omega
 refine RS.nm ?_;have he2:=of_decide_eq_true c6;refine RS.wt 13 ?_;refine RS.fl 1 V55 rfl C47 ?_;refine RS.wt 13 ?_;replace B2:=B2.ext x5;refine RS.ld V47 B2 ?_;refine RS.wt 13 ?_;refine RS.call E111 (ref_Exponent _ (by omega) _) rfl (fun v8 w8 x8 A8=>?_);subst A8;refine RS.nm ?_;refine RS.wt 13 ?_;refine RS.o (D.not rfl) ?_;refine RS.pk ?_;refine nl J4 ?_;replace hE:=Ext.tr hE x8;refine C.ifnot rfl (fun c9=>?_) (fun c9=>?_)
 ·have hf:=c9;refine sAB rfl (wp_ret ?_);refine retB rfl rfl ?_;refine⟨_,rfl,hE,congrArg Value.bool (decide_eq_false ?_).symm⟩;rw[S.ver_good hy2 hm9];rintro⟨⟨z1,z2⟩,_⟩;have:=of_decide_eq_false hf;omega
 have hs2:=of_decide_eq_true c9;refine wp_skip (J3 _ _ (sq fun _ J11=>RS.mvI rfl ?_));refine RS.fl 0 V55 rfl C47 ?_;replace B2:=B2.ext x8;refine RS.ld V47 B2 ?_;refine RS.cw V47 V49 ?_;refine RS.call E150 (raisedR y hy _ (by omega) _) rfl (fun v12 w12 x12 A12=>?_);subst A12;have hp1:=S.pw_nonneg y e 1000000007 (by decide);have hp2:=S.pw_lt y e 1000000007 (by decide);have hgb:=S.isG_back e hy2 he.1;refine RS.nm ?_;refine RS.call E149 (invR _ (by omega) hgb _) rfl (fun v13 w13 x13 A13=>?_);subst A13;rw[S.inv_ref hy2 (by omega)];have hp3:=S.pw_nonneg y (500000003 - e) 1000000007 (by decide);have hp4:=S.pw_lt y (500000003 - e) 1000000007 (by decide);refine RS.nm ?_;refine RS.move (v:= .tuple _) rfl ?_;refine RS.exI ?_;refine RS.exI ?_;refine RS.asI rfl (RS.asI rfl (nl J11 (wx fun _ J14=>?_)));refine regionX Ext [(0, .q),(1, .q),(3, .q),(5, .q),(6, .q),(8, .q),(9, .q),(2, .e),(4, .e),(7, .e),(10, .q),(11, .q)] mixed Ext.refl (fun h k=>h.tr k) (by kernel_rfl) (fun w15 x15=>?_);refine RX.fl 1 V55 rfl C47 ?_;replace B2:=((B2.ext x12).ext x13).ext x15;refine RX.o (fun w' hw=>D.load rfl V47 rfl ((B2.ext hw).cell rfl)) ?_;refine RX.mvI rfl (RX.mvI rfl (RX.mvS rfl ?_));refine RX.fl 0 V55 rfl C47 ?_;refine RX.o (fun w' hw=>D.load rfl V47 rfl ((B2.ext hw).cell rfl)) ?_;refine RX.eff ?_;refine RS.call E153 (keyRf s hs _) rfl (fun v16 w16 x16 A16=>?_);subst A16;have hb1:=S.pub_bd s;refine RS.nm ?_;refine RS.nil ⟨x16,?_⟩;refine RX.eff ?_;refine RS.call E152 (productR _ (by omega) _ (by omega) _) rfl (fun v17 w17 x17 A17=>?_);subst A17;have hpr1:=Int.emod_nonneg (S.pubS s*S.pw y (500000003 - e) 1000000007) (show(1000000007:Int)≠0 by decide);refine RS.nm ?_;refine RS.nil ⟨x17,?_⟩;refine RX.eff ?_;replace R0:=(((((((R0.ext x2).ext x5).ext x8).ext x12).ext x13).ext x15).ext x16).ext x17;refine RS.call E151 (chalRf _ (by omega) _ hy _ _ _ _ _ R0 hn) rfl (fun v18 w18 x18 A18=>?_);subst A18;refine RS.nm ?_
 refine RS.nil ⟨x18,?_⟩;refine RX.o (fun w' hw=>D.eq rfl rfl) ?_;refine RX.assign (v:= .bool _) rfl ?_;refine RX.nil (J14 _ _ ?_);refine wp_ret ?_;refine retB rfl rfl ?_;replace hE:=Ext.tr (Ext.tr (Ext.tr (Ext.tr (Ext.tr (Ext.tr hE x12) x13) x15) x16) x17) x18;refine⟨_,rfl,hE,congrArg Value.bool ?_⟩;have hv:=S.ver_good (e:=e) (s:=s) hy2 hm9;by_cases hx:S.chalS (S.pubS s*S.pw y (500000003 - e) 1000000007 % 1000000007) y m=e
 ·rw[decide_eq_true (hv.2 ⟨⟨he2,hs2⟩,hx⟩)];simp[hx]
 rw[decide_eq_false (fun h=>hx (hv.1 h).2)];simp[hx]
theorem signedOR{S0:Nat→Prop}(o:S.OpV)(ho:o.ok)(pa:Option Addr)(pc:Nat)(w:World)(D0:WRow .u8 32 S0 w pa o.n o.ids)(hc:o.n≤pc)(hz:S.checkE o=0):
  Calls prog 83 #[.agg ([.int .u32 o.au, .slice pa o.n pc, .int .u64 o.st, .int .u8 o.k, .string o.key, .int .u8 o.vk, .int .i64 o.num, .int .u64 o.bits, .string o.t, .int .u32 o.e, .int .u32 o.s]:List Value).toArray] w (Ret w fun v _=>v= .bool (decide (S.verS o.au (S.msgS o) o.e o.s=0))):=by
 replace D0:=D0.weaken (T:=fun k=>k<w.heap.size) (fun k hk _=>hk);have o1:=ho.au;have o7:=ho.e;have o8:=ho.s;have el:=D0.len;obtain⟨z1,z2,z3⟩:=S.check_zero.1 hz;have hF4:o.k=4→S.FineV o.vk o.num o.bits o.t:=S.fine4 z3.2.2.2.2;refine eE 9 func83 rfl rfl fun hE=>?_
 refine sq fun _ J1=>?_
 refine RS.box rfl rfl (fun b2 w2 e2 s2 x2 B2=>?_);refine RS.nm ?_;refine RS.asB rfl (nl J1 (wx fun _ J3=>?_));refine regionX Ext [(0, .q),(1, .q),(2, .q),(4, .q),(5, .q),(3, .e),(6, .e),(7, .q)] mixed Ext.refl (fun h k=>h.tr k) (by kernel_rfl) (fun w4 x4=>?_);refine RX.fl 0 V57 rfl C47 ?_;replace B2:=B2.ext x4;refine RX.o (fun w' hw=>D.load rfl V47 rfl ((B2.ext hw).cell rfl)) ?_;refine RX.o (fun w' hw=>D.loadAgg rfl V57 rfl C57 (by decide) rfl ((B2.ext hw).cellsN 11 rfl)) ?_;refine RX.fl 9 V57 rfl C55 ?_;refine RX.o (fun w' hw=>D.loadAgg rfl V55 rfl C55 (by decide) rfl ((B2.ext hw).cellsN 2 rfl)) ?_;refine RX.eff ?_;replace D0:=(D0.ext x2).ext x4;refine RS.call E115 (textOR o ho _ _ _ D0 hc z1 hF4) rfl (fun v5 w5 x5 A5=>?_);obtain⟨aT,nT,cT,rfl,OT⟩:=A5;have lOT:=OT.len;have mlT:=S.msg_len o ho z1 el;refine RS.nm ?_;refine RS.nil ⟨x5,?_⟩;refine RX.eff ?_;refine RS.call E114 (rightRf _ o1 _ _ o7 o8 _ _ _ _ _ OT.row (by omega) z3.1 (by omega)) rfl (fun v6 w6 x6 A6=>?_);subst A6;refine RS.nm ?_;refine RS.nil ⟨x6,?_⟩;refine RX.assign (v:= .bool _) rfl ?_;refine RX.nil (J3 _ _ ?_);refine wp_ret ?_;refine retB rfl rfl ?_;replace hE:=Ext.tr (Ext.tr (Ext.tr (Ext.tr hE x2) x4) x5) x6;exact⟨_,rfl,hE,rfl⟩
theorem verifyOR{S0:Nat→Prop}(o:S.OpV)(ho:o.ok)(pa:Option Addr)(pc:Nat)(w:World)(D0:WRow .u8 32 S0 w pa o.n o.ids)(hc:o.n≤pc):
  Calls prog 65 #[.agg ([.int .u32 o.au, .slice pa o.n pc, .int .u64 o.st, .int .u8 o.k, .string o.key, .int .u8 o.vk, .int .i64 o.num, .int .u64 o.bits, .string o.t, .int .u32 o.e, .int .u32 o.s]:List Value).toArray] w (Ret w fun v _=>v= .int .i64 (S.verE o)):=by
 replace D0:=D0.weaken (T:=fun k=>k<w.heap.size) (fun k hk _=>hk);have el:=D0.len;refine eE 10 func65 rfl rfl fun hE=>?_
 refine sq fun _ J1=>?_
 refine RS.box rfl rfl (fun b2 w2 e2 s2 x2 B2=>?_);refine RS.nm ?_;refine RS.asI rfl (nl J1 (wx fun _ J3=>sq fun _ J4=>?_));refine RS.la V57 C57 B2 11 ?_;replace D0:=D0.ext x2;refine RS.call E81 (checkOR o ho _ _ _ D0 hc) rfl (fun v5 w5 x5 A5=>?_);subst A5;refine RS.nm ?_;refine RS.on ?_;refine nl J4 ?_;replace hE:=Ext.tr (Ext.tr hE x2) x5;replace D0:=D0.ext x5;replace B2:=B2.ext x5;refine C.ifn rfl (fun c6=>?_) (fun c6=>?_)
 ·have hk:=c6;refine sq fun _ J7=>?_
  refine RS.la V57 C57 B2 11 ?_;refine RS.call E81 (checkOR o ho _ _ _ D0 hc) rfl (fun v8 w8 x8 A8=>?_);subst A8;refine RS.nm ?_;refine RS.asI rfl (nl J7 (wp_ret ?_));refine retI rfl rfl ?_;replace hE:=Ext.tr hE x8;refine⟨_,rfl,hE,?_⟩;unfold S.verE;rw[if_neg hk]
 have hk:=c6;obtain⟨z1,z2,z3⟩:=S.check_zero.1 hk;have ml:=S.msg_len o ho z1 el;have hvv:=S.ver_val (e:=o.e) (s:=o.s) z3.1 (show(S.msgS o).length≤9991 by omega);refine wp_skip (J3 _ _ (wx fun _ J9=>sq fun _ J10=>?_));refine RS.la V57 C57 B2 11 ?_;refine RS.call E83 (signedOR o ho _ _ _ D0 hc hk) rfl (fun v11 w11 x11 A11=>?_);subst A11;refine RS.nm ?_;refine RS.o (D.not rfl) ?_;refine nl J10 ?_;replace hE:=Ext.tr hE x11;refine C.ifnot rfl (fun c12=>?_) (fun c12=>?_)
 ·have hv:=of_decide_eq_false c12;refine sAI rfl (wp_ret ?_);refine retI rfl rfl ?_;refine⟨_,rfl,hE,?_⟩;unfold S.verE;rw[if_pos hk,hvv.resolve_left hv]
 have hv:=of_decide_eq_true c12;refine wp_skip (J9 _ _ (sAI rfl (wp_ret ?_)));refine retI rfl rfl ?_;refine⟨_,rfl,hE,?_⟩;unfold S.verE;rw[if_pos hk,hv]
end W
namespace S
open G
theorem jdO_ok{b:List Int}(hB:Bd .u8 b):(jdO b).ok∧(jdO b).ids.length=32*(jdO b).n:=by
 unfold jdO;split
 ·exact decO_ok hB
 ·exact⟨OpV.zero_ok,rfl⟩
end S
namespace G
open Go.RowKit
section
variable{α:Type}{f:α→List Value}{sz lo n m c:Nat}{S T:Nat→Prop}{w w':World}{e:TypeId}{a:Option Addr}{l:List α}
theorem GRow.weaken(h:GRow f sz S w a n l)(x:∀b,b<w.heap.size→S b→T b):GRow f sz T w a n l:=⟨h.row.weaken x,h.len,h.szf⟩
theorem GRow.nil(hf:∀x,(f x).length=sz):GRow f sz S w a 0 []:=⟨Row.nil,rfl,hf⟩
structure GOwn{α:Type}(f:α→List Value)(sz lo:Nat)(w:World)(e:TypeId)(a:Option Addr)(n c:Nat)(l:List α):Prop where
 own:Own lo w e sz a n c (l.flatMap f)
 szf:∀x,(f x).length=sz
 len:l.length=n
theorem GOwn.st(h:GOwn f sz lo w e a n c l)(x:St m w w')(hn:obk a=some m→False):GOwn f sz lo w' e a n c l:=⟨h.own.st x hn,h.szf,h.len⟩
theorem GOwn.pr(h:GOwn f sz lo w e a n c l)(x:Pr T w w')(hn:∀b,obk a=some b→T b→False):GOwn f sz lo w' e a n c l:=⟨h.own.pr x hn,h.szf,h.len⟩
theorem GOwn.row(h:GOwn f sz lo w e a n c l):GRow f sz (fun b=>lo≤b) w a n l:=⟨h.own.rowS,h.len,h.szf⟩
theorem GOwn.rowO(h:GOwn f sz lo w e a n c l):GRow f sz (fun b=>obk a=some b) w a n l:=⟨h.own.row,h.len,h.szf⟩
theorem GOwn.nil(lo:Nat)(w:World)(e:TypeId)(hf:∀x,(f x).length=sz):GOwn f sz lo w e none 0 0 []:=⟨Own.nil lo w e sz,hf,rfl⟩
theorem GOwn.of_blk{b:Nat}{cs:List Value}(h:Blk w b cs e)(hf:∀x,(f x).length=sz)(hc:cs=l.flatMap f)(hn:l.length=n)(hb:lo≤b)(hm:n≤9223372036854775807):GOwn f sz lo w e (some ⟨b,0,none⟩) n n l:=by
 subst hc;exact⟨Own.of_blk h (by rw[flat_len f sz hf,hn,Nat.mul_comm]) hb (by simp only[maxLen];omega),hf,hn⟩
theorem GOwn.some(h:GOwn f sz lo w e a n c l)(hn:0<n):∃g,a=Option.some ⟨g,0,none⟩:=by
 rcases h.own.2 with⟨_,h0⟩|⟨g,cap,cur,hv,_⟩
 ·omega
 ·exact⟨g,by simp at hv;exact hv.1⟩
theorem GOwn.capn(h:GOwn f sz lo w e a n c l):n≤c:=h.own.cap.1
end
section
end
structure Inn where
 (k:IntKind)(sz:Nat)(a:Option Addr)(n c:Nat)(xs:List Int)
def Inn.ok(S:Nat→Prop)(w:World)(i:Inn):Prop:=WRow i.k i.sz S w i.a i.n i.xs∧i.n≤i.c
section
variable{S T:Nat→Prop}{w w':World}{m:Nat}{i:Inn}
theorem Inn.ok.st(h:i.ok S w)(x:St m w w')(hn:S m→False):i.ok S w':=⟨h.1.st x hn,h.2⟩
theorem Inn.ok.pr(h:i.ok S w)(x:Pr T w w')(hn:∀b,S b→T b→False):i.ok S w':=⟨h.1.pr x hn,h.2⟩
def Inns{α:Type}(g:α→List Inn)(S:Nat→Prop)(w:World)(l:List α):Prop:=∀x∈l,∀i∈g x,i.ok S w
variable{α:Type}{g:α→List Inn}{l l':List α}
theorem Inns.st(h:Inns g S w l)(x:St m w w')(hn:S m→False):Inns g S w' l:=fun y hy i hi=>(h y hy i hi).st x hn
theorem Inns.pr(h:Inns g S w l)(x:Pr T w w')(hn:∀b,S b→T b→False):Inns g S w' l:=fun y hy i hi=>(h y hy i hi).pr x hn
end
end G
namespace G
open Go.RowKit
structure Ent where
 ok:(Nat→Prop)→World→Prop
 step:∀ {S:Nat→Prop} {w w':World},ok S w→(∀b,S b→b<w.heap.size→w'.heap[b]? =w.heap[b]?)→ok S w'
 mono:∀ {S T:Nat→Prop} {w:World},ok S w→(∀b,b<w.heap.size→S b→T b)→ok T w
def Sep:List Ent→(Nat→Prop)→World→Prop
 |[],_,_=>True
 |e::L,U,w=>∃S T:Nat→Prop,(∀b,S b→U b)∧(∀b,T b→U b)∧(∀b,S b→T b→False)∧e.ok S w∧Sep L T w
theorem Sep.step:∀ {L:List Ent} {U:Nat→Prop} {w w':World},Sep L U w→(∀b,U b→b<w.heap.size→w'.heap[b]? =w.heap[b]?)→Sep L U w'
 |[],_,_,_,_,_=>trivial
 |e::L,U,w,w',⟨S,T,h1,h2,h3,h4,h5⟩,k=>⟨S,T,h1,h2,h3,e.step h4 fun b hb=>k b (h1 b hb),h5.step fun b hb=>k b (h2 b hb)⟩
theorem Sep.mono:∀ {L:List Ent} {U V:Nat→Prop} {w:World},Sep L U w→(∀b,b<w.heap.size→U b→V b)→Sep L V w
 |[],_,_,_,_,_=>trivial
 |e::L,U,V,w,⟨S,T,h1,h2,h3,h4,h5⟩,k=>
  ⟨fun b => S b ∧ b < w.heap.size, fun b => T b ∧ b < w.heap.size, fun b hb => k b hb.2 (h1 b hb.1), fun b hb => k b hb.2 (h2 b hb.1), fun b hb hc => h3 b hb.1 hc.1,
   e.mono h4 fun b hb hs => ⟨hs, hb⟩, h5.mono fun b hb ht => ⟨ht, hb⟩⟩
theorem Sep.sub:∀ {E L:List Ent} {U:Nat→Prop} {w:World},E.Sublist L→Sep L U w→Sep E U w
 |_,_,_,_, .slnil,h=>h
 |_,_,_,_, .cons _ s,⟨_,_,_,h2,_,_,h5⟩=>(h5.sub s).mono fun b _ hb=>h2 b hb
 |_,_,_,_, .cons_cons _ s,⟨S,T,h1,h2,h3,h4,h5⟩=>⟨S,T,h1,h2,h3,h4,h5.sub s⟩
theorem Sep.app:∀ {E L:List Ent} {S T U:Nat→Prop} {w:World},Sep E S w→Sep L T w→(∀b,S b→U b)→(∀b,T b→U b)→(∀b,S b→T b→False)→Sep (E++L) U w
 |[],_,_,_,_,_,_,hL,_,h2,_=>hL.mono fun b _ hb=>h2 b hb
 |e::E,L,S,T,U,w,⟨S1,T1,g1,g2,g3,g4,g5⟩,hL,h1,h2,h3=>
  ⟨S1, fun b => T1 b ∨ T b, fun b hb => h1 b (g1 b hb), fun b hb => hb.elim (fun k => h1 b (g2 b k)) (h2 b), fun b hb hc => hc.elim (g3 b hb) (h3 b (g1 b hb)), g4,
   g5.app hL (fun _ hb => .inl hb) (fun _ hb => .inr hb) fun b hb hc => h3 b (g2 b hb) hc⟩
inductive Rpl:List Ent→Ent→Ent→List Ent→Prop
 |here {e e':Ent} {L:List Ent}:Rpl (e::L) e e' (e'::L)
 |there {x e e':Ent} {L L':List Ent}:Rpl L e e' L'→Rpl (x::L) e e' (x::L')
theorem Rpl.foc{L L':List Ent}{e e':Ent}(h:Rpl L e e' L'):∀ {U:Nat→Prop} {w:World},Sep L U w→∃S T:Nat→Prop,(∀b,S b→U b)∧(∀b,T b→U b)∧(∀b,S b→T b→False)∧e.ok S w∧
  ∀ {U' S':Nat→Prop} {w':World},(∀b,S' b→U' b)→(∀b,T b→U' b)→(∀b,S' b→T b→False)→(∀b,T b→b<w.heap.size→w'.heap[b]? =w.heap[b]?)→e'.ok S' w'→Sep L' U' w':=by
 induction h with
 |here=>
  rintro U w ⟨S,T,h1,h2,h3,h4,h5⟩;exact⟨S,T,h1,h2,h3,h4,fun {U' S' w'} k1 k2 k3 k4 k5=>⟨S',T,k1,k2,k3,k5,h5.step k4⟩⟩
 | @there x e e' L L' _ ih=>
  rintro U w ⟨Sx,Tx,h1,h2,h3,h4,h5⟩;obtain⟨S,T,g1,g2,g3,g4,g5⟩:=ih h5;refine⟨S,fun b=>Sx b∨T b,fun b hb=>h2 b (g1 b hb),fun b hb=>hb.elim (h1 b) (fun k=>h2 b (g2 b k)),fun b hb hc=>hc.elim (fun k=>h3 b k (g1 b hb)) (g3 b hb),g4,fun {U' S' w'} k1 k2 k3 k4 k5=>?_⟩
  refine ⟨Sx, fun b => S' b ∨ T b, fun b hb => k2 b (.inl hb), fun b hb => hb.elim (k1 b) (fun k => k2 b (.inr k)), fun b hb hc => hc.elim (fun k => k3 b k (.inl hb)) (fun k => h3 b hb (g2 b k)),
   x.step h4 (fun b hb => k4 b (.inl hb)), g5 (fun _ hb => .inl hb) (fun _ hb => .inr hb) (fun b hb hc => k3 b hb (.inr hc)) (fun b hb => k4 b (.inr hb)) k5⟩
def no:Nat→Prop:=fun _=>False
structure Mem(S0:Nat→Prop)(w0:World)(L:List Ent)(w:World):Prop where
 pr:Pr S0 w0 w
 sep:Sep L (fun b=>S0 b∨w0.heap.size≤b) w
section
variable{S0:Nat→Prop}{w0 w w':World}{L L' E:List Ent}{e e':Ent}
theorem Mem.first(w:World):Mem S0 w [] w:=⟨Pr.refl _ _,trivial⟩
theorem Mem.ext(h:Mem no w0 L w):Ext w0 w:=h.pr.below (fun _ hs=>hs.elim) (Nat.le_refl _)
theorem Mem.le(h:Mem S0 w0 L w):w0.heap.size≤w.heap.size:=h.pr.size
theorem Mem.foc(h:Mem S0 w0 L w)(r:Rpl L e e' L'):∃S:Nat→Prop,(∀b,S b→(S0 b∨w0.heap.size≤b)∧b<w.heap.size)∧e.ok S w∧
  ∀w' S',Pr S w w'→e'.ok S' w'→(∀b,S' b→S b∨w.heap.size≤b)→Mem S0 w0 L' w':=by
 obtain⟨S,T,h1,h2,h3,h4,h5⟩:=r.foc (h.sep.mono (V:=fun b=>(S0 b∨w0.heap.size≤b)∧b<w.heap.size) fun b hb hu=>⟨hu,hb⟩);have hl:=h.le;refine⟨S,h1,h4,fun w' S' hp k1 k2=>⟨h.pr.prn hp fun b hb=>(h1 b hb).1,?_⟩⟩;refine h5 (fun b hb=>?_) (fun b hb=>(h2 b hb).1) (fun b hb hc=>?_) (fun b hb hl=>hp.block b hl fun hs=>h3 b hs hb) k1
 ·rcases k2 b hb with k|k
  ·exact(h1 b k).1
  ·exact .inr (by omega)
 ·rcases k2 b hb with k|k
  ·exact h3 b k hc
  ·have:=(h2 b hc).2;omega
theorem Mem.get(h:Mem S0 w0 L w)(r:Rpl L e e L):∃S:Nat→Prop,(∀b,S b→(S0 b∨w0.heap.size≤b)∧b<w.heap.size)∧e.ok S w:=by
 obtain⟨S,h1,h2,_⟩:=h.foc r;exact⟨S,h1,h2⟩
theorem Mem.grow(h:Mem S0 w0 L w)(x:Ext w w'):Mem S0 w0 L w':=⟨h.pr.ext x,h.sep.step fun b _ hb=>x.block b hb⟩
theorem Mem.more(h:Mem S0 w0 L w)(x:Ext w w')(hE:Sep E (fun b=>w.heap.size≤b) w'):Mem S0 w0 (E++L) w':=by
 have hl:=h.le;refine⟨h.pr.ext x,hE.app ((h.sep.mono (V:=fun b=>(S0 b∨w0.heap.size≤b)∧b<w.heap.size) fun b hb hu=>⟨hu,hb⟩).step fun b hb hc=>x.block b hc) (fun b hb=> .inr (by omega)) (fun b hb=>hb.1) fun b hb hc=>?_⟩;have:=hc.2;omega
theorem Mem.new(h:Mem S0 w0 L w)(x:Ext w w')(he:e.ok (fun b=>w.heap.size≤b) w'):Mem S0 w0 (e::L) w':=
 h.more (E:=[e]) x ⟨_,no,fun _ hb=>hb,fun _ hb=>hb.elim,fun _ _ hb=>hb.elim,he,trivial⟩
theorem Mem.sub(h:Mem S0 w0 L w)(s:E.Sublist L):Mem S0 w0 E w:=⟨h.pr,h.sep.sub s⟩
end
inductive Tr where
 |fin (pl:List (Nat×Kd))
 |br (pl:List (Nat×Kd)) (i:Nat) (p:Tr) (j:Nat) (q:Tr)
def Tr.size:Tr→Nat
 | .fin pl=>pl.length
 | .br pl _ p _ _=>p.size+1+pl.length
section
variable{P:Program}{R:World→World→Prop}
def noG:List (Nat×Kd)→Bool:=fun pl=>pl.all fun x=>match x.2 with
 | .g| .c=>false
 |_=>true
def trB(ops:Array Oper):Tr→Array Bool→Bool
 | .fin pl,li=>noG pl&&planB ops [] (endB ops) pl li
 | .br pl i p j q,li=>(noG pl&&Nat.beq q.size p.size)&&planB ops [] (fun li=>(Region.ready .any ops li==[i,j])&&(trB ops p (li.setIfInBounds i true)&&trB ops q (li.setIfInBounds j true))) pl li
def RT(P:Program)(l0:List Oper)(R:World→World→Prop)(K:List Value→World→Prop):Tr→List Value→World→Prop
 | .fin pl=>RX P l0.toArray R K (pick l0 pl)
 | .br pl i p j q=>RX P l0.toArray R (fun l w=>RX P l0.toArray R (RT P l0 R K p) [(nth l0 i, .e)] l w∧RX P l0.toArray R (RT P l0 R K q) [(nth l0 j, .e)] l w) (pick l0 pl)
theorem noG_g{pl:List (Nat×Kd)}(h:noG pl=true):(∀i,(i,Kd.g)∈pl→i∈([]:List Nat))∧∀i,(i,Kd.c)∈pl→i∈([]:List Nat):=by
 unfold noG at h;rw[List.all_eq_true]at h;exact⟨fun i hi=>(by have:=h _ hi;simp at this),fun i hi=>(by have:=h _ hi;simp at this)⟩
theorem rt_tree{l0:List Oper}{K:List Value→World→Prop}(hrr:∀w,R w w)(ht:∀ {a b c},R a b→R b c→R a c)(hs:Region.noSelect l0.toArray=true):
  ∀(t:Tr) (listed:Array Bool) (l:List Value) (w:World),Closed l0.toArray listed→trB l0.toArray t listed=true→RT P l0 R K t l w→wpX P l0.toArray R [] (fun a w=>∃l,a=fr l∧K l w) t.size listed (fr l) w
 | .fin pl,listed,l,w,hcl,hB,h=>by
  simp only[trB,Bool.and_eq_true]at hB;have:=rx_list (R:=R) (bg:=[]) (fl:=[]) (P:=P) (K:=K) (n:=0) (en:=endB l0.toArray) (Qx:=fun a w=>∃l,a=fr l∧K l w) (fun listed l w _ he hk=>⟨by simpa [endB]using he,l,rfl,hk⟩) hrr ht hs (fun j hj=>by cases hj) pl listed l w hcl (noG_g hB.1).1 (noG_g hB.1).2 hB.2 h;rwa[Nat.zero_add]at this
 | .br pl i p j q,listed,l,w,hcl,hB,h=>by
  simp only[trB,Bool.and_eq_true]at hB;obtain⟨⟨hn,hz⟩,hB⟩:=hB;have hz:=Nat.eq_of_beq_eq_true hz;refine rx_list (R:=R) (bg:=[]) (fl:=[]) (P:=P) (n:=p.size+1) ?_ hrr ht hs (fun j hj=>by cases hj) pl listed l w hcl (noG_g hn).1 (noG_g hn).2 hB h;rintro listed l w hcl he ⟨h1,h2⟩;simp only[Bool.and_eq_true,beq_iff_eq]at he;obtain⟨hr,hp,hq⟩:=he;refine⟨fun h0=>by rw[h0]at hr;simp at hr,fun k hk=>?_⟩;have key:∀(k:Nat) (t:Tr),t.size=p.size→k∈Region.ready .any l0.toArray listed→trB l0.toArray t (listed.setIfInBounds k true)=true→(∀l w,RT P l0 R K t l w→wpX P l0.toArray R [] (fun a w=>∃l,a=fr l∧K l w) t.size (listed.setIfInBounds k true) (fr l) w)→RX P l0.toArray R (RT P l0 R K t) [(nth l0 k, .e)] l w→
    xOp P l0.toArray k (fun a' w'=>(k∉([]:List Nat)→R w w')∧wpX P l0.toArray R [] (fun a w=>∃l,a=fr l∧K l w) p.size (listed.setIfInBounds k true) a' w') (fr l) w:=by
   intro k t hsz hk hB ih h;have hlt:k<l0.length:=by
    obtain⟨_,o,ho,_⟩:=mem_ready.1 hk;simpa using(Array.getElem?_eq_some_iff.1 ho).1
   have hi:l0.toArray[k]? =some (nth l0 k):=by simpa using nth_get l0 k hlt
   unfold xOp;simp only[hi];simp only[RX]at h;split
   ·rename_i hw;rw[if_pos (by exact hw)]at h;unfold Oper.wp at*;refine upon_mono ?_ (fun _ _ _ h=>h) h;rintro a w' ⟨l',rfl,hR,h⟩;exact⟨fun _=>hR,hsz▸ih l' w' h⟩
   ·rename_i hw;rw[if_neg (by exact hw)]at h;rw[put_fr];exact⟨fun _=>hrr w,hsz▸ih _ w h⟩
  rw[hr]at hk;rcases List.mem_cons.1 hk with e|hk
  ·subst e;have hm:k∈Region.ready .any l0.toArray listed:=by rw[hr];simp
   exact key k p rfl hm hp (fun l w h=>rt_tree hrr ht hs p _ l w (hcl.set hm) hp h) h1
  ·obtain rfl:=List.mem_singleton.1 hk;have hm:k∈Region.ready .any l0.toArray listed:=by rw[hr];simp
   exact key k q hz hm hq (fun l w h=>rt_tree hrr ht hs q _ l w (hcl.set hm) hq h) h2
theorem regionT{id:Nat}{l0:List Oper}{Q:Exit→Act→World→Prop}{l:List Value}{w:World}(R:World→World→Prop)(t:Tr)(hm:P.follows .mixedOrders=true)(hrr:∀w,R w w)(ht:∀ {a b c},R a b→R b c→R a c)
  (hB:(Region.noSelect l0.toArray&&(Nat.beq t.size l0.length&&trB l0.toArray t (Array.replicate l0.length false)))=true)(h:∀w',Ext w w'→RT P l0 R (fun l w=>Q .normal (fr l) w) t l w'):(Code.region id l0.toArray true).wp P Q (fr l) w:=by
 simp only[Bool.and_eq_true]at hB;obtain⟨hs,hl,hB⟩:=hB;have hl:=Nat.eq_of_beq_eq_true hl;refine wp_region_any hm ?_;have:=rt_tree (P:=P) (K:=fun l w=>Q .normal (fr l) w) hrr ht hs t (Array.replicate l0.length false) l {w with drawn:=w.drawn+1} (by intro k ok _ h;exfalso;simp[Array.getElem?_replicate]at h;split at h<;>simp at h) hB (h _ ((Below.refl _ _).drew));rw[hl]at this;have h2:=wpAny_of_X (Q':=Q) (R:=R) (fun a w h=>by obtain⟨l,rfl,h⟩:=h;exact h) l0.length (Array.replicate l0.length false) (fr l) _ this;simpa using h2
end
def J(S0:Nat→Prop)(w0:World)(L:List Ent)(X:World→Prop):Prop:=∀w,Mem S0 w0 L w→X w
def KN(Q:Exit→Act→World→Prop)(l:List Value)(w:World):Prop:=Q .normal (fr l) w
inductive Md where
 |s|x|r (Lq:List Ent)
@[reducible] def Lv(m:Md)(L:List Ent):List Ent:=match m with
 | .r Lq=>Lq
 | .s=>L
 | .x=>L
def MR(S0:Nat→Prop)(w0:World)(Lq:List Ent)(w w':World):Prop:=Mem S0 w0 Lq w→Mem S0 w0 Lq w'
def RY(S0:Nat→Prop)(w0:World)(m:Md)(P:Program)(ops:Array Oper)(K:List Value→World→Prop)(pl:List (Oper×Kd))(l:List Value)(w:World):Prop:=
 match m with
 | .x=>RX P ops Ext K pl l w
 | .s=>RS P ops K (pl.map Prod.fst) l w
 | .r Lq=>Mem S0 w0 Lq w→RX P ops (MR S0 w0 Lq) K pl l w
class Und(P:Program)(t:TypeId)(ed:outParam TypeDesc):Prop where h:P.underlying t=some ed
class Siz(P:Program)(t:TypeId)(n:outParam Nat):Prop where h:P.cellsOf t=n
class Inf(P:Program)(t:TypeId)(sz by_:outParam Nat)(z:outParam (List Value)):Prop where h:TI P t sz by_ z
class SInf(P:Program)(t:TypeId)(l:outParam (List (Nat×Nat))):Prop where h:SI P t l
class Fld(P:Program)(t:TypeId)(i:Nat)(off:outParam Nat):Prop where h:∃fs f sz,P.underlying t=some (.struct fs)∧fs[i]? =some f∧P.cellsOf f.type=sz∧sz≠0∧f.offset=off
class Sca(P:Program)(t:TypeId):Prop where h:∃ed,P.underlying t=some ed∧isAggD ed=false
class Agg(P:Program)(t:TypeId)(sz:outParam Nat):Prop where h:∃ed,P.underlying t=some ed∧isAggD ed=true∧P.cellsOf t=sz
class Ents(P:Program)(f:FuncId):Prop where h:Enters P f
section
variable{S0:Nat→Prop}{w0:World}{L L':List Ent}{P:Program}{Q:Exit→Act→World→Prop}{l:List Value}{x y c:Code}{o:Operand}{X Y:World→Prop}{id id':Nat}{N:Act→World→Prop}{e e':Ent}
theorem J.map(f:∀w,X w→Y w)(h:J S0 w0 L X):J S0 w0 L Y:=fun w M=>f w (h w M)
theorem J.drop{E:List Ent}(s:E.Sublist L)(h:J S0 w0 E X):J S0 w0 L X:=fun w M=>h w (M.sub s)
/-! ### control -/
theorem J.sq(h:J S0 w0 L (x.wp P (Exit.then (y.wp P Q) Q) (fr l))):J S0 w0 L ((Code.seq x y).wp P Q (fr l)):=fun w M=>wp_seq (h w M)
theorem J.skip(h:J S0 w0 L (Q .normal (fr l))):J S0 w0 L (Code.skip.wp P Q (fr l)):=fun w M=>wp_skip (h w M)
theorem J.exit(h:J S0 w0 L (Q (.exit id) (fr l))):J S0 w0 L ((Code.exit id).wp P Q (fr l)):=fun w M=>wp_exit (h w M)
theorem J.block(h:J S0 w0 L (c.wp P (Exit.inBlock id Q) (fr l))):J S0 w0 L ((Code.block id c).wp P Q (fr l)):=fun w M=>wp_block (h w M)
theorem J.retc(h:J S0 w0 L (Q .ret (fr l))):J S0 w0 L (Code.ret.wp P Q (fr l)):=fun w M=>wp_ret (h w M)
theorem J.thn(h:J S0 w0 L (N (fr l))):J S0 w0 L (Exit.then N Q .normal (fr l)):=h
theorem J.the(h:J S0 w0 L (Q (.exit id) (fr l))):J S0 w0 L (Exit.then N Q (.exit id) (fr l)):=h
theorem J.thr(h:J S0 w0 L (Q .ret (fr l))):J S0 w0 L (Exit.then N Q .ret (fr l)):=h
theorem J.ibn(h:J S0 w0 L (Q .normal (fr l))):J S0 w0 L (Exit.inBlock id Q .normal (fr l)):=h
theorem J.ibr(h:J S0 w0 L (Q .ret (fr l))):J S0 w0 L (Exit.inBlock id Q .ret (fr l)):=h
theorem J.ibe(h:J S0 w0 L (Q .normal (fr l))):J S0 w0 L (Exit.inBlock id Q (.exit id) (fr l)):=fun w M=>by simp only[Exit.inBlock,if_true];exact h w M
theorem J.ibx(hn:Nat.beq id' id=false)(h:J S0 w0 L (Q (.exit id') (fr l))):J S0 w0 L (Exit.inBlock id Q (.exit id') (fr l)):=fun w M=>by
 simp only[Exit.inBlock];rw[if_neg (fun e=>by subst e;rw[Nat.beq_refl]at hn;cases hn)];exact h w M
theorem J.ift(hc:ev l o= .bool true)(h:J S0 w0 L (x.wp P Q (fr l))):J S0 w0 L ((Code.cond o x y).wp P Q (fr l)):=fun w M=>C.ift hc (h w M)
theorem J.iff(hc:ev l o= .bool false)(h:J S0 w0 L (y.wp P Q (fr l))):J S0 w0 L ((Code.cond o x y).wp P Q (fr l)):=fun w M=>C.iff hc (h w M)
theorem J.ifd{p:Prop}[Decidable p](hc:ev l o= .bool (decide p))(ht:p→J S0 w0 L (x.wp P Q (fr l)))(hf:¬p→J S0 w0 L (y.wp P Q (fr l))):J S0 w0 L ((Code.cond o x y).wp P Q (fr l)):=
 fun w M=>C.ifd hc (fun h=>ht h w M) (fun h=>hf h w M)
theorem J.ife{a b:Int}(hc:ev l o= .bool (a==b))(ht:a=b→J S0 w0 L (x.wp P Q (fr l)))(hf:a≠b→J S0 w0 L (y.wp P Q (fr l))):J S0 w0 L ((Code.cond o x y).wp P Q (fr l)):=
 fun w M=>C.ife hc (fun h=>ht h w M) (fun h=>hf h w M)
theorem J.ifn{a b:Int}(hc:ev l o= .bool (a != b))(ht:a≠b→J S0 w0 L (x.wp P Q (fr l)))(hf:a=b→J S0 w0 L (y.wp P Q (fr l))):J S0 w0 L ((Code.cond o x y).wp P Q (fr l)):=
 fun w M=>C.ifn hc (fun h=>ht h w M) (fun h=>hf h w M)
theorem J.ifnot{b:Bool}(hc:ev l o= .bool (!b))(ht:b=false→J S0 w0 L (x.wp P Q (fr l)))(hf:b=true→J S0 w0 L (y.wp P Q (fr l))):J S0 w0 L ((Code.cond o x y).wp P Q (fr l)):=
 fun w M=>C.ifnot hc (fun h=>ht h w M) (fun h=>hf h w M)
theorem J.region{l0:List Oper}{pl:List (Oper×Kd)}(h:J S0 w0 L (RY S0 w0 .s P l0.toArray (KN Q) pl l))(hp:l0.map (fun o=>(o,Kd.q))=pl:=by dsimp only[List.map]):J S0 w0 L ((Code.region id l0.toArray false).wp P Q (fr l)):=fun w M=>by
 refine G.region ?_;have:=h w M;subst hp;unfold RY at this;rw[List.map_map]at this;have e:(Prod.fst ∘ fun o:Oper=>(o,Kd.q))=_root_.id:=rfl;rwa[e,List.map_id]at this
theorem J.regionX{l0:List Oper}{pl:List (Oper×Kd)}(plan:List (Nat×Kd))(hm:P.follows .mixedOrders=true)
  (hB:(Region.noSelect l0.toArray&&(Nat.beq plan.length l0.length&&planB l0.toArray (frees plan) (endB l0.toArray) plan (Array.replicate l0.length false)))=true)
  (h:J S0 w0 L (RY S0 w0 .x P l0.toArray (KN Q) pl l))(hp:pick l0 plan=pl:=by dsimp only[pick,nth]):J S0 w0 L ((Code.region id l0.toArray true).wp P Q (fr l)):=
 fun w M=>G.regionX Ext plan hm Ext.refl (fun h k=>h.tr k) hB (fun w' hw=>h w' (M.grow hw)) hp
end
section
variable{S0:Nat→Prop}{w0:World}{L:List Ent}{P:Program}{Q:Exit→Act→World→Prop}{l:List Value}{id:Nat}
theorem J.regionR{l0:List Oper}{pl:List (Oper×Kd)}(Lq:List Ent)(plan:List (Nat×Kd))(hm:P.follows .mixedOrders=true)
  (hB:(Region.noSelect l0.toArray&&(Nat.beq plan.length l0.length&&planB l0.toArray (frees plan) (endB l0.toArray) plan (Array.replicate l0.length false)))=true)(hs:Lq.Sublist L)
  (h:J S0 w0 L (RY S0 w0 (.r Lq) P l0.toArray (KN Q) pl l))(hp:pick l0 plan=pl:=by dsimp only[pick,nth]):J S0 w0 L ((Code.region id l0.toArray true).wp P Q (fr l)):=
 fun w M=>G.regionX (MR S0 w0 Lq) plan hm (fun _ h=>h) (fun h k x=>k (h x)) hB (fun w' hw=>h w' (M.grow hw) ((M.grow hw).sub hs)) hp
theorem J.regionT{l0:List Oper}(Lq:List Ent)(t:Tr)(hm:P.follows .mixedOrders=true)
  (hB:(Region.noSelect l0.toArray&&(Nat.beq t.size l0.length&&trB l0.toArray t (Array.replicate l0.length false)))=true)(hs:Lq.Sublist L)
  (h:J S0 w0 L (fun w=>Mem S0 w0 Lq w→RT P l0 (MR S0 w0 Lq) (KN Q) t l w)):J S0 w0 L ((Code.region id l0.toArray true).wp P Q (fr l)):=
 fun w M=>G.regionT (MR S0 w0 Lq) t hm (fun _ h=>h) (fun h k x=>k (h x)) hB (fun w' hw=>h w' (M.grow hw) ((M.grow hw).sub hs))
theorem J.tfin{l0:List Oper}{Lq:List Ent}{plan:List (Nat×Kd)}{pl:List (Oper×Kd)}{K:List Value→World→Prop}(h:J S0 w0 L (RY S0 w0 (.r Lq) P l0.toArray K pl l))(hp:pick l0 plan=pl:=by dsimp only[pick,nth]):J S0 w0 L (fun w=>Mem S0 w0 Lq w→RT P l0 (MR S0 w0 Lq) K (.fin plan) l w):=by subst hp;exact h
def KT(S0:Nat→Prop)(w0:World)(Lq:List Ent)(P:Program)(l0:List Oper)(K:List Value→World→Prop)(i:Nat)(p:Tr)(j:Nat)(q:Tr)(l:List Value)(w:World):Prop:=
 RX P l0.toArray (MR S0 w0 Lq) (RT P l0 (MR S0 w0 Lq) K p) [(nth l0 i, .e)] l w∧RX P l0.toArray (MR S0 w0 Lq) (RT P l0 (MR S0 w0 Lq) K q) [(nth l0 j, .e)] l w
theorem J.kt{l0:List Oper}{Lq:List Ent}{i j:Nat}{p q:Tr}{K:List Value→World→Prop}{oi oj:Oper}
  (h1:J S0 w0 L (RY S0 w0 (.r Lq) P l0.toArray (RT P l0 (MR S0 w0 Lq) K p) [(oi, .e)] l))(h2:J S0 w0 L (RY S0 w0 (.r Lq) P l0.toArray (RT P l0 (MR S0 w0 Lq) K q) [(oj, .e)] l))(hs:Lq.Sublist L:=by repeat(first|exact List.Sublist.refl _|refine List.Sublist.cons_cons _ ?_|refine List.Sublist.cons _ ?_))(hi:nth l0 i=oi:=by dsimp only[nth])(hj:nth l0 j=oj:=by dsimp only[nth]):J S0 w0 L (KT S0 w0 Lq P l0 K i p j q l):=fun w M=>by
 subst hi hj;exact⟨h1 w M (M.sub hs),h2 w M (M.sub hs)⟩
theorem J.kr{l0:List Oper}{Lq:List Ent}{p:Tr}{K:List Value→World→Prop}(h:J S0 w0 L (fun w=>Mem S0 w0 Lq w→RT P l0 (MR S0 w0 Lq) K p l w))(hs:Lq.Sublist L:=by repeat(first|exact List.Sublist.refl _|refine List.Sublist.cons_cons _ ?_|refine List.Sublist.cons _ ?_)):J S0 w0 L (RT P l0 (MR S0 w0 Lq) K p l):=fun w M=>h w M (M.sub hs)
end
/-! ### one operation -/
section
variable{S0:Nat→Prop}{w0:World}{L L':List Ent}{P:Program}{l0:List Oper}{ops:Array Oper}{K:List Value→World→Prop}{rest:List (Oper×Kd)}{l l':List Value}{m:Md}{d:Tmp}{dd:Option Tmp}{op:Op}{ty:TypeId}{pos:String}{af:Array Edge}{kd:Kd}{v:Value}{j:Nat}{t b:Bool}
theorem J.nil(h:J S0 w0 L (K l)):J S0 w0 L (RY S0 w0 m P ops K [] l):=fun w M=>by
 cases m
 ·exact RS.nil (P:=P) (ops:=ops) (h w M)
 ·exact RX.nil (P:=P) (ops:=ops) (R:=Ext) (h w M)
 ·exact fun _=>RX.nil (P:=P) (ops:=ops) (h w M)
theorem J.nilN{Q:Exit→Act→World→Prop}(h:J S0 w0 L (Q .normal (fr l))):J S0 w0 L (RY S0 w0 m P ops (KN Q) [] l):=J.nil h
theorem J.norm(h:l=l')(k:J S0 w0 L (RY S0 w0 m P ops K rest l')):J S0 w0 L (RY S0 w0 m P ops K rest l):=h▸k
theorem J.val(hr:∀w,Mem S0 w0 (Lv m L) w→(execOp (ev l) ⟨some d,op,ty,pos,af,none⟩).run P w= .ok (.value v) w)(k:J S0 w0 L (RY S0 w0 m P ops K rest l'))(hl:l.set d v=l':=by dsimp only[List.set]):
  J S0 w0 L (RY S0 w0 m P ops K ((⟨some d,op,ty,pos,af,none⟩, .q)::rest) l):=fun w M=>by
 cases m
 ·exact RS.o (hr w M) (k w M) hl
 ·exact RX.o (fun w' hw=>hr w' (M.grow hw)) (k w M) hl
 ·exact fun Mq=>RX.o (fun w' hw=>hr w' (hw Mq)) (k w M Mq) hl
def pureK:Kd→Bool
 | .q| .c=>true
 |_=>false
theorem J.pur(hk:pureK kd=true)(hr:∀w,(execOp (ev l) ⟨some d,op,ty,pos,af,none⟩).run P w= .ok (.value v) w)(k:J S0 w0 L (RY S0 w0 m P ops K rest l'))(hl:l.set d v=l':=by dsimp only[List.set]):
  J S0 w0 L (RY S0 w0 m P ops K ((⟨some d,op,ty,pos,af,none⟩,kd)::rest) l):=fun w M=>by
 cases m
 ·exact RS.o (hr w) (k w M) hl
 ·cases kd<;>first|cases hk|skip
  ·exact RX.o (fun w' hw=>hr w') (k w M) hl
  ·exact RX.co hr (k w M) hl
 ·cases kd<;>first|cases hk|skip
  ·exact fun Mq=>RX.o (fun w' hw=>hr w') (k w M Mq) hl
  ·exact fun Mq=>RX.co hr (k w M Mq) hl
def okE(m:Md)(kd:Kd):Bool:=match m,kd with
 | .s,_=>true
 |_, .e=>true
 |_, .g=>true
 |_,_=>false
def okG(m:Md)(kd:Kd)(L':List Ent):Prop:=match m,kd with
 | .s,_=>True
 | .x, .g=>True
 | .r Lq, .e=>Lq.Sublist L'
 | .r Lq, .g=>Lq.Sublist L'
 |_,_=>False
theorem rs_one{o:Oper}{pl:List (Oper×Kd)}{l:List Value}{w:World}(h:RS P ops (fun l' w'=>RS P ops K (pl.map Prod.fst) l' w') [o] l w):RS P ops K (o::pl.map Prod.fst) l w:=by
 unfold RS at h⊢;exact h
theorem J.eff(hk:okE m kd=true)(h:∀w,Mem S0 w0 L w→∀K':List Value→World→Prop,(∀l' w',Ext w w'→RY S0 w0 m P ops K rest l' w'→K' l' w')→RS P ops K' [⟨dd,op,ty,pos,af,none⟩] l w):
  J S0 w0 L (RY S0 w0 m P ops K ((⟨dd,op,ty,pos,af,none⟩,kd)::rest) l):=fun w M=>by
 cases m
 ·exact rs_one (h w M (fun l' w'=>RS P ops K (rest.map Prod.fst) l' w') (fun l' w' _ h=>h))
 ·cases kd<;>first|cases hk|skip
  ·exact RX.eff (h w M _ fun l' w' x h=>⟨x,h⟩)
  ·exact RX.big (h w M _ fun l' w' _ h=>h)
 ·cases kd<;>first|cases hk|skip
  ·exact fun Mq=>RX.eff (h w M _ fun l' w' x h=>⟨fun _=>Mq.grow x,h (Mq.grow x)⟩)
  ·exact fun Mq=>RX.big (h w M _ fun l' w' x h=>h (Mq.grow x))
theorem J.big{L':List Ent}(hk:okG m kd L')(h:∀w,Mem S0 w0 L w→∀K':List Value→World→Prop,(∀l' w',Mem S0 w0 L' w'→RY S0 w0 m P ops K rest l' w'→K' l' w')→RS P ops K' [⟨dd,op,ty,pos,af,none⟩] l w):
  J S0 w0 L (RY S0 w0 m P ops K ((⟨dd,op,ty,pos,af,none⟩,kd)::rest) l):=fun w M=>by
 cases m
 ·exact rs_one (h w M (fun l' w'=>RS P ops K (rest.map Prod.fst) l' w') (fun l' w' _ h=>h))
 ·cases kd
  ·exact False.elim hk
  ·exact False.elim hk
  ·exact RX.big (h w M _ fun l' w' _ h=>h)
  ·exact False.elim hk
 ·cases kd
  ·exact False.elim hk
  ·exact fun Mq=>RX.eff (h w M _ fun l' w' M' h=>⟨fun _=>M'.sub hk,h (M'.sub hk)⟩)
  ·exact fun Mq=>RX.big (h w M _ fun l' w' M' h=>h (M'.sub hk))
  ·exact False.elim hk
theorem J.bigs{ι:Type}(i0:ι){Ls:ι→List Ent}(hk:∀i,okG m kd (Ls i))(h:∀w,Mem S0 w0 L w→∀K':List Value→World→Prop,(∀l' w' i,Mem S0 w0 (Ls i) w'→RY S0 w0 m P ops K rest l' w'→K' l' w')→RS P ops K' [⟨dd,op,ty,pos,af,none⟩] l w):
  J S0 w0 L (RY S0 w0 m P ops K ((⟨dd,op,ty,pos,af,none⟩,kd)::rest) l):=fun w M=>by
 cases m
 ·exact rs_one (h w M (fun l' w'=>RS P ops K (rest.map Prod.fst) l' w') (fun l' w' _ _ h=>h))
 ·cases kd
  ·exact False.elim (hk i0)
  ·exact False.elim (hk i0)
  ·exact RX.big (h w M _ fun l' w' _ _ h=>h)
  ·exact False.elim (hk i0)
 ·cases kd
  ·exact False.elim (hk i0)
  ·exact fun Mq=>RX.eff (h w M _ fun l' w' i M' h=>⟨fun _=>M'.sub (hk i),h (M'.sub (hk i))⟩)
  ·exact fun Mq=>RX.big (h w M _ fun l' w' i M' h=>h (M'.sub (hk i)))
  ·exact False.elim (hk i0)
/-! guards -/
theorem J.want{s:Nat}(hj:(l0[j]?).bind (·.dst)=some s)(hl:l.getD s undef= .bool t)(hs:Nat.ble (s+1) l.length=true)(k:J S0 w0 L (RY S0 w0 m P l0.toArray K ((⟨dd,op,ty,pos,af,none⟩,kd)::rest) l)):
  J S0 w0 L (RY S0 w0 m P l0.toArray K ((⟨dd,op,ty,pos,af,some (j,t)⟩,kd)::rest) l):=fun w M=>by
 cases m
 ·exact RS.wantB s hj hl hs (k w M)
 ·exact RX.wantB s hj hl hs (k w M)
 ·exact fun Mq=>RX.wantB s hj hl hs (k w M Mq)
theorem J.skipg{s:Nat}(hj:(l0[j]?).bind (·.dst)=some s)(hl:l.getD s undef= .bool b)(hs:Nat.ble (s+1) l.length=true)(hb:(b==t)=false)(k:J S0 w0 L (RY S0 w0 m P l0.toArray K rest l'))(hp:putL dd undef l=l':=by dsimp only[putL,List.set]):
  J S0 w0 L (RY S0 w0 m P l0.toArray K ((⟨dd,op,ty,pos,af,some (j,t)⟩,kd)::rest) l):=fun w M=>by
 subst hp;cases m
 ·exact RS.skipB s hj hl hs hb (k w M)
 ·exact RX.skipB s hj hl hs hb (k w M)
 ·exact fun Mq=>RX.skipB s hj hl hs hb (k w M Mq)
theorem J.skipu{s:Nat}(hj:(l0[j]?).bind (·.dst)=some s)(hl:l.getD s undef=undef)(hs:Nat.ble (s+1) l.length=true)(k:J S0 w0 L (RY S0 w0 m P l0.toArray K rest l'))(hp:putL dd undef l=l':=by dsimp only[putL,List.set]):
  J S0 w0 L (RY S0 w0 m P l0.toArray K ((⟨dd,op,ty,pos,af,some (j,t)⟩,kd)::rest) l):=fun w M=>by
 subst hp;cases m
 ·exact RS.skipU s hj hl hs (k w M)
 ·exact RX.skipU s hj hl hs (k w M)
 ·exact fun Mq=>RX.skipU s hj hl hs (k w M Mq)
theorem J.split{s:Nat}{b:Bool}(hs:Nat.ble (s+1) l.length=true)(h:l.getD s undef= .bool b)(ht:b=true→J S0 w0 L (RY S0 w0 m P ops K rest (l.set s (.bool true))))(hf:b=false→J S0 w0 L (RY S0 w0 m P ops K rest (l.set s (.bool false)))):
  J S0 w0 L (RY S0 w0 m P ops K rest l):=by
 cases hb:b
 ·have:=hf hb;rwa[set_self (by rw[h,hb]) (Nat.le_of_ble_eq_true hs)]at this
 ·have:=ht hb;rwa[set_self (by rw[h,hb]) (Nat.le_of_ble_eq_true hs)]at this
theorem J.sp{s:Nat}{b:Bool}{lt lf:List Value}(hj:(l0[j]?).bind (·.dst)=some s)(h:l.getD s undef= .bool b)(hs:Nat.ble (s+1) l.length=true)
  (kt:b=true→J S0 w0 L (RY S0 w0 m P l0.toArray K ((⟨dd,op,ty,pos,af,some (j,t)⟩,kd)::rest) lt))(kf:b=false→J S0 w0 L (RY S0 w0 m P l0.toArray K ((⟨dd,op,ty,pos,af,some (j,t)⟩,kd)::rest) lf))
  (ht:l.set s (.bool true)=lt:=by dsimp only[List.set])(hf:l.set s (.bool false)=lf:=by dsimp only[List.set]):
  J S0 w0 L (RY S0 w0 m P l0.toArray K ((⟨dd,op,ty,pos,af,some (j,t)⟩,kd)::rest) l):=by
 subst ht hf;exact J.split hs h kt kf
theorem J.spd{s:Nat}{p:Prop}[Decidable p]{lt lf:List Value}(hj:(l0[j]?).bind (·.dst)=some s)(h:l.getD s undef= .bool (decide p))(hs:Nat.ble (s+1) l.length=true)(kt:p→J S0 w0 L (RY S0 w0 m P l0.toArray K ((⟨dd,op,ty,pos,af,some (j,t)⟩,kd)::rest) lt))(kf:¬p→J S0 w0 L (RY S0 w0 m P l0.toArray K ((⟨dd,op,ty,pos,af,some (j,t)⟩,kd)::rest) lf))
  (ht:l.set s (.bool true)=lt:=by dsimp only[List.set])(hf:l.set s (.bool false)=lf:=by dsimp only[List.set]):J S0 w0 L (RY S0 w0 m P l0.toArray K ((⟨dd,op,ty,pos,af,some (j,t)⟩,kd)::rest) l):=J.sp hj h hs (fun h=>kt (of_decide_eq_true h)) (fun h=>kf (of_decide_eq_false h)) ht hf
theorem J.spe{s:Nat}{p q:Int}{lt lf:List Value}(hj:(l0[j]?).bind (·.dst)=some s)(h:l.getD s undef= .bool (p==q))(hs:Nat.ble (s+1) l.length=true)(kt:p=q→J S0 w0 L (RY S0 w0 m P l0.toArray K ((⟨dd,op,ty,pos,af,some (j,t)⟩,kd)::rest) lt))(kf:p≠q→J S0 w0 L (RY S0 w0 m P l0.toArray K ((⟨dd,op,ty,pos,af,some (j,t)⟩,kd)::rest) lf))
  (ht:l.set s (.bool true)=lt:=by dsimp only[List.set])(hf:l.set s (.bool false)=lf:=by dsimp only[List.set]):J S0 w0 L (RY S0 w0 m P l0.toArray K ((⟨dd,op,ty,pos,af,some (j,t)⟩,kd)::rest) l):=J.sp hj h hs (fun h=>kt (by simpa using h)) (fun h=>kf (by simpa using h)) ht hf
theorem J.spn{s:Nat}{p q:Int}{lt lf:List Value}(hj:(l0[j]?).bind (·.dst)=some s)(h:l.getD s undef= .bool (p != q))(hs:Nat.ble (s+1) l.length=true)(kt:p≠q→J S0 w0 L (RY S0 w0 m P l0.toArray K ((⟨dd,op,ty,pos,af,some (j,t)⟩,kd)::rest) lt))(kf:p=q→J S0 w0 L (RY S0 w0 m P l0.toArray K ((⟨dd,op,ty,pos,af,some (j,t)⟩,kd)::rest) lf))
  (ht:l.set s (.bool true)=lt:=by dsimp only[List.set])(hf:l.set s (.bool false)=lf:=by dsimp only[List.set]):J S0 w0 L (RY S0 w0 m P l0.toArray K ((⟨dd,op,ty,pos,af,some (j,t)⟩,kd)::rest) l):=J.sp hj h hs (fun h=>kt (by simpa using h)) (fun h=>kf (by simpa using h)) ht hf
theorem J.spt{s:Nat}{b:Bool}{lt lf:List Value}(hj:(l0[j]?).bind (·.dst)=some s)(h:l.getD s undef= .bool (!b))(hs:Nat.ble (s+1) l.length=true)(kt:b=false→J S0 w0 L (RY S0 w0 m P l0.toArray K ((⟨dd,op,ty,pos,af,some (j,t)⟩,kd)::rest) lt))(kf:b=true→J S0 w0 L (RY S0 w0 m P l0.toArray K ((⟨dd,op,ty,pos,af,some (j,t)⟩,kd)::rest) lf))
  (ht:l.set s (.bool true)=lt:=by dsimp only[List.set])(hf:l.set s (.bool false)=lf:=by dsimp only[List.set]):J S0 w0 L (RY S0 w0 m P l0.toArray K ((⟨dd,op,ty,pos,af,some (j,t)⟩,kd)::rest) l):=J.sp hj h hs (fun h=>kt (by simpa using h)) (fun h=>kf (by simpa using h)) ht hf
variable{x y z:Operand}{xt yt:TypeId}{k:IntKind}{p q r:Int}{b':Bool}
/-! values -/
theorem J.mv(hk:pureK kd=true)(k:J S0 w0 L (RY S0 w0 m P ops K rest l'))(hv:ev l x=v:=by((conv=>lhs;whnf)<;>rfl))(hl:l.set d v=l':=by dsimp only[List.set]):
  J S0 w0 L (RY S0 w0 m P ops K ((⟨some d, .move x,ty,pos,af,none⟩,kd)::rest) l):=J.pur hk (fun w=>by simp only[execOp];rw[hv];rfl) k hl
theorem J.as(hk:pureK kd=true)(k:J S0 w0 L (RY S0 w0 m P ops K rest l'))(hv:ev l x=v:=by((conv=>lhs;whnf)<;>rfl))(hl:l.set d v=l':=by dsimp only[List.set]):
  J S0 w0 L (RY S0 w0 m P ops K ((⟨some d, .assign x,ty,pos,af,none⟩,kd)::rest) l):=J.pur hk (fun w=>by simp only[execOp];rw[hv];rfl) k hl
theorem J.pk(hk:pureK kd=true)(hc:ev l x= .bool b)(k:J S0 w0 L (RY S0 w0 m P ops K rest l'))(hv:(if b then ev l y else ev l z)=v:=by((conv=>lhs;whnf)<;>rfl))(hl:l.set d v=l':=by dsimp only[List.set]):
  J S0 w0 L (RY S0 w0 m P ops K ((⟨some d, .pick x y z,ty,pos,af,none⟩,kd)::rest) l):=J.pur (v:=if b then ev l y else ev l z) hk (fun w=>by simp only[execOp];rw[hc];cases b<;>rfl) k (by rw[hv];exact hl)
theorem J.ex{i:Nat}{vs:Array Value}(hk:pureK kd=true)(hx:ev l x= .tuple vs)(k:J S0 w0 L (RY S0 w0 m P ops K rest l'))(hv:vs[i]? =some v:=by((conv=>lhs;whnf)<;>rfl))(hl:l.set d v=l':=by dsimp only[List.set]):
  J S0 w0 L (RY S0 w0 m P ops K ((⟨some d, .extract x i,ty,pos,af,none⟩,kd)::rest) l):=J.pur hk (fun w=>by simp only[execOp];rw[hx];simp only[Instr.extract,hv];rfl) k hl
theorem J.nc{a:Addr}(hk:pureK kd=true)(hx:ev l x= .pointer (some a))(k:J S0 w0 L (RY S0 w0 m P ops K rest l'))(hl:l.set d (.pointer (some a))=l':=by dsimp only[List.set]):
  J S0 w0 L (RY S0 w0 m P ops K ((⟨some d, .nilCheck x,ty,pos,af,none⟩,kd)::rest) l):=J.pur hk (fun w=>by simp only[execOp];rw[hx];rfl) k hl
theorem J.add(hk:pureK kd=true)(hx:ev l x= .int k p)(hy:ev l y= .int k q)(kk:J S0 w0 L (RY S0 w0 m P ops K rest l'))(hw:k.wrap (p+q)=r:=by first|exact W.i64 (by omega)|exact W.u64 (by omega)|exact W.u32 (by omega)|exact W.u8 (by omega)|exact W.i32 (by omega))(hl:l.set d (.int k r)=l':=by dsimp only[List.set]):J S0 w0 L (RY S0 w0 m P ops K ((⟨some d, .binOp .add xt x y yt,ty,pos,af,none⟩,kd)::rest) l):=J.pur hk (fun _=>D.add hx hy hw) kk hl
theorem J.sub(hk:pureK kd=true)(hx:ev l x= .int k p)(hy:ev l y= .int k q)(kk:J S0 w0 L (RY S0 w0 m P ops K rest l'))(hw:k.wrap (p - q)=r:=by first|exact W.i64 (by omega)|exact W.u64 (by omega)|exact W.u32 (by omega)|exact W.u8 (by omega)|exact W.i32 (by omega))(hl:l.set d (.int k r)=l':=by dsimp only[List.set]):J S0 w0 L (RY S0 w0 m P ops K ((⟨some d, .binOp .sub xt x y yt,ty,pos,af,none⟩,kd)::rest) l):=J.pur hk (fun _=>D.sub hx hy hw) kk hl
theorem J.rem(hk:pureK kd=true)(hx:ev l x= .int k p)(hy:ev l y= .int k q)(kk:J S0 w0 L (RY S0 w0 m P ops K rest l'))(h0:0≤p:=by omega)(h1:0<q:=by omega)(hl:l.set d (.int k (p % q))=l':=by dsimp only[List.set]):J S0 w0 L (RY S0 w0 m P ops K ((⟨some d, .binOp .rem xt x y yt,ty,pos,af,none⟩,kd)::rest) l):=J.pur hk (fun _=>D.rem hx hy h0 h1) kk hl
theorem J.eq(hk:pureK kd=true)(hx:ev l x= .int k p)(hy:ev l y= .int k q)(kk:J S0 w0 L (RY S0 w0 m P ops K rest l'))(hl:l.set d (.bool (p==q))=l':=by dsimp only[List.set]):J S0 w0 L (RY S0 w0 m P ops K ((⟨some d, .binOp .eql xt x y yt,ty,pos,af,none⟩,kd)::rest) l):=J.pur hk (fun _=>D.eq hx hy) kk hl
theorem J.ne(hk:pureK kd=true)(hx:ev l x= .int k p)(hy:ev l y= .int k q)(kk:J S0 w0 L (RY S0 w0 m P ops K rest l'))(hl:l.set d (.bool (p != q))=l':=by dsimp only[List.set]):J S0 w0 L (RY S0 w0 m P ops K ((⟨some d, .binOp .neq xt x y yt,ty,pos,af,none⟩,kd)::rest) l):=J.pur hk (fun _=>D.ne hx hy) kk hl
theorem J.lt(hk:pureK kd=true)(hx:ev l x= .int k p)(hy:ev l y= .int k q)(kk:J S0 w0 L (RY S0 w0 m P ops K rest l'))(hl:l.set d (.bool (decide (p<q)))=l':=by dsimp only[List.set]):J S0 w0 L (RY S0 w0 m P ops K ((⟨some d, .binOp .lss xt x y yt,ty,pos,af,none⟩,kd)::rest) l):=J.pur hk (fun _=>D.lt hx hy) kk hl
theorem J.le(hk:pureK kd=true)(hx:ev l x= .int k p)(hy:ev l y= .int k q)(kk:J S0 w0 L (RY S0 w0 m P ops K rest l'))(hl:l.set d (.bool (decide (p≤q)))=l':=by dsimp only[List.set]):J S0 w0 L (RY S0 w0 m P ops K ((⟨some d, .binOp .leq xt x y yt,ty,pos,af,none⟩,kd)::rest) l):=J.pur hk (fun _=>D.le hx hy) kk hl
theorem J.gt(hk:pureK kd=true)(hx:ev l x= .int k p)(hy:ev l y= .int k q)(kk:J S0 w0 L (RY S0 w0 m P ops K rest l'))(hl:l.set d (.bool (decide (q<p)))=l':=by dsimp only[List.set]):J S0 w0 L (RY S0 w0 m P ops K ((⟨some d, .binOp .gtr xt x y yt,ty,pos,af,none⟩,kd)::rest) l):=J.pur hk (fun _=>D.gt hx hy) kk hl
theorem J.ge(hk:pureK kd=true)(hx:ev l x= .int k p)(hy:ev l y= .int k q)(kk:J S0 w0 L (RY S0 w0 m P ops K rest l'))(hl:l.set d (.bool (decide (q≤p)))=l':=by dsimp only[List.set]):J S0 w0 L (RY S0 w0 m P ops K ((⟨some d, .binOp .geq xt x y yt,ty,pos,af,none⟩,kd)::rest) l):=J.pur hk (fun _=>D.ge hx hy) kk hl
theorem J.seq{s t:ByteArray}(hk:pureK kd=true)(hx:ev l x= .string s)(hy:ev l y= .string t)(kk:J S0 w0 L (RY S0 w0 m P ops K rest l'))(hl:l.set d (.bool (s.toList==t.toList))=l':=by dsimp only[List.set]):J S0 w0 L (RY S0 w0 m P ops K ((⟨some d, .binOp .eql xt x y yt,ty,pos,af,none⟩,kd)::rest) l):=J.pur hk (fun _=>D.seq hx hy) kk hl
theorem J.not{b:Bool}(hk:pureK kd=true)(hx:ev l x= .bool b){b':Bool}(kk:J S0 w0 L (RY S0 w0 m P ops K rest l'))(hv:(!b)=b':=by first|rfl|skip)(hl:l.set d (.bool b')=l':=by dsimp only[List.set]):J S0 w0 L (RY S0 w0 m P ops K ((⟨some d, .unOp .not xt x,ty,pos,af,none⟩,kd)::rest) l):=J.pur hk (fun _=>by subst hv;exact D.not hx) kk hl
theorem J.ln{a:Option Addr}{n c:Nat}{e:TypeId}[U:Und P xt (.slice e)](hk:pureK kd=true)(hx:ev l x= .slice a n c)(kk:J S0 w0 L (RY S0 w0 m P ops K rest l'))(hl:l.set d (.int .i64 n)=l':=by dsimp only[List.set]):J S0 w0 L (RY S0 w0 m P ops K ((⟨some d, .call {callee:= .builtin .len,args:= #[x],argTypes:= #[xt]},ty,pos,af,none⟩,kd)::rest) l):=J.pur hk (fun _=>D.len hx U.h) kk hl
theorem J.cp{a:Option Addr}{n c:Nat}{e:TypeId}[U:Und P xt (.slice e)](hk:pureK kd=true)(hx:ev l x= .slice a n c)(kk:J S0 w0 L (RY S0 w0 m P ops K rest l'))(hl:l.set d (.int .i64 c)=l':=by dsimp only[List.set]):J S0 w0 L (RY S0 w0 m P ops K ((⟨some d, .call {callee:= .builtin .cap,args:= #[x],argTypes:= #[xt]},ty,pos,af,none⟩,kd)::rest) l):=J.pur hk (fun _=>D.cap hx U.h) kk hl
theorem J.cv{s:TypeId}{k':IntKind}{sd:TypeDesc}[U1:Und P s sd][U:Und P xt (.int k')](hk:pureK kd=true)(hx:ev l x= .int k p)(kk:J S0 w0 L (RY S0 w0 m P ops K rest l'))(hw:k'.wrap p=r:=by first|exact W.i64 (by omega)|exact W.u64 (by omega)|exact W.u32 (by omega)|exact W.u8 (by omega)|exact W.i32 (by omega))(hl:l.set d (.int k' r)=l':=by dsimp only[List.set]):J S0 w0 L (RY S0 w0 m P ops K ((⟨some d, .convert s xt x,ty,pos,af,none⟩,kd)::rest) l):=J.pur hk (fun _=>D.conv hx U1.h U.h hw) kk hl
theorem J.bs{parts:Array (Nat×Operand)}{pl:List (Nat×Nat)}{sz by_:Nat}{zs cs:List Value}{ps:List (Nat×Value)}[I:Inf P xt sz by_ zs][I2:SInf P xt pl](hk:pureK kd=true)(hv:parts.toList.map (fun p=>(p.1,ev l p.2))=ps)(kk:J S0 w0 L (RY S0 w0 m P ops K rest l'))(hf:fillL pl zs ps=some cs:=by rfl)(hl:l.set d (.agg cs.toArray)=l':=by dsimp only[List.set]):J S0 w0 L (RY S0 w0 m P ops K ((⟨some d, .build xt parts,ty,pos,af,none⟩,kd)::rest) l):=J.pur hk (fun _=>D.buildS I.h I2.h hv hf) kk hl
theorem J.sl{lo hi:Option Operand}{li hi':Int}{a a':Option Addr}{n c n' c' sz:Nat}{e:TypeId}[U:Und P xt (.slice e)][Z:Siz P e sz](hk:pureK kd=true)(hx:ev l x= .slice a n c)(h1:(lo.map (ev l)).getD (.int .i64 0)= .int .i64 li)(h2:(hi.map (ev l)).getD (.int .i64 n)= .int .i64 hi')(kk:J S0 w0 L (RY S0 w0 m P ops K rest l'))(hz:sz≠0:=by decide)(hb:0≤li∧li≤hi'∧hi'≤c:=by omega)(hn:n≤c:=by omega)(ha:subA a li.toNat sz c=a':=by rfl)(hn':hi'.toNat - li.toNat=n':=by rfl)(hc':c - li.toNat=c':=by rfl)(hl:l.set d (.slice a' n' c')=l':=by dsimp only[List.set]):J S0 w0 L (RY S0 w0 m P ops K ((⟨some d, .slice xt x lo hi none,ty,pos,af,none⟩,kd)::rest) l):=J.pur hk (fun _=>by subst ha hn' hc';exact D.slice hx U.h Z.h hz h1 h2 hb hn) kk hl
theorem J.shr{k2:IntKind}{q':Int}(hk:pureK kd=true)(hx:ev l x= .int k p)(hy:ev l y= .int k2 q)(kk:J S0 w0 L (RY S0 w0 m P ops K rest l'))(hb:0≤q∧q≤k.bits:=by decide)(hq:(2:Int) ^ q.toNat=q':=by dsimp only[Int.reduceToNat,Int.reducePow])(hl:l.set d (.int k (p / q'))=l':=by dsimp only[List.set]):J S0 w0 L (RY S0 w0 m P ops K ((⟨some d, .binOp .shr xt x y yt,ty,pos,af,none⟩,kd)::rest) l):=J.pur hk (fun _=>by rw[←hq];exact D.shr hx hy hb) kk hl
theorem J.eqI{e n:Nat}{xs ys:List Int}[U:Und P xt (.array n e)][U2:Und P e (.int k)][Z:Siz P e 1](hk:pureK kd=true)(hx:ev l x= .agg (ints k xs).toArray)(hy:ev l y= .agg (ints k ys).toArray)(kk:J S0 w0 L (RY S0 w0 m P ops K rest l'))(hg:P.eqGuardType P.depth xt=false:=by kernel_rfl)(lx:xs.length=n:=by first|rfl|assumption|exact And.left (by assumption)|exact WRow.elt_len (by assumption) (by omega)|(subst_vars;exact WRow.elt_len (by assumption) (by omega)))(ly:ys.length=n:=by first|rfl|assumption|exact And.left (by assumption)|exact WRow.elt_len (by assumption) (by omega)|(subst_vars;exact WRow.elt_len (by assumption) (by omega)))(hn:0<n:=by decide)(hl:l.set d (.bool (decide (xs=ys)))=l':=by dsimp only[List.set]):J S0 w0 L (RY S0 w0 m P ops K ((⟨some d, .binOp .eql xt x y yt,ty,pos,af,none⟩,kd)::rest) l):=J.pur hk (fun _=>D.eqI hx hy U.h U2.h Z.h hg lx ly hn) kk hl
theorem J.neI{e n:Nat}{xs ys:List Int}[U:Und P xt (.array n e)][U2:Und P e (.int k)][Z:Siz P e 1](hk:pureK kd=true)(hx:ev l x= .agg (ints k xs).toArray)(hy:ev l y= .agg (ints k ys).toArray)(kk:J S0 w0 L (RY S0 w0 m P ops K rest l'))(hg:P.eqGuardType P.depth xt=false:=by kernel_rfl)(lx:xs.length=n:=by first|rfl|assumption|exact And.left (by assumption)|exact WRow.elt_len (by assumption) (by omega)|(subst_vars;exact WRow.elt_len (by assumption) (by omega)))(ly:ys.length=n:=by first|rfl|assumption|exact And.left (by assumption)|exact WRow.elt_len (by assumption) (by omega)|(subst_vars;exact WRow.elt_len (by assumption) (by omega)))(hn:0<n:=by decide)(hl:l.set d (.bool (decide (xs≠ys)))=l':=by dsimp only[List.set]):J S0 w0 L (RY S0 w0 m P ops K ((⟨some d, .binOp .neq xt x y yt,ty,pos,af,none⟩,kd)::rest) l):=J.pur hk (fun _=>D.neI hx hy U.h U2.h Z.h hg lx ly hn) kk hl
theorem J.fl{b o i off ad:Nat}[F:Fld P xt i off](hk:pureK kd=true)(hx:ev l x= .pointer (some ⟨b,o,none⟩))(k:J S0 w0 L (RY S0 w0 m P ops K rest l'))(ha:o+off=ad:=by first|dsimp only[Nat.reduceAdd]|rfl)(hl:l.set d (.pointer (some ⟨b,ad,none⟩))=l':=by dsimp only[List.set]):
  J S0 w0 L (RY S0 w0 m P ops K ((⟨some d, .fieldAddr xt x i,ty,pos,af,none⟩,kd)::rest) l):=by
 obtain⟨fs,f,sz,h1,h2,h3,h4,rfl⟩:=F.h;subst ha;exact J.pur hk (fun w=>D.fieldAddr hx h1 h2 h3 h4) k hl
theorem J.mx{ts:Array TypeId}(hk:pureK kd=true)(hx:ev l x= .int k p)(hy:ev l y= .int k q)(kk:J S0 w0 L (RY S0 w0 m P ops K rest l'))(hl:l.set d (.int k (if q>p then q else p))=l':=by dsimp only[List.set]):J S0 w0 L (RY S0 w0 m P ops K ((⟨some d, .call {callee:= .builtin .max,args:= #[x,y],argTypes:=ts},ty,pos,af,none⟩,kd)::rest) l):=J.pur hk (fun _=>D.max2 hx hy) kk hl
end
end G
end Go.Proofs.YtfoaecjggdaieaaGreatDoor
