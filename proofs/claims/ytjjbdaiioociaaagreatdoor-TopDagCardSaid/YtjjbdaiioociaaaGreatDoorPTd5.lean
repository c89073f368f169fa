/-
  Part 5 of the lemmas of these laws: TopDag.
-/
import Derived.Test.YtjjbdaiioociaaaGreatDoorPTd4
set_option linter.unusedVariables false
set_option linter.unusedSimpArgs false
open Go.Proofs.Tryz
namespace Go.Proofs.YtjjbdaiioociaaaGreatDoor
namespace W
open Go.RowKit G
set_option maxRecDepth 20000
set_option maxHeartbeats 8000000
attribute [local irreducible] RS RX
theorem C28:prog.cellsOf 28=4:=by kernel_rfl
theorem T28:TI prog 28 4 40 [.int .u8 0, .int .i64 0, .int .u64 0, .string .empty]:=by
 have h:(prog.info? 28).map (fun i=>(i.size,i.bytes,i.zero))=some (4,40,some (.agg #[.int .u8 0, .int .i64 0, .int .u64 0, .string .empty])):=by kernel_rfl
 exact TI.of h rfl
theorem F28:SI prog 28 [(0,1),(1,1),(2,1),(3,1)]:=⟨_,V28,by kernel_rfl,by kernel_rfl⟩
theorem E201:Enters prog 201:= .mk func201 (by kernel_rfl) rfl
theorem E202:Enters prog 202:= .mk func202 (by kernel_rfl) rfl
theorem E207:Enters prog 207:= .mk func207 (by kernel_rfl) rfl
theorem E218:Enters prog 218:= .mk func218 (by kernel_rfl) rfl
theorem E219:Enters prog 219:= .mk func219 (by kernel_rfl) rfl
theorem E220:Enters prog 220:= .mk func220 (by kernel_rfl) rfl
theorem E223:Enters prog 223:= .mk func223 (by kernel_rfl) rfl
theorem E224:Enters prog 224:= .mk func224 (by kernel_rfl) rfl
theorem E226:Enters prog 226:= .mk func226 (by kernel_rfl) rfl
theorem E228:Enters prog 228:= .mk func228 (by kernel_rfl) rfl
theorem rune33(r:Int)(w:World):
  Calls prog 202 #[.int .i32 r] w (Ret w fun v _=>v= .bool (decide (r<33∨126<r))):=by
 refine eE 8 func202 rfl rfl fun hE=>?_
 refine sq fun _ J1=>RS.asB rfl ?_;refine nl J1 (sq fun _ J2=>?_);refine RS.mvI rfl ?_;refine RS.ol ?_;refine RS.mvB rfl ?_;refine RS.splitd 5 rfl rfl (fun c3=>?_) (fun c3=>?_)
 ·refine RS.nm ?_;refine RS.skT 5 ?_;refine RS.skT 5 ?_;refine RS.pkt ?_;refine RS.asB rfl (nl J2 (wp_ret ?_));refine retB rfl rfl ?_;refine⟨_,rfl,hE,congrArg Value.bool (decide_eq_true ?_).symm⟩;omega
 refine RS.nm ?_;refine RS.wt 5 ?_;refine RS.mvI rfl ?_;refine RS.wt 5 ?_;refine RS.og ?_;refine RS.pk ?_;refine RS.asB rfl (nl J2 (wp_ret ?_));refine retB rfl rfl ?_;refine⟨_,rfl,hE,congrArg Value.bool (decide_eq_decide.2 ?_)⟩;omega
theorem index33(s:ByteArray)(w:World):
  Calls prog 220 #[.string s, .func (.func 202) #[] #[], .bool true] w (Ret w fun v _=>∃j,v= .int .i64 j∧(j<0↔S.Asc 33 s)):=by
 refine eE 18 func220 rfl rfl fun hE=>?_
 refine sAI rfl (wx fun _ J2=>sq fun _ J3=>?_);refine RS.move (v:= .string _) rfl ?_;refine RS.range rfl V9 (fun b4 w4 e4 s4 x4 I4=>?_);refine RS.nm ?_;have zw4:=x4.size;refine nl J3 (wp_block ?_);refine C.loop (A:=Int) (fun p=>[]) [6,7,8,11,12,13,14,15,16,17,18,19,20] (fun p w'=>Pr (fun k=>k=b4) w4 w'∧((0≤p∧p≤s.size)∧It w' b4 s p.toNat∧(∀j,j<p.toNat→33≤(bys s).getD j 0∧(bys s).getD j 0≤126))) (fun p=>(s.size - p.toNat)) 0 (by kernel_rfl) ?_ ?_
 ·exact⟨Pr.refl _ _,⟨by omega,by omega⟩,I4,fun j hj=>by omega⟩
 rintro p j w5 ⟨x5,hI⟩;obtain⟨h1,I4,h2⟩:=hI;have hdc:=S.dec_case s p.toNat;refine C.nmU ?_;refine sq fun _ J6=>?_
 replace hE:=(Ext.tr hE x4).trans x5.belo;refine RS.next I4 rfl (fun c7 w7 y7 N7=>?_) (fun c7=>?_)
 ·refine RS.nm ?_;replace x5:=x5.stno y7;replace I4:=N7;have hp:=c7;refine RS.extract (v:= .bool true) rfl rfl ?_;refine nl J6 (wx fun _ J8=>?_);refine C.ift rfl ?_;refine wp_skip (J8 _ _ (wp_block (sq fun _ J9=>?_)));refine RS.exI ?_;refine RS.exI ?_;refine RS.asI rfl (RS.asI rfl ?_);refine nl J9 (sq fun _ J10=>?_);refine RS.move (v:= .func _ _ _) rfl ?_;refine RS.mvI rfl ?_;refine RS.callv E202 (rune33 _ _) rfl rfl (fun e11 w11 A11=>?_);obtain⟨v11,rfl,x11,A11⟩:=A11;refine⟨_,rfl,?_⟩;subst A11;refine RS.nm ?_;refine RS.mvB rfl ?_;refine RS.o (D.eqB rfl rfl V4) ?_;refine nl J10 ?_;refine C.ifb rfl (fun c12=>?_) (fun c12=>?_)
  ·have hf:=c12;refine sq fun _ J13=>RS.mvI rfl (RS.asI rfl (nl J13 (wp_ret ?_)));refine retI rfl rfl ?_;have hd:=hdc hp;rw[beq_true]at hf;have hf2:=of_decide_eq_true hf;replace hE:=Ext.tr (hE.trans y7.belo) x11;refine⟨_,rfl,hE,_,rfl,⟨fun h=>by omega,fun h=>?_⟩⟩;have:=h p.toNat hp;omega
  have hf:=c12;refine wp_skip ?_;change Nx _ _ _ _ _ _ _ _;refine C.next (p+1) trivial (by kernel_rfl) ?_ ?_
  ·have hd:=hdc hp;rw[beq_true]at hf;have hf2:=of_decide_eq_false hf;have hw:(Utf8.decode s p.toNat).2=1:=by omega
   replace I4:=I4.ext x11;rw[hw]at I4;replace x5:=x5.ext x11;refine⟨x5,⟨by omega,by omega⟩,?_,fun j hj=>?_⟩
   ·rw[show(p+1).toNat=p.toNat+1 by omega];exact I4
   by_cases hjp:j<p.toNat
   ·exact h2 j hjp
   obtain rfl:j=p.toNat:=by omega
   omega
  omega
 refine RS.nm ?_;have hp:=c7;refine RS.extract (v:= .bool false) rfl rfl ?_;refine nl J6 (wx fun _ J14=>?_);refine C.iff rfl ?_;refine wp_exit (J2 _ _ (sAI rfl (wp_ret ?_)));refine retI rfl rfl ?_;refine⟨_,rfl,hE,_,rfl,⟨fun _ j hj=>h2 j (by omega),fun _=>by decide⟩⟩
theorem Index33(s:ByteArray)(w:World):
  Calls prog 201 #[.string s, .func (.func 202) #[] #[]] w (Ret w fun v _=>∃j,v= .int .i64 j∧(j<0↔S.Asc 33 s)):=by
 refine eE 6 func201 rfl rfl fun hE=>?_
 refine sq fun _ J1=>RS.asI rfl ?_;refine nl J1 (sq fun _ J2=>?_);refine RS.move (v:= .string _) rfl ?_;refine RS.move (v:= .func _ _ _) rfl ?_;refine RS.call E220 (index33 _ _) rfl (fun v3 w3 x3 A3=>?_);obtain⟨j,rfl,hj⟩:=A3;refine RS.nm ?_;refine RS.asI rfl (nl J2 (wp_ret ?_));refine retI rfl rfl ?_;replace hE:=Ext.tr hE x3;exact⟨_,rfl,hE,_,rfl,hj⟩
theorem rune32(r:Int)(w:World):
  Calls prog 219 #[.int .i32 r] w (Ret w fun v _=>v= .bool (decide (r<32∨126<r))):=by
 refine eE 8 func219 rfl rfl fun hE=>?_
 refine sq fun _ J1=>RS.asB rfl ?_;refine nl J1 (sq fun _ J2=>?_);refine RS.mvI rfl ?_;refine RS.ol ?_;refine RS.mvB rfl ?_;refine RS.splitd 5 rfl rfl (fun c3=>?_) (fun c3=>?_)
 ·refine RS.nm ?_;refine RS.skT 5 ?_;refine RS.skT 5 ?_;refine RS.pkt ?_;refine RS.asB rfl (nl J2 (wp_ret ?_));refine retB rfl rfl ?_;refine⟨_,rfl,hE,congrArg Value.bool (decide_eq_true ?_).symm⟩;omega
 refine RS.nm ?_;refine RS.wt 5 ?_;refine RS.mvI rfl ?_;refine RS.wt 5 ?_;refine RS.og ?_;refine RS.pk ?_;refine RS.asB rfl (nl J2 (wp_ret ?_));refine retB rfl rfl ?_;refine⟨_,rfl,hE,congrArg Value.bool (decide_eq_decide.2 ?_)⟩;omega
theorem index32(s:ByteArray)(w:World):
  Calls prog 220 #[.string s, .func (.func 219) #[] #[], .bool true] w (Ret w fun v _=>∃j,v= .int .i64 j∧(j<0↔S.Asc 32 s)):=by
 refine eE 18 func220 rfl rfl fun hE=>?_
 refine sAI rfl (wx fun _ J2=>sq fun _ J3=>?_);refine RS.move (v:= .string _) rfl ?_;refine RS.range rfl V9 (fun b4 w4 e4 s4 x4 I4=>?_);refine RS.nm ?_;have zw4:=x4.size;refine nl J3 (wp_block ?_);refine C.loop (A:=Int) (fun p=>[]) [6,7,8,11,12,13,14,15,16,17,18,19,20] (fun p w'=>Pr (fun k=>k=b4) w4 w'∧((0≤p∧p≤s.size)∧It w' b4 s p.toNat∧(∀j,j<p.toNat→32≤(bys s).getD j 0∧(bys s).getD j 0≤126))) (fun p=>(s.size - p.toNat)) 0 (by kernel_rfl) ?_ ?_
 ·exact⟨Pr.refl _ _,⟨by omega,by omega⟩,I4,fun j hj=>by omega⟩
 rintro p j w5 ⟨x5,hI⟩;obtain⟨h1,I4,h2⟩:=hI;have hdc:=S.dec_case s p.toNat;refine C.nmU ?_;refine sq fun _ J6=>?_
 replace hE:=(Ext.tr hE x4).trans x5.belo;refine RS.next I4 rfl (fun c7 w7 y7 N7=>?_) (fun c7=>?_)
 ·refine RS.nm ?_;replace x5:=x5.stno y7;replace I4:=N7;have hp:=c7;refine RS.extract (v:= .bool true) rfl rfl ?_;refine nl J6 (wx fun _ J8=>?_);refine C.ift rfl ?_;refine wp_skip (J8 _ _ (wp_block (sq fun _ J9=>?_)));refine RS.exI ?_;refine RS.exI ?_;refine RS.asI rfl (RS.asI rfl ?_);refine nl J9 (sq fun _ J10=>?_);refine RS.move (v:= .func _ _ _) rfl ?_;refine RS.mvI rfl ?_;refine RS.callv E219 (rune32 _ _) rfl rfl (fun e11 w11 A11=>?_);obtain⟨v11,rfl,x11,A11⟩:=A11;refine⟨_,rfl,?_⟩;subst A11;refine RS.nm ?_;refine RS.mvB rfl ?_;refine RS.o (D.eqB rfl rfl V4) ?_;refine nl J10 ?_;refine C.ifb rfl (fun c12=>?_) (fun c12=>?_)
  ·have hf:=c12;refine sq fun _ J13=>RS.mvI rfl (RS.asI rfl (nl J13 (wp_ret ?_)));refine retI rfl rfl ?_;have hd:=hdc hp;rw[beq_true]at hf;have hf2:=of_decide_eq_true hf;replace hE:=Ext.tr (hE.trans y7.belo) x11;refine⟨_,rfl,hE,_,rfl,⟨fun h=>by omega,fun h=>?_⟩⟩;have:=h p.toNat hp;omega
  have hf:=c12;refine wp_skip ?_;change Nx _ _ _ _ _ _ _ _;refine C.next (p+1) trivial (by kernel_rfl) ?_ ?_
  ·have hd:=hdc hp;rw[beq_true]at hf;have hf2:=of_decide_eq_false hf;have hw:(Utf8.decode s p.toNat).2=1:=by omega
   replace I4:=I4.ext x11;rw[hw]at I4;replace x5:=x5.ext x11;refine⟨x5,⟨by omega,by omega⟩,?_,fun j hj=>?_⟩
   ·rw[show(p+1).toNat=p.toNat+1 by omega];exact I4
   by_cases hjp:j<p.toNat
   ·exact h2 j hjp
   obtain rfl:j=p.toNat:=by omega
   omega
  omega
 refine RS.nm ?_;have hp:=c7;refine RS.extract (v:= .bool false) rfl rfl ?_;refine nl J6 (wx fun _ J14=>?_);refine C.iff rfl ?_;refine wp_exit (J2 _ _ (sAI rfl (wp_ret ?_)));refine retI rfl rfl ?_;refine⟨_,rfl,hE,_,rfl,⟨fun _ j hj=>h2 j (by omega),fun _=>by decide⟩⟩
theorem Index32(s:ByteArray)(w:World):
  Calls prog 201 #[.string s, .func (.func 219) #[] #[]] w (Ret w fun v _=>∃j,v= .int .i64 j∧(j<0↔S.Asc 32 s)):=by
 refine eE 6 func201 rfl rfl fun hE=>?_
 refine sq fun _ J1=>RS.asI rfl ?_;refine nl J1 (sq fun _ J2=>?_);refine RS.move (v:= .string _) rfl ?_;refine RS.move (v:= .func _ _ _) rfl ?_;refine RS.call E220 (index32 _ _) rfl (fun v3 w3 x3 A3=>?_);obtain⟨j,rfl,hj⟩:=A3;refine RS.nm ?_;refine RS.asI rfl (nl J2 (wp_ret ?_));refine retI rfl rfl ?_;replace hE:=Ext.tr hE x3;exact⟨_,rfl,hE,_,rfl,hj⟩
theorem key(s:ByteArray)(w:World):
  Calls prog 166 #[.string s] w (Ret w fun v _=>v= .bool (decide (S.KeyOk s))):=by
 refine eE 15 func166 rfl rfl fun hE=>?_
 refine sq fun _ J1=>RS.asB rfl ?_;refine nl J1 (sq fun _ J2=>?_);refine RS.move (v:= .string _) rfl ?_;refine RS.o (D.lenStr rfl V9) ?_;refine RS.oe ?_;refine RS.mvB rfl ?_;refine RS.splitd 6 rfl rfl (fun c3=>?_) (fun c3=>?_)
 ·refine RS.nm ?_;refine RS.wt 6 ?_;refine RS.move (v:= .string _) rfl ?_;refine RS.wt 6 ?_;refine RS.o (D.lenStr rfl V9) ?_;refine RS.wt 6 ?_;refine RS.o (D.le rfl rfl) ?_;refine RS.pk ?_;refine RS.mvB rfl ?_;refine RS.splitd 11 rfl rfl (fun c4=>?_) (fun c4=>?_)
  ·refine RS.nm ?_;refine RS.wt 11 ?_;refine RS.move (v:= .string _) rfl ?_;refine RS.wt 11 ?_;refine RS.call E201 (Index33 _ _) rfl (fun v5 w5 x5 A5=>?_);obtain⟨j,rfl,hj⟩:=A5;refine RS.nm ?_;refine RS.wt 11 ?_;refine RS.ol ?_;refine RS.pk ?_;refine RS.asB rfl (nl J2 (wp_ret ?_));refine retB rfl rfl ?_;replace hE:=Ext.tr hE x5;refine⟨_,rfl,hE,congrArg Value.bool (decide_eq_decide.2 ?_)⟩;unfold S.KeyOk;rw[hj];exact⟨fun h=>⟨by omega,by omega,h⟩,fun h=>h.2.2⟩
  refine RS.nm ?_;refine RS.skF 11 ?_;refine RS.skF 11 ?_;refine RS.skF 11 ?_;refine RS.pkf ?_;refine RS.asB rfl (nl J2 (wp_ret ?_));refine retB rfl rfl ?_;refine⟨_,rfl,hE,congrArg Value.bool (decide_eq_false ?_).symm⟩;intro h;have:=h.2.1;omega
 refine RS.nm ?_;refine RS.skF 6 ?_;refine RS.skF 6 ?_;refine RS.skF 6 ?_;refine RS.pkf ?_;refine RS.mvB rfl ?_;refine RS.skF 11 ?_;refine RS.skF 11 ?_;refine RS.skF 11 ?_;refine RS.pkf ?_;refine RS.asB rfl (nl J2 (wp_ret ?_));refine retB rfl rfl ?_;refine⟨_,rfl,hE,congrArg Value.bool (decide_eq_false ?_).symm⟩;intro h;have:=h.1;omega
theorem printable(s:ByteArray)(hs:s.size≤1000000)(w:World):
  Calls prog 178 #[.string s] w (Ret w fun v _=>v= .bool (decide (S.Asc 32 s))):=by
 refine eE 19 func178 rfl rfl fun hE=>?_
 refine sAB rfl (wx fun _ J2=>sAI rfl (wp_block ?_));refine C.loop (A:=Int) (fun p=>[(3, .int .i64 p)]) [2,4,5,6,7,8,9,10,11,12,13,14,15,16,17,18,19] (fun p w'=>Ext w w'∧((0≤p∧p≤s.size)∧(∀j,j<p.toNat→32≤(bys s).getD j 0∧(bys s).getD j 0≤126))) (fun p=>(s.size - p.toNat)) 0 (by kernel_rfl) ?_ ?_
 ·exact⟨Ext.refl _,⟨by omega,by omega⟩,fun j hj=>by omega⟩
 rintro p j w4 ⟨x4,hI⟩;obtain⟨h1,h2⟩:=hI;refine C.nmU ?_;refine wx fun _ J5=>sq fun _ J6=>RS.mvI rfl ?_;refine RS.move (v:= .string _) rfl ?_;refine RS.o (D.lenStr rfl V9) ?_;refine RS.ol ?_;refine nl J6 ?_;replace hE:=Ext.tr hE x4;refine C.ifd rfl (fun c7=>?_) (fun c7=>?_)
 ·have hl:=c7;refine wp_skip (J5 _ _ (wx fun _ J8=>wp_block (sq fun _ J9=>?_)));refine RS.move (v:= .string _) rfl ?_;refine RS.mvI rfl ?_;refine RS.indexStr rfl rfl V9 (by omega) (fun v10 q10 r10=>?_);refine RS.nm ?_;simp only[lim]at r10;refine RS.ol ?_;refine RS.mvB rfl ?_;refine RS.splitd 14 rfl rfl (fun c11=>?_) (fun c11=>?_)
  ·refine RS.nm ?_;refine RS.skT 14 ?_;refine RS.skT 14 ?_;refine RS.skT 14 ?_;refine RS.skT 14 ?_;refine RS.pkt ?_;refine nl J9 ?_;refine C.ift rfl ?_;refine sAB rfl (wp_ret ?_);refine retB rfl rfl ?_;refine⟨_,rfl,hE,congrArg Value.bool (decide_eq_false ?_).symm⟩;intro h;have:=h p.toNat (by omega);omega
  refine RS.nm ?_;refine RS.wt 14 ?_;refine RS.move (v:= .string _) rfl ?_;refine RS.wt 14 ?_;refine RS.mvI rfl ?_;refine RS.wt 14 ?_;refine RS.indexStr rfl rfl V9 (by omega) (fun v13 q13 r13=>?_);refine RS.nm ?_;simp only[lim]at r13;refine RS.wt 14 ?_;refine RS.og ?_;refine RS.pk ?_;refine nl J9 (C.ifd rfl (fun c14=>?_) (fun c14=>?_))
  ·try have hb:=c14
   refine sAB rfl (wp_ret ?_);refine retB rfl rfl ?_;refine⟨_,rfl,hE,congrArg Value.bool (decide_eq_false ?_).symm⟩;intro h;have:=h p.toNat (by omega);omega
  refine wp_skip (J8 _ _ (region (RS.mvI rfl ?_)));refine RS.adi ?_;refine RS.asI rfl (RS.nil ?_);change Nx _ _ _ _ _ _ _ _;refine C.next (p+1) ⟨rfl,trivial⟩ (by kernel_rfl) ?_ ?_
  ·refine⟨x4,⟨by omega,by omega⟩,fun j hj=>?_⟩;by_cases hjp:j<p.toNat
   ·exact h2 j hjp
   obtain rfl:j=p.toNat:=by omega
   omega
  omega
 have hl:=c7;refine wp_exit (J2 _ _ (sAB rfl (wp_ret ?_)));refine retB rfl rfl ?_;exact⟨_,rfl,hE,congrArg Value.bool (decide_eq_true (fun j hj=>h2 j (by omega))).symm⟩
theorem nameR(s:ByteArray)(hs:s.size≤1000000)(w:World):
  Calls prog 150 #[.string s] w (Ret w fun v _=>v= .bool (decide (S.KeyOk s))):=by
 refine eE 27 func150 rfl rfl fun hE=>?_
 refine sAB rfl (wx fun _ J2=>sq fun _ J3=>?_);refine RS.move (v:= .string _) rfl ?_;refine RS.o (D.lenStr rfl V9) ?_;refine RS.ol ?_;refine RS.mvB rfl ?_;refine RS.splitd 7 rfl rfl (fun c4=>?_) (fun c4=>?_)
 ·refine RS.nm ?_;refine RS.skT 7 ?_;refine RS.skT 7 ?_;refine RS.skT 7 ?_;refine RS.pkt ?_;refine nl J3 ?_;refine C.ift rfl ?_;refine sAB rfl (wp_ret ?_);refine retB rfl rfl ?_;refine⟨_,rfl,hE,congrArg Value.bool (decide_eq_false ?_).symm⟩;intro h;have:=h.1;omega
 refine RS.nm ?_;refine RS.wt 7 ?_;refine RS.move (v:= .string _) rfl ?_;refine RS.wt 7 ?_;refine RS.o (D.lenStr rfl V9) ?_;refine RS.wt 7 ?_;refine RS.og ?_;refine RS.pk ?_;refine nl J3 (C.ifd rfl (fun c6=>?_) (fun c6=>?_))
 ·refine sAB rfl (wp_ret ?_);refine retB rfl rfl ?_;refine⟨_,rfl,hE,congrArg Value.bool (decide_eq_false ?_).symm⟩;intro h;have:=h.2.1;omega
 refine wp_skip (J2 _ _ (wx fun _ J8=>sAI rfl (wp_block ?_)));refine C.loop (A:=Int) (fun p=>[(3, .int .i64 p)]) [2,12,13,14,15,16,17,18,19,20,21,22,23,24,25,26,27] (fun p w'=>Ext w w'∧((0≤p∧p≤s.size)∧(∀j,j<p.toNat→33≤(bys s).getD j 0∧(bys s).getD j 0≤126))) (fun p=>(s.size - p.toNat)) 0 (by kernel_rfl) ?_ ?_
 ·exact⟨Ext.refl _,⟨by omega,by omega⟩,fun j hj=>by omega⟩
 rintro p j w10 ⟨x10,hI⟩;obtain⟨h1,h2⟩:=hI;refine C.nmU ?_;refine wx fun _ J11=>sq fun _ J12=>RS.mvI rfl ?_;refine RS.move (v:= .string _) rfl ?_;refine RS.o (D.lenStr rfl V9) ?_;refine RS.ol ?_;refine nl J12 ?_;replace hE:=Ext.tr hE x10;refine C.ifd rfl (fun c13=>?_) (fun c13=>?_)
 ·refine wp_skip (J11 _ _ (wx fun _ J14=>wp_block (sq fun _ J15=>?_)));refine RS.move (v:= .string _) rfl ?_;refine RS.mvI rfl ?_;refine RS.indexStr rfl rfl V9 (by omega) (fun v16 q16 r16=>?_);refine RS.nm ?_;simp only[lim]at r16;refine RS.ol ?_;refine RS.mvB rfl ?_;refine RS.splitd 22 rfl rfl (fun c17=>?_) (fun c17=>?_)
  ·refine RS.nm ?_;refine RS.skT 22 ?_;refine RS.skT 22 ?_;refine RS.skT 22 ?_;refine RS.skT 22 ?_;refine RS.pkt ?_;refine nl J15 ?_;refine C.ift rfl ?_;refine sAB rfl (wp_ret ?_);refine retB rfl rfl ?_;refine⟨_,rfl,hE,congrArg Value.bool (decide_eq_false ?_).symm⟩;intro h;have:=h.2.2 p.toNat (by omega);omega
  refine RS.nm ?_;refine RS.wt 22 ?_;refine RS.move (v:= .string _) rfl ?_;refine RS.wt 22 ?_;refine RS.mvI rfl ?_;refine RS.wt 22 ?_;refine RS.indexStr rfl rfl V9 (by omega) (fun v19 q19 r19=>?_);refine RS.nm ?_;simp only[lim]at r19;refine RS.wt 22 ?_;refine RS.og ?_;refine RS.pk ?_;refine nl J15 (C.ifd rfl (fun c20=>?_) (fun c20=>?_))
  ·refine sAB rfl (wp_ret ?_);refine retB rfl rfl ?_;refine⟨_,rfl,hE,congrArg Value.bool (decide_eq_false ?_).symm⟩;intro h;have:=h.2.2 p.toNat (by omega);omega
  refine wp_skip (J14 _ _ (region (RS.mvI rfl ?_)));refine RS.adi ?_;refine RS.asI rfl (RS.nil ?_);change Nx _ _ _ _ _ _ _ _;refine C.next (p+1) ⟨rfl,trivial⟩ (by kernel_rfl) ?_ ?_
  ·refine⟨x10,⟨by omega,by omega⟩,fun j hj=>?_⟩;by_cases hjp:j<p.toNat
   ·exact h2 j hjp
   obtain rfl:j=p.toNat:=by omega
   omega
  omega
 refine wp_exit (J8 _ _ (sAB rfl (wp_ret ?_)));refine retB rfl rfl ?_;refine⟨_,rfl,hE,congrArg Value.bool (decide_eq_true ⟨by omega,by omega,fun j hj=>h2 j (by omega)⟩).symm⟩
theorem splitV(b:Int)(hb:0≤b∧b<18446744073709551616)(w:World):
  Calls prog 228 #[.int .u64 b] w (Ret w fun v _=>v= .tuple #[.int .i64 (b / 4503599627370496 % 2048), .int .u64 (b % 4503599627370496)]):=by
 have e52:(2:Int) ^ (52:Int).toNat=4503599627370496:=by decide
 refine eE 9 func228 rfl rfl fun hE=>?_
 refine sq fun _ J1=>RS.asI rfl (RS.asI rfl ?_);refine nl J1 (sq fun _ J2=>?_);refine RS.mvI rfl ?_;refine RS.ob (D.shr_u64 rfl rfl (by omega) (by constructor<;>omega)) (fun z3=>?_);refine RS.o (D.conv rfl V26 V3 (W.i64 (by rw[e52];omega))) ?_;refine RS.o (D.sand rfl rfl) ?_;refine RS.mvI rfl ?_;refine RS.ob (D.band_u64 rfl rfl (by omega) (by omega)) (fun z4=>?_);refine RS.asI rfl (RS.asI rfl (nl J2 (wp_ret ?_)));refine retII ?_;refine⟨_,rfl,hE,?_⟩;rw[e52,S.sand_2047 _ (by omega),S.iand_full _ (by omega)]
theorem classV(b:Int)(hb:0≤b∧b<18446744073709551616)(w:World):
  Calls prog 226 #[.int .u64 b] w (Ret w fun v _=>v= .int .u8 (S.clsS b)):=by
 refine eE 25 func226 rfl rfl fun hE=>?_
 refine sq fun _ J1=>RS.asI rfl ?_;refine nl J1 (sq fun _ J2=>?_);refine RS.mvI rfl ?_;refine RS.call E228 (splitV _ (by omega) _) rfl (fun v3 w3 x3 A3=>?_);subst A3;refine RS.nm ?_;refine RS.move (v:= .tuple _) rfl ?_;refine RS.exI ?_;refine RS.exI ?_;refine RS.asI rfl (RS.asI rfl (nl J2 (wx fun _ J4=>wp_block (sq fun _ J5=>RS.mvI rfl ?_))));refine RS.oq ?_;refine RS.mvB rfl ?_;replace hE:=Ext.tr hE x3;refine RS.splite 13 rfl rfl (fun c6=>?_) (fun c6=>?_)
 ·refine RS.nm ?_;refine RS.wt 13 ?_;refine RS.mvI rfl ?_;refine RS.wt 13 ?_;refine RS.on ?_;refine RS.pk ?_;refine RS.asB rfl (nl J5 (C.ifn rfl (fun c7=>?_) (fun c7=>?_)))
  ·refine sAI rfl (wp_ret ?_);refine rI hE ?_;unfold S.clsS
   (repeat' split)<;>omega
  refine sq fun _ J9=>RS.mvI rfl ?_;refine RS.oq ?_;refine RS.asB rfl (nl J9 ?_);refine C.ife rfl (fun c10=>?_) (fun c10=>?_)
  ·refine sAI rfl (wp_ret ?_);refine rI hE ?_;unfold S.clsS
   (repeat' split)<;>omega
  refine sq fun _ J12=>RS.mvI rfl ?_;refine RS.on ?_;refine RS.asB rfl (nl J12 (C.ifn rfl (fun c13=>?_) (fun c13=>?_)))
  ·refine sAI rfl (wp_ret ?_);refine rI hE ?_;unfold S.clsS
   (repeat' split)<;>omega
  refine sq fun _ J15=>RS.mvI rfl ?_;refine RS.on ?_;refine RS.asB rfl (nl J15 (C.ifn rfl (fun c16=>?_) (fun c16=>?_)))
  ·refine sAI rfl (wp_ret ?_);refine rI hE ?_;unfold S.clsS
   (repeat' split)<;>omega
  refine wp_skip (J4 _ _ (sAI rfl (wp_ret ?_)));refine rI hE ?_;unfold S.clsS
  (repeat' split)<;>omega
 refine RS.nm ?_;refine RS.skF 13 ?_;refine RS.skF 13 ?_;refine RS.pkf ?_;refine RS.asB rfl (nl J5 ?_);refine C.iff rfl ?_;refine sq fun _ J19=>RS.mvI rfl ?_;refine RS.oq ?_;refine RS.asB rfl (nl J19 ?_);refine C.ife rfl (fun c20=>?_) (fun c20=>?_)
 ·refine sAI rfl (wp_ret ?_);refine rI hE ?_;unfold S.clsS
  (repeat' split)<;>omega
 refine sq fun _ J22=>RS.mvI rfl ?_;refine RS.on ?_;refine RS.asB rfl (nl J22 (C.ifn rfl (fun c23=>?_) (fun c23=>?_)))
 ·refine sAI rfl (wp_ret ?_);refine rI hE ?_;unfold S.clsS
  (repeat' split)<;>omega
 refine sq fun _ J25=>RS.mvI rfl ?_;refine RS.on ?_;refine RS.asB rfl (nl J25 (C.ifn rfl (fun c26=>?_) (fun c26=>?_)))
 ·refine sAI rfl (wp_ret ?_);refine rI hE ?_;unfold S.clsS
  (repeat' split)<;>omega
 refine wp_skip (J4 _ _ (sAI rfl (wp_ret ?_)));refine rI hE ?_;unfold S.clsS
 (repeat' split)<;>omega
theorem expR(b:Int)(hb:0≤b∧b<18446744073709551616)(w:World):
  Calls prog 223 #[.int .u64 b] w (Ret w fun v _=>v= .int .i64 (b / 4503599627370496 % 2048)):=by
 refine eE 6 func223 rfl rfl fun hE=>?_
 refine sq fun _ J1=>RS.asI rfl ?_;refine nl J1 (sq fun _ J2=>?_);refine RS.mvI rfl ?_;refine RS.o (D.rem rfl rfl (by omega) (by omega)) ?_;refine RS.o (D.quo rfl rfl (by omega) (by omega) (W.u64 (by omega))) ?_;refine RS.o (D.conv rfl V26 V3 (W.i64 (by omega))) ?_;refine RS.asI rfl (nl J2 (wp_ret ?_));refine retI rfl rfl ?_;refine⟨_,rfl,hE,congrArg (Value.int .i64) (S.exp_eq b (by omega))⟩
theorem fracR(b:Int)(hb:0≤b∧b<18446744073709551616)(w:World):
  Calls prog 224 #[.int .u64 b] w (Ret w fun v _=>v= .int .u64 (b % 4503599627370496)):=by
 refine eE 4 func224 rfl rfl fun hE=>?_
 refine sq fun _ J1=>RS.asI rfl ?_;refine nl J1 (sq fun _ J2=>?_);refine RS.mvI rfl ?_;refine RS.o (D.rem rfl rfl (by omega) (by omega)) ?_;refine RS.asI rfl (nl J2 (wp_ret ?_));refine retI rfl rfl ?_;exact⟨_,rfl,hE,rfl⟩
theorem classR(b:Int)(hb:0≤b∧b<18446744073709551616)(w:World):
  Calls prog 207 #[.int .u64 b] w (Ret w fun v _=>v= .int .u8 (S.clsS b)):=by
 refine eE 20 func207 rfl rfl fun hE=>?_
 refine sq fun _ J1=>RS.asI rfl ?_;refine nl J1 (sq fun _ J2=>?_);refine RS.mvI rfl ?_;refine RS.call E223 (expR _ (by omega) _) rfl (fun v3 w3 x3 A3=>?_);subst A3;refine RS.nm ?_;refine RS.mvI rfl ?_;refine RS.call E224 (fracR _ (by omega) _) rfl (fun v4 w4 x4 A4=>?_);subst A4;refine RS.nm ?_;refine RS.asI rfl (RS.asI rfl (nl J2 (wx fun _ J5=>sq fun _ J6=>RS.mvI rfl ?_)));refine RS.oq ?_;refine RS.mvB rfl ?_;replace hE:=Ext.tr (Ext.tr hE x3) x4;refine RS.splite 11 rfl rfl (fun c7=>?_) (fun c7=>?_)
 ·refine RS.nm ?_;refine RS.wt 11 ?_;refine RS.mvI rfl ?_;refine RS.wt 11 ?_;refine RS.oq ?_;refine RS.pk ?_;refine nl J6 ?_;refine C.ife rfl (fun c8=>?_) (fun c8=>?_)
  ·refine sAI rfl (wp_ret ?_);refine rI hE ?_;unfold S.clsS
   (repeat' split)<;>omega
  refine wp_skip (J5 _ _ (wx fun _ J10=>sq fun _ J11=>RS.mvI rfl ?_));refine RS.oq ?_;refine nl J11 ?_;refine C.ife rfl (fun c12=>?_) (fun c12=>?_)
  ·refine sAI rfl (wp_ret ?_);refine rI hE ?_;unfold S.clsS
   (repeat' split)<;>omega
  refine wp_skip (J10 _ _ (wx fun _ J14=>sq fun _ J15=>RS.mvI rfl ?_));refine RS.ol ?_;refine nl J15 (C.ifd rfl (fun c16=>?_) (fun c16=>?_))
  ·refine sAI rfl (wp_ret ?_);refine rI hE ?_;unfold S.clsS
   (repeat' split)<;>omega
  refine wp_skip (J14 _ _ (wx fun _ J18=>sq fun _ J19=>RS.mvI rfl ?_));refine RS.oq ?_;refine nl J19 ?_;refine C.ife rfl (fun c20=>?_) (fun c20=>?_)
  ·refine sAI rfl (wp_ret ?_);refine rI hE ?_;unfold S.clsS
   (repeat' split)<;>omega
  refine wp_skip (J18 _ _ (sAI rfl (wp_ret ?_)));refine rI hE ?_;unfold S.clsS
  (repeat' split)<;>omega
 refine RS.nm ?_;refine RS.skF 11 ?_;refine RS.skF 11 ?_;refine RS.pkf ?_;refine nl J6 ?_;refine C.iff rfl ?_;refine wp_skip (J5 _ _ (wx fun _ J23=>sq fun _ J24=>RS.mvI rfl ?_));refine RS.oq ?_;refine nl J24 ?_;refine C.ife rfl (fun c25=>?_) (fun c25=>?_)
 ·refine sAI rfl (wp_ret ?_);refine rI hE ?_;unfold S.clsS
  (repeat' split)<;>omega
 refine wp_skip (J23 _ _ (wx fun _ J27=>sq fun _ J28=>RS.mvI rfl ?_));refine RS.ol ?_;refine nl J28 (C.ifd rfl (fun c29=>?_) (fun c29=>?_))
 ·refine sAI rfl (wp_ret ?_);refine rI hE ?_;unfold S.clsS
  (repeat' split)<;>omega
 refine wp_skip (J27 _ _ (wx fun _ J31=>sq fun _ J32=>RS.mvI rfl ?_));refine RS.oq ?_;refine nl J32 ?_;refine C.ife rfl (fun c33=>?_) (fun c33=>?_)
 ·refine sAI rfl (wp_ret ?_);refine rI hE ?_;unfold S.clsS
  (repeat' split)<;>omega
 refine wp_skip (J31 _ _ (sAI rfl (wp_ret ?_)));refine rI hE ?_;unfold S.clsS
 (repeat' split)<;>omega
theorem canonV(b:Int)(hb:0≤b∧b<18446744073709551616)(w:World):
  Calls prog 218 #[.int .u64 b] w (Ret w fun v _=>v= .int .u64 (S.canS b)):=by
 refine eE 6 func218 rfl rfl fun hE=>?_
 refine sAI rfl (wx fun _ J2=>sq fun _ J3=>RS.mvI rfl ?_);refine RS.call E226 (classV _ (by omega) _) rfl (fun v4 w4 x4 A4=>?_);subst A4;refine RS.nm ?_;refine RS.oq ?_;refine nl J3 ?_;replace hE:=Ext.tr hE x4;refine C.ife rfl (fun c5=>?_) (fun c5=>?_)
 ·refine sAI rfl (wp_ret ?_);refine rI hE ?_;unfold S.canS;split<;>omega
 refine wp_skip (J2 _ _ (sq fun _ J7=>RS.mvI rfl (RS.asI rfl (nl J7 (wp_ret ?_)))));refine rI hE ?_;unfold S.canS;split<;>omega
theorem canonR(b:Int)(hb:0≤b∧b<18446744073709551616)(w:World):
  Calls prog 177 #[.int .u64 b] w (Ret w fun v _=>v= .int .u64 (S.canS b)):=by
 refine eE 6 func177 rfl rfl fun hE=>?_
 refine sAI rfl (wx fun _ J2=>sq fun _ J3=>RS.mvI rfl ?_);refine RS.call E207 (classR _ (by omega) _) rfl (fun v4 w4 x4 A4=>?_);subst A4;refine RS.nm ?_;refine RS.oq ?_;refine nl J3 ?_;replace hE:=Ext.tr hE x4;refine C.ife rfl (fun c5=>?_) (fun c5=>?_)
 ·refine sAI rfl (wp_ret ?_);refine rI hE ?_;unfold S.canS;split<;>omega
 refine wp_skip (J2 _ _ (sq fun _ J7=>RS.mvI rfl (RS.asI rfl (nl J7 (wp_ret ?_)))));refine rI hE ?_;unfold S.canS;split<;>omega
theorem numberV(n:Int)(w:World):
  Calls prog 198 #[.int .i64 n] w (Ret w fun v _=>v= .agg ([.int .u8 1, .int .i64 n, .int .u64 0, .string .empty]:List Value).toArray):=by
 refine eE 4 func198 rfl rfl fun hE=>?_
 refine sq fun _ J1=>?_
 refine RS.alloc T28 (fun b2 w2 e2 s2 x2 B2=>?_);refine RS.nm ?_;refine nl J1 (sq fun _ J3=>?_);refine RS.mvI rfl ?_;refine RS.o (D.buildS T28 F28 (ps:=[(0, .int _ _),(1, .int _ _)]) rfl rfl) ?_;refine RS.sa C28 B2 (fun w4 y4 N4=>?_);replace B2:=N4;refine nl J3 (wp_ret ?_);refine retA V28 C28 B2 4 ?_;replace hE:=(Ext.tr hE x2).trans y4.belo;exact⟨_,rfl,hE,rfl⟩
theorem floatV(b:Int)(hb:0≤b∧b<18446744073709551616)(w:World):
  Calls prog 199 #[.int .u64 b] w (Ret w fun v _=>v= .agg ([.int .u8 2, .int .i64 0, .int .u64 (S.canS b), .string .empty]:List Value).toArray):=by
 refine eE 5 func199 rfl rfl fun hE=>?_
 refine sq fun _ J1=>?_
 refine RS.alloc T28 (fun b2 w2 e2 s2 x2 B2=>?_);refine RS.nm ?_;refine nl J1 (sq fun _ J3=>?_);refine RS.mvI rfl ?_;refine RS.call E218 (canonV _ (by omega) _) rfl (fun v4 w4 x4 A4=>?_);subst A4;refine RS.nm ?_;refine RS.o (D.buildS T28 F28 (ps:=[(0, .int _ _),(2, .int _ _)]) rfl rfl) ?_;replace B2:=B2.ext x4;refine RS.sa C28 B2 (fun w5 y5 N5=>?_);replace B2:=N5;refine nl J3 (wp_ret ?_);refine retA V28 C28 B2 4 ?_;replace hE:=(Ext.tr (Ext.tr hE x2) x4).trans y5.belo;exact⟨_,rfl,hE,rfl⟩
theorem textV(s:ByteArray)(w:World):
  Calls prog 200 #[.string s] w (Ret w fun v _=>∃k2 t2 e2,v= .tuple #[.agg ([.int .u8 k2, .int .i64 0, .int .u64 0, .string t2]:List Value).toArray, .int .i64 e2]∧((S.TextOk s∧k2=3∧t2=s∧e2=0)∨(¬S.TextOk s∧k2=0∧t2=ByteArray.empty))):=by
 refine eE 13 func200 rfl rfl fun hE=>?_
 refine sq fun _ J1=>?_
 refine RS.alloc T28 (fun b2 w2 e2 s2 x2 B2=>?_);refine RS.nm ?_;refine RS.asI rfl (nl J1 (wx fun _ J3=>sq fun _ J4=>?_));refine RS.move (v:= .string _) rfl ?_;refine RS.o (D.lenStr rfl V9) ?_;refine RS.og ?_;refine nl J4 ?_;replace hE:=Ext.tr hE x2;refine C.ifd rfl (fun c5=>?_) (fun c5=>?_)
 ·have h1:=c5;refine sq fun _ J6=>?_
  refine RS.o (D.buildS T28 F28 (ps:=[]) rfl rfl) ?_;refine RS.sa C28 B2 (fun w7 y7 N7=>?_);replace B2:=N7;refine RS.asI rfl (nl J6 (wp_ret ?_));refine retAI V28 C28 B2 4 ?_;replace hE:=hE.trans y7.belo;exact⟨_,rfl,hE,_,_,_,rfl, .inr ⟨fun h=>by have:=h.1;omega,rfl,rfl⟩⟩
 have h1:=c5;refine wp_skip (J3 _ _ (wx fun _ J8=>sq fun _ J9=>?_));refine RS.move (v:= .string _) rfl ?_;refine RS.call E201 (Index32 _ _) rfl (fun v10 w10 x10 A10=>?_);obtain⟨j,rfl,hj⟩:=A10;refine RS.nm ?_;refine RS.oe ?_;refine nl J9 ?_;replace hE:=Ext.tr hE x10;replace B2:=B2.ext x10;refine C.ifd rfl (fun c11=>?_) (fun c11=>?_)
 ·have h2:=c11;refine sq fun _ J12=>?_
  refine RS.o (D.buildS T28 F28 (ps:=[]) rfl rfl) ?_;refine RS.sa C28 B2 (fun w13 y13 N13=>?_);replace B2:=N13;refine RS.asI rfl (nl J12 (wp_ret ?_));refine retAI V28 C28 B2 4 ?_;replace hE:=hE.trans y13.belo;exact⟨_,rfl,hE,_,_,_,rfl, .inr ⟨fun h=>by have:=hj.2 h.2;omega,rfl,rfl⟩⟩
 have h2:=c11;refine wp_skip (J8 _ _ (sq fun _ J14=>?_));refine RS.move (v:= .string _) rfl ?_;refine RS.o (D.buildS T28 F28 (ps:=[(0, .int _ _),(3, .string _)]) rfl rfl) ?_;refine RS.sa C28 B2 (fun w15 y15 N15=>?_);replace B2:=N15;refine RS.asI rfl (nl J14 (wp_ret ?_));refine retAI V28 C28 B2 4 ?_;replace hE:=hE.trans y15.belo;exact⟨_,rfl,hE,_,_,_,rfl, .inl ⟨⟨by omega,hj.1 (by omega)⟩,rfl,rfl,rfl⟩⟩
theorem C2:prog.cellsOf 2=1:=by kernel_rfl
theorem C9:prog.cellsOf 9=1:=by kernel_rfl
theorem C26:prog.cellsOf 26=1:=by kernel_rfl
theorem E123:Enters prog 123:= .mk func123 (by kernel_rfl) rfl
theorem E162:Enters prog 162:= .mk func162 (by kernel_rfl) rfl
theorem E163:Enters prog 163:= .mk func163 (by kernel_rfl) rfl
theorem E177:Enters prog 177:= .mk func177 (by kernel_rfl) rfl
theorem E178:Enters prog 178:= .mk func178 (by kernel_rfl) rfl
theorem E198:Enters prog 198:= .mk func198 (by kernel_rfl) rfl
theorem E199:Enters prog 199:= .mk func199 (by kernel_rfl) rfl
theorem E200:Enters prog 200:= .mk func200 (by kernel_rfl) rfl
theorem checkV(k num bits:Int)(t:ByteArray)(hk:0≤k∧k<256)(hnum: -9223372036854775808≤num∧num≤9223372036854775807)(hb:0≤bits∧bits<18446744073709551616)(w:World):
  Calls prog 162 #[.agg ([.int .u8 k, .int .i64 num, .int .u64 bits, .string t]:List Value).toArray] w (Ret w fun v _=>v= .int .i64 (S.valE k num bits t)):=by
 refine eE 31 func162 rfl rfl fun hE=>?_
 refine sq fun _ J1=>?_
 refine RS.box rfl rfl (fun b2 w2 e2 s2 x2 B2=>?_);refine RS.nm ?_;refine RS.asI rfl ?_;refine nl J1 (sq fun _ J3=>?_);refine RS.alloc T28 (fun b4 w4 e4 s4 x4 B4=>?_);refine RS.nm ?_;refine nl J3 (wx fun _ J5=>sq fun _ J6=>?_);refine RS.fl 0 V28 rfl C5 ?_;replace B2:=B2.ext x4;refine RS.ld V5 B2 ?_;refine nl J6 (wp_block (sq fun _ J7=>?_));refine RS.oq ?_;refine RS.asB rfl (nl J7 ?_);replace hE:=Ext.tr (Ext.tr hE x2) x4;refine C.ife rfl (fun c8=>?_) (fun c8=>?_)
 ·refine region ?_;refine RS.fl 1 V28 rfl C2 ?_;refine RS.ld V2 B2 ?_;refine RS.call E198 (numberV _ _) rfl (fun v9 w9 x9 A9=>?_);subst A9;refine RS.nm ?_;replace B4:=B4.ext x9;refine RS.sa C28 B4 (fun w10 y10 N10=>?_);replace B4:=N10;refine nl J5 (wx fun _ J11=>sq fun _ J12=>?_);replace B2:=(B2.ext x9).sto y10;refine RS.la V28 C28 B2 4 ?_;refine RS.la V28 C28 B4 4 ?_;refine RS.o (D.neA rfl rfl V28 rfl (by kernel_rfl) (by kernel_rfl) (by kernel_rfl)) ?_;refine RS.mvB rfl ?_;replace hE:=(Ext.tr hE x9).trans y10.belo;refine RS.splitb 27 rfl rfl (fun c13=>?_) (fun c13=>?_)
  ·refine RS.nm ?_;have hq:=of_decide_eq_false ((S.eqV _ _ _ _ _ _ _ _).symm.trans (Eq.mp (Bool.not_eq_true' _) c13));refine RS.skT 27 ?_;refine RS.skT 27 ?_;refine RS.skT 27 ?_;refine RS.pkt ?_;refine nl J12 ?_;refine C.ift rfl ?_;refine sAI rfl (wp_ret ?_);refine rI hE ?_;refine S.valE_neg ?_;grind [S.FineV,S.TextOk]
  refine RS.nm ?_;have hq:=of_decide_eq_true ((S.eqV _ _ _ _ _ _ _ _).symm.trans (Eq.mp (Bool.not_eq_false' _) c13));refine RS.wt 27 ?_;refine RS.fl 0 V28 rfl C5 ?_;refine RS.wt 27 ?_;refine RS.ld V5 B2 ?_;refine RS.wt 27 ?_;refine RS.oq ?_;refine RS.pk ?_;refine nl J12 ?_;refine C.ife rfl (fun c15=>?_) (fun c15=>?_)
  ·refine sAI rfl (wp_ret ?_);refine rI hE ?_;refine S.valE_neg ?_;grind [S.FineV,S.TextOk]
  refine wp_skip (J11 _ _ (sAI rfl (wp_ret ?_)));refine rI hE ?_;refine S.valE_pos ?_;grind [S.FineV,S.TextOk]
 refine wx fun _ J18=>region ?_;refine RS.oq ?_;refine RS.asB rfl (nl J18 ?_);refine C.ife rfl (fun c19=>?_) (fun c19=>?_)
 ·refine region ?_;refine RS.fl 2 V28 rfl C26 ?_;refine RS.ld V26 B2 ?_;refine RS.call E199 (floatV _ (by omega) _) rfl (fun v20 w20 x20 A20=>?_);subst A20;refine RS.nm ?_;replace B4:=B4.ext x20;refine RS.sa C28 B4 (fun w21 y21 N21=>?_);replace B4:=N21;refine nl J5 (wx fun _ J22=>sq fun _ J23=>?_);replace B2:=(B2.ext x20).sto y21;refine RS.la V28 C28 B2 4 ?_;refine RS.la V28 C28 B4 4 ?_;refine RS.o (D.neA rfl rfl V28 rfl (by kernel_rfl) (by kernel_rfl) (by kernel_rfl)) ?_;refine RS.mvB rfl ?_;replace hE:=(Ext.tr hE x20).trans y21.belo;refine RS.splitb 27 rfl rfl (fun c24=>?_) (fun c24=>?_)
  ·refine RS.nm ?_;have hq:=of_decide_eq_false ((S.eqV _ _ _ _ _ _ _ _).symm.trans (Eq.mp (Bool.not_eq_true' _) c24));refine RS.skT 27 ?_;refine RS.skT 27 ?_;refine RS.skT 27 ?_;refine RS.pkt ?_;refine nl J23 ?_;refine C.ift rfl ?_;refine sAI rfl (wp_ret ?_);refine rI hE ?_;refine S.valE_neg ?_;grind [S.FineV,S.TextOk]
  refine RS.nm ?_;have hq:=of_decide_eq_true ((S.eqV _ _ _ _ _ _ _ _).symm.trans (Eq.mp (Bool.not_eq_false' _) c24));refine RS.wt 27 ?_;refine RS.fl 0 V28 rfl C5 ?_;refine RS.wt 27 ?_;refine RS.ld V5 B2 ?_;refine RS.wt 27 ?_;refine RS.oq ?_;refine RS.pk ?_;refine nl J23 ?_;refine C.ife rfl (fun c26=>?_) (fun c26=>?_)
  ·refine sAI rfl (wp_ret ?_);refine rI hE ?_;refine S.valE_neg ?_;grind [S.FineV,S.TextOk]
  refine wp_skip (J22 _ _ (sAI rfl (wp_ret ?_)));refine rI hE ?_;refine S.valE_pos ?_;grind [S.FineV,S.TextOk]
 refine wx fun _ J29=>region ?_;refine RS.oq ?_;refine RS.asB rfl (nl J29 ?_);refine C.ife rfl (fun c30=>?_) (fun c30=>?_)
 ·refine region ?_;refine RS.fl 3 V28 rfl C9 ?_;refine RS.ld V9 B2 ?_;refine RS.call E200 (textV _ _) rfl (fun v31 w31 x31 A31=>?_);obtain⟨k2,t2,e2,rfl,hT⟩:=A31;refine RS.nm ?_;refine RS.move (v:= .tuple _) rfl ?_;refine RS.exA ?_;refine RS.exI ?_;replace B4:=B4.ext x31;refine RS.sa C28 B4 (fun w32 y32 N32=>?_);replace B4:=N32;refine nl J5 (wx fun _ J33=>sq fun _ J34=>?_);replace B2:=(B2.ext x31).sto y32;refine RS.la V28 C28 B2 4 ?_;refine RS.la V28 C28 B4 4 ?_;refine RS.o (D.neA rfl rfl V28 rfl (by kernel_rfl) (by kernel_rfl) (by kernel_rfl)) ?_;refine RS.mvB rfl ?_;replace hE:=(Ext.tr hE x31).trans y32.belo;refine RS.splitb 27 rfl rfl (fun c35=>?_) (fun c35=>?_)
  ·refine RS.nm ?_;have hq:=of_decide_eq_false ((S.eqV _ _ _ _ _ _ _ _).symm.trans (Eq.mp (Bool.not_eq_true' _) c35));refine RS.skT 27 ?_;refine RS.skT 27 ?_;refine RS.skT 27 ?_;refine RS.pkt ?_;refine nl J34 ?_;refine C.ift rfl ?_;refine sAI rfl (wp_ret ?_);refine rI hE ?_;refine S.valE_neg ?_;grind [S.FineV,S.TextOk]
  refine RS.nm ?_;have hq:=of_decide_eq_true ((S.eqV _ _ _ _ _ _ _ _).symm.trans (Eq.mp (Bool.not_eq_false' _) c35));refine RS.wt 27 ?_;refine RS.fl 0 V28 rfl C5 ?_;refine RS.wt 27 ?_;refine RS.ld V5 B2 ?_;refine RS.wt 27 ?_;refine RS.oq ?_;refine RS.pk ?_;refine nl J34 ?_;refine C.ife rfl (fun c37=>?_) (fun c37=>?_)
  ·refine sAI rfl (wp_ret ?_);refine rI hE ?_;refine S.valE_neg ?_;grind [S.FineV,S.TextOk]
  refine wp_skip (J33 _ _ (sAI rfl (wp_ret ?_)));refine rI hE ?_;refine S.valE_pos ?_;grind [S.FineV,S.TextOk]
 refine wp_skip (J5 _ _ (wx fun _ J40=>sq fun _ J41=>?_));refine RS.la V28 C28 B2 4 ?_;refine RS.la V28 C28 B4 4 ?_;refine RS.o (D.neA rfl rfl V28 rfl (by kernel_rfl) (by kernel_rfl) (by kernel_rfl)) ?_;refine RS.mvB rfl ?_;refine RS.splitb 27 rfl rfl (fun c42=>?_) (fun c42=>?_)
 ·refine RS.nm ?_;have hq:=of_decide_eq_false ((S.eqV _ _ _ _ _ _ _ _).symm.trans (Eq.mp (Bool.not_eq_true' _) c42));refine RS.skT 27 ?_;refine RS.skT 27 ?_;refine RS.skT 27 ?_;refine RS.pkt ?_;refine nl J41 ?_;refine C.ift rfl ?_;refine sAI rfl (wp_ret ?_);refine rI hE ?_;refine S.valE_neg ?_;grind [S.FineV,S.TextOk]
 refine RS.nm ?_;have hq:=of_decide_eq_true ((S.eqV _ _ _ _ _ _ _ _).symm.trans (Eq.mp (Bool.not_eq_false' _) c42));refine RS.wt 27 ?_;refine RS.fl 0 V28 rfl C5 ?_;refine RS.wt 27 ?_;refine RS.ld V5 B2 ?_;refine RS.wt 27 ?_;refine RS.oq ?_;refine RS.pk ?_;refine nl J41 ?_;refine C.ife rfl (fun c44=>?_) (fun c44=>?_)
 ·refine sAI rfl (wp_ret ?_);refine rI hE ?_;refine S.valE_neg ?_;grind [S.FineV,S.TextOk]
 refine wp_skip (J40 _ _ (sAI rfl (wp_ret ?_)));refine rI hE ?_;refine S.valE_pos ?_;grind [S.FineV,S.TextOk]
theorem checkR(k num bits:Int)(t:ByteArray)(hk:0≤k∧k<256)(hnum: -9223372036854775808≤num∧num≤9223372036854775807)(hb:0≤bits∧bits<18446744073709551616)(hs:t.size≤1000000)(w:World):
  Calls prog 151 #[.agg ([.int .u8 k, .int .i64 num, .int .u64 bits, .string t]:List Value).toArray] w (Ret w fun v _=>v= .int .i64 (S.valE k num bits t)):=by
 refine eE 53 func151 rfl rfl fun hE=>?_
 refine sq fun _ J1=>?_
 refine RS.box rfl rfl (fun b2 w2 e2 s2 x2 B2=>?_);refine RS.nm ?_;refine RS.asI rfl (nl J1 (wx fun _ J3=>sq fun _ J4=>?_));refine RS.fl 0 V28 rfl C5 ?_;refine RS.ld V5 B2 ?_;refine nl J4 (wp_block (sq fun _ J5=>?_));refine RS.oq ?_;refine RS.asB rfl (nl J5 ?_);replace hE:=Ext.tr hE x2;refine C.ife rfl (fun c6=>?_) (fun c6=>?_)
 ·refine wx fun _ J7=>region ?_;refine RS.fl 2 V28 rfl C26 ?_;refine RS.ld V26 B2 ?_;refine RS.oq ?_;refine RS.mvB rfl ?_;refine RS.splite 10 rfl rfl (fun c8=>?_) (fun c8=>?_)
  ·refine RS.nm ?_;refine RS.wt 10 ?_;refine RS.fl 3 V28 rfl C9 ?_;refine RS.wt 10 ?_;refine RS.ld V9 B2 ?_;refine RS.wt 10 ?_;refine RS.o (D.seq rfl rfl) ?_;refine RS.pk ?_;refine nl J7 ?_;refine C.ifb rfl (fun c9=>?_) (fun c9=>?_)
   ·have ht1:t=ByteArray.empty:=of_decide_eq_true ((strEq _ _).symm.trans c9);refine sAI rfl (wp_ret ?_);refine rI hE ?_;refine S.valE_pos ?_;grind [S.FineV,S.TextOk]
   have ht1:t≠ByteArray.empty:=of_decide_eq_false ((strEq _ _).symm.trans c9);refine wp_skip (J3 _ _ (sAI rfl (wp_ret ?_)));refine rI hE ?_;refine S.valE_neg ?_;grind [S.FineV,S.TextOk]
  refine RS.nm ?_;refine RS.skF 10 ?_;refine RS.skF 10 ?_;refine RS.skF 10 ?_;refine RS.pkf ?_;refine nl J7 ?_;refine C.iff rfl ?_;refine wp_skip (J3 _ _ (sAI rfl (wp_ret ?_)));refine rI hE ?_;refine S.valE_neg ?_;grind [S.FineV,S.TextOk]
 refine wx fun _ J13=>region ?_;refine RS.oq ?_;refine RS.asB rfl (nl J13 ?_);refine C.ife rfl (fun c14=>?_) (fun c14=>?_)
 ·refine wx fun _ J15=>?_
  refine regionX Ext [(0, .q),(1, .q),(2, .q),(3, .q),(4, .q),(5, .q),(6, .q),(7, .q),(8, .q),(9, .q),(10, .q),(12, .q),(13, .q),(11, .e),(14, .q),(15, .q)] mixed Ext.refl (fun h k=>h.tr k) (by kernel_rfl) (fun w16 x16=>?_);refine RX.fl 1 V28 rfl C2 ?_;replace B2:=B2.ext x16;refine RX.o (fun w' hw=>D.load rfl V2 rfl ((B2.ext hw).cell rfl)) ?_;refine RX.o (fun w' hw=>D.eq rfl rfl) ?_;refine RX.mvB rfl ?_;replace hE:=Ext.tr hE x16;refine RX.splite 20 rfl rfl (fun c17=>?_) (fun c17=>?_)
  ·refine RX.nm ?_;refine RX.wt 20 ?_;refine RX.fl 3 V28 rfl C9 ?_;refine RX.wt 20 ?_;refine RX.o (fun w' hw=>D.load rfl V9 rfl ((B2.ext hw).cell rfl)) ?_;refine RX.wt 20 ?_;refine RX.o (fun w' hw=>D.seq rfl rfl) ?_;refine RX.pick (v:= .bool _) rfl rfl ?_;refine RX.mvB rfl ?_;refine RX.splitb 25 rfl rfl (fun c18=>?_) (fun c18=>?_)
   ·refine RX.nm ?_;have ht2:t=ByteArray.empty:=of_decide_eq_true ((strEq _ _).symm.trans c18);refine RX.wt 25 ?_;refine RX.fl 2 V28 rfl C26 ?_;refine RX.wt 25 ?_;refine RX.o (fun w' hw=>D.load rfl V26 rfl ((B2.ext hw).cell rfl)) ?_;refine RX.wt 25 ?_;refine RX.fl 2 V28 rfl C26 ?_;refine RX.wt 25 ?_;refine RX.o (fun w' hw=>D.load rfl V26 rfl ((B2.ext hw).cell rfl)) ?_;refine RX.wt 25 ?_;refine RX.eff ?_;refine RS.call E177 (canonR _ (by omega) _) rfl (fun v19 w19 x19 A19=>?_);subst A19;refine RS.nm ?_;refine RS.nil ⟨x19,?_⟩;refine RX.wt 25 ?_;refine RX.o (fun w' hw=>D.eq rfl rfl) ?_;refine RX.pick (v:= .bool _) rfl rfl ?_;refine RX.nil (J15 _ _ ?_);replace hE:=Ext.tr hE x19;refine C.ife rfl (fun c20=>?_) (fun c20=>?_)
    ·refine sAI rfl (wp_ret ?_);refine rI hE ?_;refine S.valE_pos ?_;grind [S.FineV,S.TextOk]
    refine wp_skip (J3 _ _ (sAI rfl (wp_ret ?_)));refine rI hE ?_;refine S.valE_neg ?_;grind [S.FineV,S.TextOk]
   refine RX.nm ?_;have ht2:t≠ByteArray.empty:=of_decide_eq_false ((strEq _ _).symm.trans c18);refine RX.skF 25 ?_;refine RX.skF 25 ?_;refine RX.skF 25 ?_;refine RX.skF 25 ?_;refine RX.skF 25 ?_;refine RX.skF 25 ?_;refine RX.pick (v:= .bool false) rfl rfl ?_;refine RX.nil (J15 _ _ ?_);refine C.iff rfl ?_;refine wp_skip (J3 _ _ (sAI rfl (wp_ret ?_)));refine rI hE ?_;refine S.valE_neg ?_;grind [S.FineV,S.TextOk]
  refine RX.nm ?_;refine RX.skF 20 ?_;refine RX.skF 20 ?_;refine RX.skF 20 ?_;refine RX.pick (v:= .bool false) rfl rfl ?_;refine RX.mvB rfl ?_;refine RX.skF 25 ?_;refine RX.skF 25 ?_;refine RX.skF 25 ?_;refine RX.skF 25 ?_;refine RX.skF 25 ?_;refine RX.skF 25 ?_;refine RX.pick (v:= .bool false) rfl rfl ?_;refine RX.nil (J15 _ _ ?_);refine C.iff rfl ?_;refine wp_skip (J3 _ _ (sAI rfl (wp_ret ?_)));refine rI hE ?_;refine S.valE_neg ?_;grind [S.FineV,S.TextOk]
 refine wx fun _ J25=>region ?_;refine RS.oq ?_;refine RS.asB rfl (nl J25 ?_);refine C.ife rfl (fun c26=>?_) (fun c26=>?_)
 ·refine wx fun _ J27=>region ?_;refine RS.fl 1 V28 rfl C2 ?_;refine RS.ld V2 B2 ?_;refine RS.oq ?_;refine RS.mvB rfl ?_;refine RS.splite 38 rfl rfl (fun c28=>?_) (fun c28=>?_)
  ·refine RS.nm ?_;refine RS.wt 38 ?_;refine RS.fl 2 V28 rfl C26 ?_;refine RS.wt 38 ?_;refine RS.ld V26 B2 ?_;refine RS.wt 38 ?_;refine RS.oq ?_;refine RS.pk ?_;refine RS.mvB rfl ?_;refine RS.splite 43 rfl rfl (fun c29=>?_) (fun c29=>?_)
   ·refine RS.nm ?_;refine RS.wt 43 ?_;refine RS.fl 3 V28 rfl C9 ?_;refine RS.wt 43 ?_;refine RS.ld V9 B2 ?_;refine RS.wt 43 ?_;refine RS.o (D.lenStr rfl V9) ?_;refine RS.wt 43 ?_;refine RS.o (D.le rfl rfl) ?_;refine RS.pk ?_;refine RS.mvB rfl ?_;refine RS.splitd 49 rfl rfl (fun c30=>?_) (fun c30=>?_)
    ·refine RS.nm ?_;refine RS.wt 49 ?_;refine RS.fl 3 V28 rfl C9 ?_;refine RS.wt 49 ?_;refine RS.ld V9 B2 ?_;refine RS.wt 49 ?_;refine RS.call E178 (printable _ hs _) rfl (fun v31 w31 x31 A31=>?_);subst A31;refine RS.nm ?_;refine RS.pk ?_;refine nl J27 ?_;replace hE:=Ext.tr hE x31;refine C.ifb rfl (fun c32=>?_) (fun c32=>?_)
     ·have hp:=of_decide_eq_true c32;refine sAI rfl (wp_ret ?_);refine rI hE ?_;refine S.valE_pos ?_;grind [S.FineV,S.TextOk]
     have hp:=of_decide_eq_false c32;refine wp_skip (J3 _ _ (sAI rfl (wp_ret ?_)));refine rI hE ?_;refine S.valE_neg ?_;grind [S.FineV,S.TextOk]
    refine RS.nm ?_;refine RS.skF 49 ?_;refine RS.skF 49 ?_;refine RS.skF 49 ?_;refine RS.pkf ?_;refine nl J27 ?_;refine C.iff rfl ?_;refine wp_skip (J3 _ _ (sAI rfl (wp_ret ?_)));refine rI hE ?_;refine S.valE_neg ?_;grind [S.FineV,S.TextOk]
   refine RS.nm ?_;refine RS.skF 43 ?_;refine RS.skF 43 ?_;refine RS.skF 43 ?_;refine RS.skF 43 ?_;refine RS.pkf ?_;refine RS.mvB rfl ?_;refine RS.skF 49 ?_;refine RS.skF 49 ?_;refine RS.skF 49 ?_;refine RS.pkf ?_;refine nl J27 ?_;refine C.iff rfl ?_;refine wp_skip (J3 _ _ (sAI rfl (wp_ret ?_)));refine rI hE ?_;refine S.valE_neg ?_;grind [S.FineV,S.TextOk]
  refine RS.nm ?_;refine RS.skF 38 ?_;refine RS.skF 38 ?_;refine RS.skF 38 ?_;refine RS.pkf ?_;refine RS.mvB rfl ?_;refine RS.skF 43 ?_;refine RS.skF 43 ?_;refine RS.skF 43 ?_;refine RS.skF 43 ?_;refine RS.pkf ?_;refine RS.mvB rfl ?_;refine RS.skF 49 ?_;refine RS.skF 49 ?_;refine RS.skF 49 ?_;refine RS.pkf ?_;refine nl J27 ?_;refine C.iff rfl ?_;refine wp_skip (J3 _ _ (sAI rfl (wp_ret ?_)));refine rI hE ?_;refine S.valE_neg ?_;grind [S.FineV,S.TextOk]
 refine wp_skip (J3 _ _ (sAI rfl (wp_ret ?_)));refine rI hE ?_;refine S.valE_neg ?_;grind [S.FineV,S.TextOk]
theorem encV(k num bits:Int)(t:ByteArray)(hk:0≤k∧k<256)(hnum: -9223372036854775808≤num∧num≤9223372036854775807)(hb:0≤bits∧bits<18446744073709551616)(hF:S.FineV k num bits t)(hs:t.size≤1000)(w:World):
  Calls prog 124 #[.agg ([.int .u8 k, .int .i64 num, .int .u64 bits, .string t]:List Value).toArray] w (Ret w fun v w'=>∃a' n' c',v= .tuple #[.slice a' n' c', .int .i64 0]∧IOwn w.heap.size w' 5 .u8 a' n' c' (S.valS k num bits t)):=by
 have hk3:k=1∨k=2∨k=3:=by rcases hF with h|h|h<;>simp[h.1]
 refine eE 52 func124 rfl rfl fun hE=>?_
 refine sq fun _ J1=>?_
 refine RS.box rfl rfl (fun b2 w2 e2 s2 x2 B2=>?_);refine RS.nm ?_;refine RS.asS rfl (RS.asI rfl (nl J1 (wx fun _ J3=>sq fun _ J4=>?_)));refine RS.la V28 C28 B2 4 ?_;refine RS.call E162 (checkV _ _ _ _ hk hnum hb _) rfl (fun v5 w5 x5 A5=>?_);have zw5:=x5.size;subst A5;rw[←S.valE_pos hF];refine RS.nm ?_;refine RS.asI rfl ?_;refine nl J4 (sq fun _ J6=>?_);refine RS.mvI rfl ?_;refine RS.on ?_;refine nl J6 (C.ifn rfl (fun c7=>?_) (fun c7=>?_))
 ·exact absurd rfl c7
 refine wp_skip (J3 _ _ (sq fun _ J8=>?_));refine RS.fl 0 V28 rfl C5 ?_;replace B2:=B2.ext x5;refine RS.ld V5 B2 ?_;refine RS.bs1 V42 T5 (fun b9 w9 e9 s9 x9 B9=>?_);refine RS.nm ?_;have O1:IOwn w5.heap.size w9 5 .u8 (some ⟨b9,0,none⟩) 1 1 [_]:=IOwn.of_blk B9 rfl rfl (by omega) (.cons (by simp only[lim];omega) (.nil _)) (by decide);refine RS.asS rfl (nl J8 (wx fun _ J10=>sq fun _ J11=>?_));refine RS.fl 0 V28 rfl C5 ?_;replace B2:=B2.ext x9;refine RS.ld V5 B2 ?_;refine nl J11 (wp_block (sq fun _ J12=>?_));refine RS.oq ?_;refine RS.asB rfl (nl J12 ?_);replace hE:=Ext.tr (Ext.tr (Ext.tr hE x2) x5) x9;refine C.ife rfl (fun c13=>?_) (fun c13=>?_)
 ·refine region (RS.mvS rfl ?_);refine RS.fl 1 V28 rfl C2 ?_;refine RS.ld V2 B2 ?_;refine RS.call E163 (signedW _ hnum _) rfl (fun v14 w14 x14 A14=>?_);have zw14:=x14.size;obtain⟨a14,n14,c14,rfl,O2⟩:=A14;have hnl:=O2.len;have hnb:=S.numS_len (S.zig num);refine RS.nm ?_;replace O1:=O1.ext x14;refine RS.appendI O1 O2.row rfl rfl V42 T5 rfl (by omega) (by decide) (by omega) (fun a15 c15 w15 N15 x15=>?_);refine RS.nm ?_;replace hE:=Ext.tr hE x14;replace hE:=hE.trans (x15.belQ (fun _ h=>(O1.lo _ h).1));replace B2:=B2.ext x14;replace B2:=B2.prQ x15 (fun _ h=>(O1.lo _ h).1);replace O1:=N15;refine RS.asS rfl ?_;refine nl J10 (sq fun _ J16=>?_);refine RS.mvS rfl (RS.asS rfl (RS.asI rfl (nl J16 (wp_ret ?_))));refine retSI ?_;have e9:S.valS k num bits t=[k]++S.numS (S.zig num):=by unfold S.valS;rw[if_pos (by omega)]
  rw[e9];refine⟨_,rfl,hE,_,_,_,rfl,O1.base (fun k hk=>by have:=O1.lo k hk;omega)⟩
 refine wx fun _ J17=>region ?_;refine RS.oq ?_;refine RS.asB rfl (nl J17 ?_);refine C.ife rfl (fun c18=>?_) (fun c18=>?_)
 ·refine sAI rfl (wp_block ?_);refine C.loop (A:=Int×Option Addr×Nat×Nat) (fun p=>[(5, .slice p.2.1 p.2.2.1 p.2.2.2),(6, .int .i64 p.1)]) [28,29,30,31,32,33,34,35,36,37,38,39] (fun p w'=>Pr (fun k=>w5.heap.size≤k) w9 w'∧((-8≤p.1∧p.1≤56)∧p.1 % 8=0∧IOwn w5.heap.size w' 5 .u8 p.2.1 p.2.2.1 p.2.2.2 ([k]++(S.be8 bits).take ((56 - p.1) / 8).toNat))) (fun p=>(p.1+8).toNat) (56,some ⟨b9,0,none⟩,1,1) (by kernel_rfl) ?_ ?_
  ·exact⟨Pr.refl _ _,⟨by dsimp only;omega,by dsimp only;omega⟩,by dsimp only;omega,by simpa using O1⟩
  rintro p j w20 ⟨x20,hI⟩;have zw20:=x20.size;obtain⟨i,ao,no,co⟩:=p;dsimp only at hI;obtain⟨h1,h2,O1⟩:=hI;have hol:=O1.len;simp only[List.length_append,List.length_singleton,List.length_take,S.be8_len]at hol;refine C.nmU ?_;refine wx fun _ J21=>sq fun _ J22=>RS.mvI rfl ?_;refine RS.oe ?_;refine nl J22 ?_;replace hE:=hE.trans x20.belo;refine C.ifd rfl (fun c23=>?_) (fun c23=>?_)
  ·refine wp_skip (J21 _ _ (wx fun _ J24=>wp_block (region (RS.mvS rfl ?_))));refine RS.fl 2 V28 rfl C26 ?_;replace B2:=B2.pro x20;refine RS.ld V26 B2 ?_;refine RS.mvI rfl ?_;refine RS.ob (D.shr_u64 rfl rfl (by omega) (by constructor<;>omega)) (fun z25=>?_);refine RS.o (D.conv rfl V26 V5 (W.u8m _)) ?_;refine RS.bs1 V42 T5 (fun b26 w26 e26 s26 x26 B26=>?_);refine RS.nm ?_;have Q1:IRow .u8 (fun k=>k=b26) w26 (some ⟨b26,0,none⟩) 1 [_]:=IRow.of_blk B26 rfl rfl rfl (.cons (by simp only[lim];omega) (.nil _));replace O1:=O1.ext x26;refine RS.appendI O1 Q1 rfl rfl V42 T5 rfl (by omega) (by decide) (by omega) (fun a27 c27 w27 N27 x27=>?_);refine RS.nm ?_;replace hE:=Ext.tr hE x26;replace hE:=hE.trans (x27.belQ (fun _ h=>(O1.lo _ h).1));replace x20:=x20.ext x26;replace x20:=x20.prnQ x27 (fun _ h=>(O1.lo _ h).1);replace B2:=B2.ext x26;replace B2:=B2.prQ x27 (fun _ h=>(O1.lo _ h).1);replace O1:=N27;refine RS.asS rfl (nl J24 (region (RS.mvI rfl ?_)));refine RS.o (D.sub rfl rfl (W.i64 (by omega))) ?_;refine RS.asI rfl (RS.nil ?_);change Nx _ _ _ _ _ _ _ _;refine C.next (i - 8,_,_,_) ⟨rfl,rfl,trivial⟩ (by kernel_rfl) ?_ ?_
   ·refine⟨x20,⟨by dsimp only;omega,by dsimp only;omega⟩,by dsimp only;omega,?_⟩;dsimp only;rw[S.be8_snoc _ _ (by omega) h2,←List.append_assoc];exact O1
   dsimp only;omega
  have hneg:=c23;rw[show i= -8 by omega,show((56 - (-8:Int)) / 8).toNat=8 from rfl,List.take_of_length_le (by rw[S.be8_len];exact Nat.le_refl _)]at O1;refine wp_exit (J10 _ _ (sq fun _ J28=>RS.mvS rfl (RS.asS rfl (RS.asI rfl (nl J28 (wp_ret ?_))))));refine retSI ?_;have e9:S.valS k num bits t=[k]++S.be8 bits:=by unfold S.valS;rw[if_neg (by omega),if_pos (by omega)]
  rw[e9];refine⟨_,rfl,hE,_,_,_,rfl,O1.base (fun k hk=>by have:=O1.lo k hk;omega)⟩
 refine wx fun _ J29=>region ?_;refine RS.oq ?_;refine RS.asB rfl (nl J29 ?_);refine C.ife rfl (fun c30=>?_) (fun c30=>?_)
 ·refine wx fun _ J31=>region ?_;refine RS.fl 3 V28 rfl C9 ?_;refine RS.ld V9 B2 ?_;refine RS.convSB rfl V9 V42 V5 (fun a32 c32 w32 x32 g32 s32 R32=>?_);refine RS.nm ?_;have RT:=R32;refine RS.call E123 (bytesW _ _ _ _ _ RT (by omega)) rfl (fun v33 w33 x33 A33=>?_);have zw33:=x33.size;obtain⟨a33,n33,c33,rfl,O2⟩:=A33;have hnl:=O2.len;have hnb:=S.numS_len (t.size:Int);rw[List.length_append,bys_len]at hnl;refine RS.nm ?_;refine RS.move (v:= .tuple _) rfl ?_;refine RS.exS ?_;refine RS.exI ?_;refine RS.asS rfl (RS.asI rfl (nl J31 (region (RS.mvS rfl (RS.mvS rfl ?_)))));replace O1:=(O1.ext x32).ext x33;refine RS.appendI O1 O2.row rfl rfl V42 T5 rfl (by omega) (by decide) (by omega) (fun a34 c34 w34 N34 x34=>?_);refine RS.nm ?_;replace hE:=Ext.tr (Ext.tr hE x32) x33;replace hE:=hE.trans (x34.belQ (fun _ h=>(O1.lo _ h).1));replace B2:=(B2.ext x32).ext x33;replace B2:=B2.prQ x34 (fun _ h=>(O1.lo _ h).1);replace O1:=N34;refine RS.asS rfl ?_;refine nl J10 (sq fun _ J35=>?_);refine RS.mvS rfl (RS.asS rfl (RS.asI rfl (nl J35 (wp_ret ?_))));refine retSI ?_;have e9:S.valS k num bits t=[k]++(S.numS t.size++bys t):=by unfold S.valS;rw[if_neg (by omega),if_neg (by omega),if_pos (by omega)]
  rw[e9];refine⟨_,rfl,hE,_,_,_,rfl,O1.base (fun k hk=>by have:=O1.lo k hk;omega)⟩
 exfalso;omega
theorem C30:prog.cellsOf 30=6:=by kernel_rfl
theorem T30:TI prog 30 6 64 [.int .u8 0, .string .empty, .int .u8 0, .int .i64 0, .int .u64 0, .string .empty]:=by
 have h:(prog.info? 30).map (fun i=>(i.size,i.bytes,i.zero))=some (6,64,some (.agg #[.int .u8 0, .string .empty, .int .u8 0, .int .i64 0, .int .u64 0, .string .empty])):=by kernel_rfl
 exact TI.of h rfl
theorem F30:SI prog 30 [(0,1),(1,1),(2,4)]:=⟨_,V30,by kernel_rfl,by kernel_rfl⟩
theorem E150:Enters prog 150:= .mk func150 (by kernel_rfl) rfl
theorem E151:Enters prog 151:= .mk func151 (by kernel_rfl) rfl
theorem E166:Enters prog 166:= .mk func166 (by kernel_rfl) rfl
theorem checkAct(k vk num bits:Int)(ky t:ByteArray)(hk:0≤k∧k<256)(hvk:0≤vk∧vk<256)(hnum: -9223372036854775808≤num∧num≤9223372036854775807)(hb:0≤bits∧bits<18446744073709551616)(hkey:ky.size≤100000)(ht:t.size≤100000)(w:World):
  Calls prog 131 #[.agg ([.int .u8 k, .string ky, .int .u8 vk, .int .i64 num, .int .u64 bits, .string t]:List Value).toArray] w (Ret w fun v _=>v= .int .i64 (S.actE k ky vk num bits t)):=by
 refine eE 35 func131 rfl rfl fun hE=>?_
 refine sq fun _ J1=>?_
 refine RS.box rfl rfl (fun b2 w2 e2 s2 x2 B2=>?_);refine RS.nm ?_;refine RS.asI rfl ?_;refine nl J1 (sq fun _ J3=>?_);refine RS.asB rfl (nl J3 (wx fun _ J4=>sq fun _ J5=>?_));refine RS.fl 0 V30 rfl C5 ?_;refine RS.ld V5 B2 ?_;refine nl J5 (wp_block (sq fun _ J6=>?_));refine RS.oq ?_;refine RS.asB rfl (nl J6 ?_);replace hE:=Ext.tr hE x2;refine C.ife rfl (fun c7=>?_) (fun c7=>?_)
 ·refine region ?_;refine RS.la V30 C30 B2 6 ?_;refine RS.o (D.buildS T30 F30 (ps:=[(0, .int _ _)]) rfl rfl) ?_;refine RS.o (D.eqA rfl rfl V30 rfl (by kernel_rfl) (by kernel_rfl) (by kernel_rfl)) ?_;refine RS.asB rfl (nl J4 (wx fun _ J8=>sq fun _ J9=>RS.mvB rfl ?_));refine RS.o (D.not rfl) ?_;refine nl J9 ?_;refine C.ifnot rfl (fun c10=>?_) (fun c10=>?_)
  ·have hqa:=of_decide_eq_false ((S.eqA6 _ _ _ _ _ _ _ _ _ _ _ _).symm.trans c10);refine sAI rfl (wp_ret ?_);refine rI hE ?_;refine S.actE_neg ?_;grind [S.FineAct,S.valE_zero]
  have hqa:=of_decide_eq_true ((S.eqA6 _ _ _ _ _ _ _ _ _ _ _ _).symm.trans c10);refine wp_skip (J8 _ _ (sAI rfl (wp_ret ?_)));refine rI hE ?_;refine S.actE_pos ?_;grind [S.FineAct,S.valE_zero]
 refine wx fun _ J13=>sq fun _ J14=>?_
 refine RS.oq ?_;refine RS.asB rfl (nl J14 ?_);refine C.ife rfl (fun c15=>?_) (fun c15=>?_)
 ·refine wp_skip (J13 _ _ ?_);refine C.ifb rfl (fun z16=>?_) (fun z16=>?_)
  ·refine region ?_;refine RS.fl 1 V30 rfl C9 ?_;refine RS.ld V9 B2 ?_;refine RS.call E166 (key _ _) rfl (fun v17 w17 x17 A17=>?_);subst A17;refine RS.nm ?_;refine RS.mvB rfl ?_;replace hE:=Ext.tr hE x17;refine RS.splitb 17 rfl rfl (fun c18=>?_) (fun c18=>?_)
   ·refine RS.nm ?_;refine RS.wt 17 ?_;refine RS.fl 2 V30 rfl C28 ?_;refine RS.wt 17 ?_;replace B2:=B2.ext x17;refine RS.la V28 C28 B2 4 ?_;refine RS.wt 17 ?_;refine RS.o (D.buildS T28 F28 (ps:=[]) rfl rfl) ?_;refine RS.wt 17 ?_;refine RS.o (D.eqA rfl rfl V28 rfl (by kernel_rfl) (by kernel_rfl) (by kernel_rfl)) ?_;refine RS.pk ?_;refine RS.asB rfl (nl J4 (wx fun _ J19=>sq fun _ J20=>RS.mvB rfl ?_));refine RS.o (D.not rfl) ?_;refine nl J20 ?_;refine C.ifnot rfl (fun c21=>?_) (fun c21=>?_)
    ·have hqa:=of_decide_eq_false ((S.eqV _ _ _ _ _ _ _ _).symm.trans c21);refine sAI rfl (wp_ret ?_);refine rI hE ?_;refine S.actE_neg ?_;grind [S.FineAct,S.valE_zero]
    have hqa:=of_decide_eq_true ((S.eqV _ _ _ _ _ _ _ _).symm.trans c21);refine wp_skip (J19 _ _ (sAI rfl (wp_ret ?_)));refine rI hE ?_;refine S.actE_pos ?_;grind [S.FineAct,S.valE_zero]
   refine RS.nm ?_;refine RS.skF 17 ?_;refine RS.skF 17 ?_;refine RS.skF 17 ?_;refine RS.skF 17 ?_;refine RS.pkf ?_;refine RS.asB rfl (nl J4 (wx fun _ J24=>sq fun _ J25=>RS.mvB rfl ?_));refine RS.o (D.not rfl) ?_;refine nl J25 ?_;refine C.ifnot rfl (fun c26=>?_) (fun c26=>?_)
   ·have hqa:=c26;refine sAI rfl (wp_ret ?_);refine rI hE ?_;refine S.actE_neg ?_;grind [S.FineAct,S.valE_zero]
   have hqa:=c26;refine wp_skip (J24 _ _ (sAI rfl (wp_ret ?_)));refine rI hE ?_;refine S.actE_pos ?_;grind [S.FineAct,S.valE_zero]
  exact absurd z16 (by first|(simp[c15];done)|(simp_all;done)|omega)
 refine region ?_;refine RS.oq ?_;refine RS.asB rfl (nl J13 ?_);refine C.ife rfl (fun c29=>?_) (fun c29=>?_)
 ·refine region ?_;refine RS.fl 1 V30 rfl C9 ?_;refine RS.ld V9 B2 ?_;refine RS.call E166 (key _ _) rfl (fun v30 w30 x30 A30=>?_);subst A30;refine RS.nm ?_;refine RS.mvB rfl ?_;replace hE:=Ext.tr hE x30;refine RS.splitb 17 rfl rfl (fun c31=>?_) (fun c31=>?_)
  ·refine RS.nm ?_;refine RS.wt 17 ?_;refine RS.fl 2 V30 rfl C28 ?_;refine RS.wt 17 ?_;replace B2:=B2.ext x30;refine RS.la V28 C28 B2 4 ?_;refine RS.wt 17 ?_;refine RS.o (D.buildS T28 F28 (ps:=[]) rfl rfl) ?_;refine RS.wt 17 ?_;refine RS.o (D.eqA rfl rfl V28 rfl (by kernel_rfl) (by kernel_rfl) (by kernel_rfl)) ?_;refine RS.pk ?_;refine RS.asB rfl (nl J4 (wx fun _ J32=>sq fun _ J33=>RS.mvB rfl ?_));refine RS.o (D.not rfl) ?_;refine nl J33 ?_;refine C.ifnot rfl (fun c34=>?_) (fun c34=>?_)
   ·have hqa:=of_decide_eq_false ((S.eqV _ _ _ _ _ _ _ _).symm.trans c34);refine sAI rfl (wp_ret ?_);refine rI hE ?_;refine S.actE_neg ?_;grind [S.FineAct,S.valE_zero]
   have hqa:=of_decide_eq_true ((S.eqV _ _ _ _ _ _ _ _).symm.trans c34);refine wp_skip (J32 _ _ (sAI rfl (wp_ret ?_)));refine rI hE ?_;refine S.actE_pos ?_;grind [S.FineAct,S.valE_zero]
  refine RS.nm ?_;refine RS.skF 17 ?_;refine RS.skF 17 ?_;refine RS.skF 17 ?_;refine RS.skF 17 ?_;refine RS.pkf ?_;refine RS.asB rfl (nl J4 (wx fun _ J37=>sq fun _ J38=>RS.mvB rfl ?_));refine RS.o (D.not rfl) ?_;refine nl J38 ?_;refine C.ifnot rfl (fun c39=>?_) (fun c39=>?_)
  ·have hqa:=c39;refine sAI rfl (wp_ret ?_);refine rI hE ?_;refine S.actE_neg ?_;grind [S.FineAct,S.valE_zero]
  have hqa:=c39;refine wp_skip (J37 _ _ (sAI rfl (wp_ret ?_)));refine rI hE ?_;refine S.actE_pos ?_;grind [S.FineAct,S.valE_zero]
 refine wx fun _ J42=>region ?_;refine RS.oq ?_;refine RS.asB rfl (nl J42 ?_);refine C.ife rfl (fun c43=>?_) (fun c43=>?_)
 ·refine region ?_;refine RS.fl 1 V30 rfl C9 ?_;refine RS.ld V9 B2 ?_;refine RS.call E166 (key _ _) rfl (fun v44 w44 x44 A44=>?_);subst A44;refine RS.nm ?_;refine RS.mvB rfl ?_;replace hE:=Ext.tr hE x44;refine RS.splitb 28 rfl rfl (fun c45=>?_) (fun c45=>?_)
  ·refine RS.nm ?_;refine RS.wt 28 ?_;refine RS.fl 2 V30 rfl C28 ?_;refine RS.wt 28 ?_;replace B2:=B2.ext x44;refine RS.la V28 C28 B2 4 ?_;refine RS.wt 28 ?_;refine RS.call E162 (checkV _ _ _ _ hvk hnum hb _) rfl (fun v46 w46 x46 A46=>?_);subst A46;refine RS.nm ?_;refine RS.wt 28 ?_;refine RS.oq ?_;refine RS.pk ?_;refine RS.asB rfl (nl J4 (wx fun _ J47=>sq fun _ J48=>RS.mvB rfl ?_));refine RS.o (D.not rfl) ?_;refine nl J48 ?_;replace hE:=Ext.tr hE x46;refine C.ifnot rfl (fun c49=>?_) (fun c49=>?_)
   ·have hqa:=of_decide_eq_false c49;refine sAI rfl (wp_ret ?_);refine rI hE ?_;refine S.actE_neg ?_;grind [S.FineAct,S.valE_zero]
   have hqa:=of_decide_eq_true c49;refine wp_skip (J47 _ _ (sAI rfl (wp_ret ?_)));refine rI hE ?_;refine S.actE_pos ?_;grind [S.FineAct,S.valE_zero]
  refine RS.nm ?_;refine RS.skF 28 ?_;refine RS.skF 28 ?_;refine RS.skF 28 ?_;refine RS.skF 28 ?_;refine RS.pkf ?_;refine RS.asB rfl (nl J4 (wx fun _ J52=>sq fun _ J53=>RS.mvB rfl ?_));refine RS.o (D.not rfl) ?_;refine nl J53 ?_;refine C.ifnot rfl (fun c54=>?_) (fun c54=>?_)
  ·have hqa:=c54;refine sAI rfl (wp_ret ?_);refine rI hE ?_;refine S.actE_neg ?_;grind [S.FineAct,S.valE_zero]
  have hqa:=c54;refine wp_skip (J52 _ _ (sAI rfl (wp_ret ?_)));refine rI hE ?_;refine S.actE_pos ?_;grind [S.FineAct,S.valE_zero]
 refine wp_skip (J4 _ _ (wx fun _ J57=>sq fun _ J58=>RS.mvB rfl ?_));refine RS.o (D.not rfl) ?_;refine nl J58 ?_;refine C.ifnot rfl (fun c59=>?_) (fun c59=>?_)
 ·have hqa:=c59;refine sAI rfl (wp_ret ?_);refine rI hE ?_;refine S.actE_neg ?_;grind [S.FineAct,S.valE_zero]
 have hqa:=c59;refine wp_skip (J57 _ _ (sAI rfl (wp_ret ?_)));refine rI hE ?_;refine S.actE_pos ?_;grind [S.FineAct,S.valE_zero]
theorem checkActR(k vk num bits:Int)(ky t:ByteArray)(hk:0≤k∧k<256)(hvk:0≤vk∧vk<256)(hnum: -9223372036854775808≤num∧num≤9223372036854775807)(hb:0≤bits∧bits<18446744073709551616)(hkey:ky.size≤100000)(ht:t.size≤100000)(w:World):
  Calls prog 109 #[.agg ([.int .u8 k, .string ky, .int .u8 vk, .int .i64 num, .int .u64 bits, .string t]:List Value).toArray] w (Ret w fun v _=>v= .int .i64 (S.actE k ky vk num bits t)):=by
 refine eE 37 func109 rfl rfl fun hE=>?_
 refine sq fun _ J1=>?_
 refine RS.box rfl rfl (fun b2 w2 e2 s2 x2 B2=>?_);refine RS.nm ?_;refine RS.asI rfl ?_;refine nl J1 (sq fun _ J3=>?_);refine RS.fl 2 V30 rfl C28 ?_;refine RS.la V28 C28 B2 4 ?_;refine RS.o (D.buildS T28 F28 (ps:=[]) rfl rfl) ?_;refine RS.o (D.eqA rfl rfl V28 rfl (by kernel_rfl) (by kernel_rfl) (by kernel_rfl)) ?_;refine RS.asB rfl (nl J3 (wx fun _ J4=>sq fun _ J5=>?_));refine RS.fl 0 V30 rfl C5 ?_;refine RS.ld V5 B2 ?_;refine nl J5 (wp_block (sq fun _ J6=>?_));refine RS.oq ?_;refine RS.asB rfl (nl J6 ?_);replace hE:=Ext.tr hE x2;refine C.ife rfl (fun c7=>?_) (fun c7=>?_)
 ·refine wx fun _ J8=>region ?_;refine RS.fl 1 V30 rfl C9 ?_;refine RS.ld V9 B2 ?_;refine RS.o (D.seq rfl rfl) ?_;refine RS.mvB rfl ?_;refine RS.splitb 15 rfl rfl (fun c9=>?_) (fun c9=>?_)
  ·refine RS.nm ?_;have hs0:ky=ByteArray.empty:=of_decide_eq_true ((strEq _ _).symm.trans c9);refine RS.wt 15 ?_;refine RS.mvB rfl ?_;refine RS.pk ?_;refine nl J8 ?_;refine C.ifb rfl (fun c10=>?_) (fun c10=>?_)
   ·have hqa:=of_decide_eq_true ((S.eqV _ _ _ _ _ _ _ _).symm.trans c10);refine sAI rfl (wp_ret ?_);refine rI hE ?_;refine S.actE_pos ?_;grind [S.FineAct,S.valE_zero]
   have hqa:=of_decide_eq_false ((S.eqV _ _ _ _ _ _ _ _).symm.trans c10);refine wp_skip (J4 _ _ (sAI rfl (wp_ret ?_)));refine rI hE ?_;refine S.actE_neg ?_;grind [S.FineAct,S.valE_zero]
  refine RS.nm ?_;have hs0:ky≠ByteArray.empty:=of_decide_eq_false ((strEq _ _).symm.trans c9);refine RS.skF 15 ?_;refine RS.pkf ?_;refine nl J8 ?_;refine C.iff rfl ?_;refine wp_skip (J4 _ _ (sAI rfl (wp_ret ?_)));refine rI hE ?_;refine S.actE_neg ?_;grind [S.FineAct,S.valE_zero]
 refine wx fun _ J14=>sq fun _ J15=>?_
 refine RS.oq ?_;refine RS.asB rfl (nl J15 ?_);refine C.ife rfl (fun c16=>?_) (fun c16=>?_)
 ·refine wp_skip (J14 _ _ ?_);refine C.ifb rfl (fun z17=>?_) (fun z17=>?_)
  ·refine wx fun _ J18=>region ?_;refine RS.fl 1 V30 rfl C9 ?_;refine RS.ld V9 B2 ?_;refine RS.call E150 (nameR _ (by omega) _) rfl (fun v19 w19 x19 A19=>?_);subst A19;refine RS.nm ?_;refine RS.mvB rfl ?_;replace hE:=Ext.tr hE x19;refine RS.splitb 24 rfl rfl (fun c20=>?_) (fun c20=>?_)
   ·refine RS.nm ?_;refine RS.wt 24 ?_;refine RS.mvB rfl ?_;refine RS.pk ?_;refine nl J18 ?_;refine C.ifb rfl (fun c21=>?_) (fun c21=>?_)
    ·have hqa:=of_decide_eq_true ((S.eqV _ _ _ _ _ _ _ _).symm.trans c21);refine sAI rfl (wp_ret ?_);refine rI hE ?_;refine S.actE_pos ?_;grind [S.FineAct,S.valE_zero]
    have hqa:=of_decide_eq_false ((S.eqV _ _ _ _ _ _ _ _).symm.trans c21);refine wp_skip (J4 _ _ (sAI rfl (wp_ret ?_)));refine rI hE ?_;refine S.actE_neg ?_;grind [S.FineAct,S.valE_zero]
   refine RS.nm ?_;refine RS.skF 24 ?_;refine RS.pkf ?_;refine nl J18 ?_;refine C.iff rfl ?_;refine wp_skip (J4 _ _ (sAI rfl (wp_ret ?_)));refine rI hE ?_;refine S.actE_neg ?_;grind [S.FineAct,S.valE_zero]
  exact absurd z17 (by first|(simp[c16];done)|(simp_all;done)|omega)
 refine region ?_;refine RS.oq ?_;refine RS.asB rfl (nl J14 ?_);refine C.ife rfl (fun c25=>?_) (fun c25=>?_)
 ·refine wx fun _ J26=>region ?_;refine RS.fl 1 V30 rfl C9 ?_;refine RS.ld V9 B2 ?_;refine RS.call E150 (nameR _ (by omega) _) rfl (fun v27 w27 x27 A27=>?_);subst A27;refine RS.nm ?_;refine RS.mvB rfl ?_;replace hE:=Ext.tr hE x27;refine RS.splitb 24 rfl rfl (fun c28=>?_) (fun c28=>?_)
  ·refine RS.nm ?_;refine RS.wt 24 ?_;refine RS.mvB rfl ?_;refine RS.pk ?_;refine nl J26 ?_;refine C.ifb rfl (fun c29=>?_) (fun c29=>?_)
   ·have hqa:=of_decide_eq_true ((S.eqV _ _ _ _ _ _ _ _).symm.trans c29);refine sAI rfl (wp_ret ?_);refine rI hE ?_;refine S.actE_pos ?_;grind [S.FineAct,S.valE_zero]
   have hqa:=of_decide_eq_false ((S.eqV _ _ _ _ _ _ _ _).symm.trans c29);refine wp_skip (J4 _ _ (sAI rfl (wp_ret ?_)));refine rI hE ?_;refine S.actE_neg ?_;grind [S.FineAct,S.valE_zero]
  refine RS.nm ?_;refine RS.skF 24 ?_;refine RS.pkf ?_;refine nl J26 ?_;refine C.iff rfl ?_;refine wp_skip (J4 _ _ (sAI rfl (wp_ret ?_)));refine rI hE ?_;refine S.actE_neg ?_;grind [S.FineAct,S.valE_zero]
 refine wx fun _ J33=>region ?_;refine RS.oq ?_;refine RS.asB rfl (nl J33 ?_);refine C.ife rfl (fun c34=>?_) (fun c34=>?_)
 ·refine wx fun _ J35=>region ?_;refine RS.fl 1 V30 rfl C9 ?_;refine RS.ld V9 B2 ?_;refine RS.call E150 (nameR _ (by omega) _) rfl (fun v36 w36 x36 A36=>?_);subst A36;refine RS.nm ?_;refine RS.mvB rfl ?_;replace hE:=Ext.tr hE x36;refine RS.splitb 32 rfl rfl (fun c37=>?_) (fun c37=>?_)
  ·refine RS.nm ?_;refine RS.wt 32 ?_;refine RS.fl 2 V30 rfl C28 ?_;refine RS.wt 32 ?_;replace B2:=B2.ext x36;refine RS.la V28 C28 B2 4 ?_;refine RS.wt 32 ?_;refine RS.call E151 (checkR _ _ _ _ hvk hnum hb (by omega) _) rfl (fun v38 w38 x38 A38=>?_);subst A38;refine RS.nm ?_;refine RS.wt 32 ?_;refine RS.oq ?_;refine RS.pk ?_;refine nl J35 ?_;replace hE:=Ext.tr hE x38;refine C.ife rfl (fun c39=>?_) (fun c39=>?_)
   ·refine sAI rfl (wp_ret ?_);refine rI hE ?_;refine S.actE_pos ?_;grind [S.FineAct,S.valE_zero]
   refine wp_skip (J4 _ _ (sAI rfl (wp_ret ?_)));refine rI hE ?_;refine S.actE_neg ?_;grind [S.FineAct,S.valE_zero]
  refine RS.nm ?_;refine RS.skF 32 ?_;refine RS.skF 32 ?_;refine RS.skF 32 ?_;refine RS.skF 32 ?_;refine RS.pkf ?_;refine nl J35 ?_;refine C.iff rfl ?_;refine wp_skip (J4 _ _ (sAI rfl (wp_ret ?_)));refine rI hE ?_;refine S.actE_neg ?_;grind [S.FineAct,S.valE_zero]
 refine wp_skip (J4 _ _ (sAI rfl (wp_ret ?_)));refine rI hE ?_;refine S.actE_neg ?_;grind [S.FineAct,S.valE_zero]
theorem C25:prog.cellsOf 25=1:=by kernel_rfl
theorem C32:prog.cellsOf 32=2:=by kernel_rfl
theorem E78:Enters prog 78:= .mk func78 (by kernel_rfl) rfl
theorem E114:Enters prog 114:= .mk func114 (by kernel_rfl) rfl
theorem E129:Enters prog 129:= .mk func129 (by kernel_rfl) rfl
theorem E131:Enters prog 131:= .mk func131 (by kernel_rfl) rfl
theorem checkO{S0:Nat→Prop}(o:S.OpV)(ho:o.ok)(pa:Option Addr)(pc:Nat)(w:World)(D0:WRow .u8 32 S0 w pa o.n o.ids)(hc:o.n≤pc):
  Calls prog 82 #[.agg ([.int .u32 o.au, .slice pa o.n pc, .int .u64 o.st, .int .u8 o.k, .string o.key, .int .u8 o.vk, .int .i64 o.num, .int .u64 o.bits, .string o.t, .int .u32 o.e, .int .u32 o.s]:List Value).toArray] w (Ret w fun v _=>v= .int .i64 (S.checkE o)):=by
 replace D0:=D0.weaken (T:=fun k=>k<w.heap.size) (fun k hk _=>hk);have o1:=ho.au;have o2:=ho.st;have o3:=ho.k;have o4:=ho.vk;have o5:=ho.num;have o6:=ho.bits;have o7:=ho.e;have o8:=ho.s;have o9:=ho.n;have o10:=ho.key;have o11:=ho.t;refine eE 46 func82 rfl rfl fun hE=>?_
 refine sq fun _ J1=>?_
 refine RS.box rfl rfl (fun b2 w2 e2 s2 x2 B2=>?_);refine RS.nm ?_;refine RS.asI rfl (nl J1 (wx fun _ J3=>wp_block (sq fun _ J4=>?_)));refine RS.fl 1 V34 rfl C25 ?_;refine RS.ld V25 B2 ?_;refine RS.ln V25 ?_;refine RS.og ?_;refine RS.asB rfl (nl J4 ?_);replace hE:=Ext.tr hE x2;refine C.ifd rfl (fun c5=>?_) (fun c5=>?_)
 ·have h4:=c5;refine sAI rfl (wp_ret ?_);refine rI hE ?_;exact S.check4 (by omega)
 have h4:=c5;refine wx fun _ J7=>?_
 refine regionX (Below w2.heap.size) [(0, .q),(1, .q),(2, .e),(3, .q),(4, .q),(5, .q),(6, .q),(10, .q),(11, .q),(12, .q),(7, .e),(8, .e),(9, .q),(13, .q),(14, .q),(15, .q)] mixed (fun w=>Below.refl _ _) (fun h k=>Below.trans h k) (by kernel_rfl) (fun w8 x8=>?_);have zw8:=x8.size;refine RX.fl 1 V34 rfl C25 ?_;replace B2:=B2.ext x8;refine RX.o (fun w' hw=>D.load rfl V25 rfl ((B2.bel hw (by omega)).cell rfl)) ?_;refine RX.eff ?_;replace D0:=(D0.ext x2).ext x8;refine RS.call E129 (isSorted _ _ _ _ _ D0 hc (by omega)) rfl (fun v9 w9 x9 A9=>?_);have zw9:=x9.size;subst A9;refine RS.nm ?_;refine RS.nil ⟨(x9.mono (by omega)),?_⟩;refine RX.o (fun w' hw=>D.not rfl) ?_;refine RX.mvB rfl ?_;replace hE:=Ext.tr (Ext.tr hE x8) x9;refine RX.splitnot 13 rfl rfl (fun c10=>?_) (fun c10=>?_)
 ·refine RX.nm ?_;have hso:=of_decide_eq_false c10;refine RX.skT 13 ?_;refine RX.skT 13 ?_;refine RX.skT 13 ?_;refine RX.skT 13 ?_;refine RX.skT 13 ?_;refine RX.skT 13 ?_;refine RX.skT 13 ?_;refine RX.skT 13 ?_;refine RX.skT 13 ?_;refine RX.pick (v:= .bool true) rfl rfl ?_;refine RX.assign (v:= .bool _) rfl ?_;refine RX.nil (J7 _ _ ?_);refine C.ift rfl ?_;refine sAI rfl (wp_ret ?_);refine rI hE ?_;exact S.check32 (by omega) (fun h=>hso ((S.rising_iff _ _).1 h).1)
 refine RX.nm ?_;have hso:=of_decide_eq_true c10;refine RX.wt 13 ?_;refine RX.fl 1 V34 rfl C25 ?_;refine RX.wt 13 ?_;replace B2:=B2.ext x9;refine RX.o (fun w' hw=>D.load rfl V25 rfl ((B2.bel hw (by omega)).cell rfl)) ?_;refine RX.wt 13 ?_;refine RX.fl 1 V34 rfl C25 ?_;refine RX.wt 13 ?_;refine RX.o (fun w' hw=>D.load rfl V25 rfl ((B2.bel hw (by omega)).cell rfl)) ?_;refine RX.wt 13 ?_;refine RX.o (fun w' hw=>D.len rfl V25) ?_;refine RX.wt 13 ?_;refine RX.eff ?_;replace D0:=D0.ext x9;refine RS.call E78 (cloneID _ _ _ _ _ D0 hc (by omega)) rfl (fun v12 w12 x12 A12=>?_);have zw12:=x12.size;obtain⟨a12,n12,c12,rfl,hnn,O1⟩:=A12;obtain⟨g0,hg,hgl⟩:∃g0,(n12<2∨a12=some ⟨g0,0,none⟩)∧w2.heap.size≤g0:=by
  by_cases h2:n12<2
  ·exact⟨w12.heap.size, .inl h2,by omega⟩
  obtain⟨g,hg⟩:=O1.some (by omega);exact⟨g, .inr hg,by have:=O1.los g (by rw[hg];rfl);omega⟩
 refine RS.nm ?_;refine RS.nil ⟨(x12.mono (by omega)),?_⟩;refine RX.wt 13 ?_;refine RX.eff ?_;refine RS.callx E114 (compact _ _ _ _ _ _ _ O1 hg (by omega)) rfl (fun e13 w13 A13=>?_);obtain⟨a13,n13,c13,rfl,X13,hap⟩:=A13;refine⟨_,rfl,?_⟩;refine RS.nm ?_;have hnz:=hnn;refine RS.nil ⟨(X13.belo),?_⟩;refine RX.wt 13 ?_;refine RX.o (fun w' hw=>D.len rfl V25) ?_;refine RX.wt 13 ?_;refine RX.o (fun w' hw=>D.ne rfl rfl) ?_;refine RX.pick (v:= .bool _) rfl rfl ?_;refine RX.assign (v:= .bool _) rfl ?_;refine RX.nil (J7 _ _ ?_);replace hE:=(Ext.tr hE x12).trans X13.belo;refine C.ifn rfl (fun c14=>?_) (fun c14=>?_)
 ·try have hne:=c14
  refine sAI rfl (wp_ret ?_);refine rI hE ?_;exact S.check32 (by omega) (fun h=>hne (by have:=hap.2;rw[hnz]at this;exact congrArg Nat.cast (this ((S.rising_iff _ _).1 h).2)))
 try have hne:=c14
 refine sq fun _ J16=>?_
 refine RS.fl 0 V34 rfl C24 ?_;replace B2:=(B2.ext x12).pro X13;refine RS.ld V24 B2 ?_;refine RS.call E130 (group_Is _ (by omega) _) rfl (fun v17 w17 x17 A17=>?_);subst A17;refine RS.nm ?_;refine RS.o (D.not rfl) ?_;refine RS.mvB rfl ?_;replace hE:=Ext.tr hE x17;refine RS.splitnot 29 rfl rfl (fun c18=>?_) (fun c18=>?_)
 ·refine RS.nm ?_;have hG:=c18;refine RS.skT 29 ?_;refine RS.skT 29 ?_;refine RS.skT 29 ?_;refine RS.pkt ?_;refine RS.mvB rfl ?_;refine RS.skT 34 ?_;refine RS.skT 34 ?_;refine RS.skT 34 ?_;refine RS.skT 34 ?_;refine RS.skT 34 ?_;refine RS.skT 34 ?_;refine RS.skT 34 ?_;refine RS.skT 34 ?_;refine RS.pkt ?_;refine RS.asB rfl (nl J16 ?_);refine C.ift rfl ?_;refine sAI rfl (wp_ret ?_);refine rI hE ?_;have hri:S.Rising o.n o.ids:=(S.rising_iff _ _).2 ⟨hso,by have h7:=hap.1;rw[hnz]at h7;exact h7 (by omega)⟩;refine S.check8 (by omega) hri (fun h=>?_);have:=h.1;simp_all
 refine RS.nm ?_;have hG:=c18;refine RS.wt 29 ?_;refine RS.fl 2 V34 rfl C26 ?_;refine RS.wt 29 ?_;replace B2:=B2.ext x17;refine RS.ld V26 B2 ?_;refine RS.wt 29 ?_;refine RS.og ?_;refine RS.pk ?_;refine RS.mvB rfl ?_;refine RS.splitd 34 rfl rfl (fun c20=>?_) (fun c20=>?_)
 ·refine RS.nm ?_;refine RS.skT 34 ?_;refine RS.skT 34 ?_;refine RS.skT 34 ?_;refine RS.skT 34 ?_;refine RS.skT 34 ?_;refine RS.skT 34 ?_;refine RS.skT 34 ?_;refine RS.skT 34 ?_;refine RS.pkt ?_;refine RS.asB rfl (nl J16 ?_);refine C.ift rfl ?_;refine sAI rfl (wp_ret ?_);refine rI hE ?_;have hri:S.Rising o.n o.ids:=(S.rising_iff _ _).2 ⟨hso,by have h7:=hap.1;rw[hnz]at h7;exact h7 (by omega)⟩;refine S.check8 (by omega) hri (fun h=>?_);have:=h.2.1;omega
 refine RS.nm ?_;refine RS.wt 34 ?_;refine RS.fl 9 V34 rfl C32 ?_;refine RS.wt 34 ?_;refine RS.fl 9 V32 rfl C24 ?_;refine RS.wt 34 ?_;refine RS.ld V24 B2 ?_;refine RS.wt 34 ?_;refine RS.fl 9 V34 rfl C32 ?_;refine RS.wt 34 ?_;refine RS.fl 10 V32 rfl C24 ?_;refine RS.wt 34 ?_;refine RS.ld V24 B2 ?_;refine RS.wt 34 ?_;refine RS.o (D.max2 rfl rfl) ?_;refine RS.wt 34 ?_;refine RS.oe ?_;refine RS.pk ?_;refine RS.asB rfl (nl J16 (C.ifd rfl (fun c22=>?_) (fun c22=>?_)))
 ·try have hQ:=c22
  refine sAI rfl (wp_ret ?_);refine rI hE ?_;have hri:S.Rising o.n o.ids:=(S.rising_iff _ _).2 ⟨hso,by have h7:=hap.1;rw[hnz]at h7;exact h7 (by omega)⟩;refine S.check8 (by omega) hri (fun h=>?_);have h1:=h.2.2.1;have h2:=h.2.2.2.1;split at hQ<;>omega
 try have hQ:=c22
 refine wp_skip (J3 _ _ (sq fun _ J24=>?_));refine RS.fl 3 V34 rfl C30 ?_;refine RS.la V30 C30 B2 6 ?_;refine RS.call E131 (checkAct _ _ _ _ _ _ o3 o4 o5 o6 (by omega) (by omega) _) rfl (fun v25 w25 x25 A25=>?_);subst A25;refine RS.nm ?_;refine RS.asI rfl (nl J24 (wp_ret ?_));refine retI rfl rfl ?_;replace hE:=Ext.tr hE x25;refine⟨_,rfl,hE,congrArg (Value.int .i64) ?_⟩;have hri:S.Rising o.n o.ids:=(S.rising_iff _ _).2 ⟨hso,by have h7:=hap.1;rw[hnz]at h7;exact h7 (by omega)⟩;refine S.checkA (by omega) hri (by simpa using hG) (by omega) ?_ ?_<;>(split at hQ<;>omega)
theorem E42:Enters prog 42:= .mk func42 (by kernel_rfl) rfl
theorem E107:Enters prog 107:= .mk func107 (by kernel_rfl) rfl
theorem E108:Enters prog 108:= .mk func108 (by kernel_rfl) rfl
theorem E109:Enters prog 109:= .mk func109 (by kernel_rfl) rfl
theorem E110:Enters prog 110:= .mk func110 (by kernel_rfl) rfl
theorem checkOR{S0:Nat→Prop}(o:S.OpV)(ho:o.ok)(pa:Option Addr)(pc:Nat)(w:World)(D0:WRow .u8 32 S0 w pa o.n o.ids)(hc:o.n≤pc):
  Calls prog 64 #[.agg ([.int .u32 o.au, .slice pa o.n pc, .int .u64 o.st, .int .u8 o.k, .string o.key, .int .u8 o.vk, .int .i64 o.num, .int .u64 o.bits, .string o.t, .int .u32 o.e, .int .u32 o.s]:List Value).toArray] w (Ret w fun v _=>v= .int .i64 (S.checkE o)):=by
 replace D0:=D0.weaken (T:=fun k=>k<w.heap.size) (fun k hk _=>hk);have o1:=ho.au;have o2:=ho.st;have o3:=ho.k;have o4:=ho.vk;have o5:=ho.num;have o6:=ho.bits;have o7:=ho.e;have o8:=ho.s;have o9:=ho.n;have o10:=ho.key;have o11:=ho.t;refine eE 39 func64 rfl rfl fun hE=>?_
 refine sq fun _ J1=>?_
 refine RS.box rfl rfl (fun b2 w2 e2 s2 x2 B2=>?_);refine RS.nm ?_;refine RS.asI rfl (nl J1 (wx fun _ J3=>sq fun _ J4=>?_));refine RS.fl 1 V34 rfl C25 ?_;refine RS.ld V25 B2 ?_;refine RS.ln V25 ?_;refine RS.og ?_;refine nl J4 ?_;replace hE:=Ext.tr hE x2;refine C.ifd rfl (fun c5=>?_) (fun c5=>?_)
 ·have h4:=c5;refine sAI rfl (wp_ret ?_);refine rI hE ?_;exact S.check4 (by omega)
 have h4:=c5;refine wp_skip (J3 _ _ (wx fun _ J7=>sq fun _ J8=>?_));refine RS.fl 1 V34 rfl C25 ?_;refine RS.ld V25 B2 ?_;replace D0:=D0.ext x2;refine RS.call E107 (risingR _ _ _ _ _ D0 hc (by omega)) rfl (fun v9 w9 x9 A9=>?_);subst A9;refine RS.nm ?_;refine RS.o (D.not rfl) ?_;refine nl J8 ?_;replace hE:=Ext.tr hE x9;refine C.ifnot rfl (fun c10=>?_) (fun c10=>?_)
 ·have hri:=of_decide_eq_false c10;refine sAI rfl (wp_ret ?_);refine rI hE ?_;exact S.check32 (by omega) hri
 have hri:=of_decide_eq_true c10;refine wp_skip (J7 _ _ (wx fun _ J12=>sq fun _ J13=>?_));refine RS.fl 0 V34 rfl C24 ?_;replace B2:=B2.ext x9;refine RS.ld V24 B2 ?_;refine RS.call E108 (ref_Is _ (by omega) _) rfl (fun v14 w14 x14 A14=>?_);subst A14;refine RS.nm ?_;refine RS.o (D.not rfl) ?_;refine RS.mvB rfl ?_;replace hE:=Ext.tr hE x14;refine RS.splitnot 15 rfl rfl (fun c15=>?_) (fun c15=>?_)
 ·refine RS.nm ?_;have hG:=c15;refine RS.skT 15 ?_;refine RS.skT 15 ?_;refine RS.skT 15 ?_;refine RS.pkt ?_;refine RS.mvB rfl ?_;refine RS.skT 20 ?_;refine RS.skT 20 ?_;refine RS.skT 20 ?_;refine RS.skT 20 ?_;refine RS.pkt ?_;refine RS.mvB rfl ?_;refine RS.skT 26 ?_;refine RS.skT 26 ?_;refine RS.skT 26 ?_;refine RS.skT 26 ?_;refine RS.skT 26 ?_;refine RS.pkt ?_;refine RS.mvB rfl ?_;refine RS.skT 33 ?_;refine RS.skT 33 ?_;refine RS.skT 33 ?_;refine RS.skT 33 ?_;refine RS.skT 33 ?_;refine RS.pkt ?_;refine nl J13 ?_;refine C.ift rfl ?_;refine sAI rfl (wp_ret ?_);refine rI hE ?_;refine S.check8 (by omega) hri (fun h=>?_);have:=h.1;simp_all
 refine RS.nm ?_;have hG:=c15;refine RS.wt 15 ?_;refine RS.fl 2 V34 rfl C26 ?_;refine RS.wt 15 ?_;replace B2:=B2.ext x14;refine RS.ld V26 B2 ?_;refine RS.wt 15 ?_;refine RS.og ?_;refine RS.pk ?_;refine RS.mvB rfl ?_;refine RS.splitd 20 rfl rfl (fun c17=>?_) (fun c17=>?_)
 ·refine RS.nm ?_;refine RS.skT 20 ?_;refine RS.skT 20 ?_;refine RS.skT 20 ?_;refine RS.skT 20 ?_;refine RS.pkt ?_;refine RS.mvB rfl ?_;refine RS.skT 26 ?_;refine RS.skT 26 ?_;refine RS.skT 26 ?_;refine RS.skT 26 ?_;refine RS.skT 26 ?_;refine RS.pkt ?_;refine RS.mvB rfl ?_;refine RS.skT 33 ?_;refine RS.skT 33 ?_;refine RS.skT 33 ?_;refine RS.skT 33 ?_;refine RS.skT 33 ?_;refine RS.pkt ?_;refine nl J13 ?_;refine C.ift rfl ?_;refine sAI rfl (wp_ret ?_);refine rI hE ?_;refine S.check8 (by omega) hri (fun h=>?_);have:=h.2.1;omega
 refine RS.nm ?_;refine RS.wt 20 ?_;refine RS.fl 3 V34 rfl C30 ?_;refine RS.wt 20 ?_;refine RS.la V30 C30 B2 6 ?_;refine RS.wt 20 ?_;refine RS.call E109 (checkActR _ _ _ _ _ _ o3 o4 o5 o6 (by omega) (by omega) _) rfl (fun v19 w19 x19 A19=>?_);subst A19;refine RS.nm ?_;refine RS.wt 20 ?_;refine RS.on ?_;refine RS.pk ?_;refine RS.mvB rfl ?_;replace hE:=Ext.tr hE x19;refine RS.splitn 26 rfl rfl (fun c20=>?_) (fun c20=>?_)
 ·refine RS.nm ?_;have hA:=c20;refine RS.skT 26 ?_;refine RS.skT 26 ?_;refine RS.skT 26 ?_;refine RS.skT 26 ?_;refine RS.skT 26 ?_;refine RS.pkt ?_;refine RS.mvB rfl ?_;refine RS.skT 33 ?_;refine RS.skT 33 ?_;refine RS.skT 33 ?_;refine RS.skT 33 ?_;refine RS.skT 33 ?_;refine RS.pkt ?_;refine nl J13 ?_;refine C.ift rfl ?_;refine sAI rfl (wp_ret ?_);refine rI hE ?_;refine S.check8 (by omega) hri (fun h=>?_);exact hA (S.actE_zero.2 h.2.2.2.2)
 refine RS.nm ?_;have hA:=c20;refine RS.wt 26 ?_;refine RS.fl 9 V34 rfl C32 ?_;refine RS.wt 26 ?_;refine RS.fl 9 V32 rfl C24 ?_;refine RS.wt 26 ?_;replace B2:=B2.ext x19;refine RS.ld V24 B2 ?_;refine RS.wt 26 ?_;refine RS.call E110 (ref_Exponent _ (by omega) _) rfl (fun v22 w22 x22 A22=>?_);subst A22;refine RS.nm ?_;refine RS.wt 26 ?_;refine RS.o (D.not rfl) ?_;refine RS.pk ?_;refine RS.mvB rfl ?_;replace hE:=Ext.tr hE x22;refine RS.splitnot 33 rfl rfl (fun c23=>?_) (fun c23=>?_)
 ·refine RS.nm ?_;have hQ:=of_decide_eq_false c23;refine RS.skT 33 ?_;refine RS.skT 33 ?_;refine RS.skT 33 ?_;refine RS.skT 33 ?_;refine RS.skT 33 ?_;refine RS.pkt ?_;refine nl J13 ?_;refine C.ift rfl ?_;refine sAI rfl (wp_ret ?_);refine rI hE ?_;refine S.check8 (by omega) hri (fun h=>?_);have:=h.2.2.1;omega
 refine RS.nm ?_;have hQ:=of_decide_eq_true c23;refine RS.wt 33 ?_;refine RS.fl 9 V34 rfl C32 ?_;refine RS.wt 33 ?_;refine RS.fl 10 V32 rfl C24 ?_;refine RS.wt 33 ?_;replace B2:=B2.ext x22;refine RS.ld V24 B2 ?_;refine RS.wt 33 ?_;refine RS.call E110 (ref_Exponent _ (by omega) _) rfl (fun v25 w25 x25 A25=>?_);subst A25;refine RS.nm ?_;refine RS.wt 33 ?_;refine RS.o (D.not rfl) ?_;refine RS.pk ?_;refine nl J13 ?_;replace hE:=Ext.tr hE x25;refine C.ifnot rfl (fun c26=>?_) (fun c26=>?_)
 ·try have hZ:=of_decide_eq_false c26
  refine sAI rfl (wp_ret ?_);refine rI hE ?_;refine S.check8 (by omega) hri (fun h=>?_);have:=h.2.2.2.1;omega
 try have hZ:=of_decide_eq_true c26
 refine wp_skip (J12 _ _ (sAI rfl (wp_ret ?_)));refine rI hE ?_;exact S.check0 (by omega) hri ⟨by simpa using hG,by omega,hQ,hZ,S.actE_zero.1 hA⟩
theorem great(o:S.OpV)(pa:Option Addr)(pc:Nat)(w:World):
  Calls prog 76 #[.agg ([.int .u32 o.au, .slice pa o.n pc, .int .u64 o.st, .int .u8 o.k, .string o.key, .int .u8 o.vk, .int .i64 o.num, .int .u64 o.bits, .string o.t, .int .u32 o.e, .int .u32 o.s]:List Value).toArray] w (Ret w fun v _=>v= .bool (decide (20<o.n∨100<o.key.size∨100<o.t.size))):=by
 refine eE 21 func76 rfl rfl fun hE=>?_
 refine sq fun _ J1=>?_
 refine RS.box rfl rfl (fun b2 w2 e2 s2 x2 B2=>?_);refine RS.nm ?_;refine RS.asB rfl ?_;refine nl J1 (sq fun _ J3=>?_);refine RS.fl 1 V34 rfl C25 ?_;refine RS.ld V25 B2 ?_;refine RS.ln V25 ?_;refine RS.og ?_;refine RS.mvB rfl ?_;replace hE:=Ext.tr hE x2;refine RS.splitd 7 rfl rfl (fun c4=>?_) (fun c4=>?_)
 ·refine RS.nm ?_;refine RS.skT 7 ?_;refine RS.skT 7 ?_;refine RS.skT 7 ?_;refine RS.skT 7 ?_;refine RS.skT 7 ?_;refine RS.pkt ?_;refine RS.mvB rfl ?_;refine RS.skT 14 ?_;refine RS.skT 14 ?_;refine RS.skT 14 ?_;refine RS.skT 14 ?_;refine RS.skT 14 ?_;refine RS.skT 14 ?_;refine RS.pkt ?_;refine RS.asB rfl (nl J3 (wp_ret ?_));refine retB rfl rfl ?_;refine⟨_,rfl,hE,congrArg Value.bool ?_⟩;exact(decide_eq_true (by omega)).symm
 refine RS.nm ?_;refine RS.wt 7 ?_;refine RS.fl 3 V34 rfl C30 ?_;refine RS.wt 7 ?_;refine RS.fl 4 V30 rfl C9 ?_;refine RS.wt 7 ?_;refine RS.ld V9 B2 ?_;refine RS.wt 7 ?_;refine RS.o (D.lenStr rfl V9) ?_;refine RS.wt 7 ?_;refine RS.og ?_;refine RS.pk ?_;refine RS.mvB rfl ?_;refine RS.splitd 14 rfl rfl (fun c5=>?_) (fun c5=>?_)
 ·refine RS.nm ?_;refine RS.skT 14 ?_;refine RS.skT 14 ?_;refine RS.skT 14 ?_;refine RS.skT 14 ?_;refine RS.skT 14 ?_;refine RS.skT 14 ?_;refine RS.pkt ?_;refine RS.asB rfl (nl J3 (wp_ret ?_));refine retB rfl rfl ?_;refine⟨_,rfl,hE,congrArg Value.bool ?_⟩;exact(decide_eq_true (by omega)).symm
 refine RS.nm ?_;refine RS.wt 14 ?_;refine RS.fl 3 V34 rfl C30 ?_;refine RS.wt 14 ?_;refine RS.fl 5 V30 rfl C28 ?_;refine RS.wt 14 ?_;refine RS.fl 8 V28 rfl C9 ?_;refine RS.wt 14 ?_;refine RS.ld V9 B2 ?_;refine RS.wt 14 ?_;refine RS.o (D.lenStr rfl V9) ?_;refine RS.wt 14 ?_;refine RS.og ?_;refine RS.pk ?_;refine RS.asB rfl (nl J3 (wp_ret ?_));refine retB rfl rfl ?_;refine⟨_,rfl,hE,congrArg Value.bool ?_⟩;exact decide_eq_decide.2 (by omega)
theorem sameO{S0 S1:Nat→Prop}(o u:S.OpV)(ho:o.ok)(hu:u.ok)(pa qa:Option Addr)(pc qc:Nat)(w:World)(D0:WRow .u8 32 S0 w pa o.n o.ids)(D1:WRow .u8 32 S1 w qa u.n u.ids):
  Calls prog 61 #[.agg ([.int .u32 o.au, .slice pa o.n pc, .int .u64 o.st, .int .u8 o.k, .string o.key, .int .u8 o.vk, .int .i64 o.num, .int .u64 o.bits, .string o.t, .int .u32 o.e, .int .u32 o.s]:List Value).toArray, .agg ([.int .u32 u.au, .slice qa u.n qc, .int .u64 u.st, .int .u8 u.k, .string u.key, .int .u8 u.vk, .int .i64 u.num, .int .u64 u.bits, .string u.t, .int .u32 u.e, .int .u32 u.s]:List Value).toArray] w (Ret w fun v _=>v= .bool (decide (S.SameO o u))):=by
 have h1:=ho.n;have h2:=hu.n;refine eE 36 func61 rfl rfl fun hE=>?_
 refine sq fun _ J1=>?_
 refine RS.box rfl rfl (fun b2 w2 e2 s2 x2 B2=>?_);refine RS.nm ?_;refine RS.box rfl rfl (fun b3 w3 e3 s3 x3 B3=>?_);refine RS.nm ?_;refine RS.asB rfl ?_;refine nl J1 (sq fun _ J4=>?_);refine RS.fl 0 V34 rfl C24 ?_;replace B2:=B2.ext x3;refine RS.ld V24 B2 ?_;refine RS.fl 0 V34 rfl C24 ?_;refine RS.ld V24 B3 ?_;refine RS.oq ?_;refine RS.mvB rfl ?_;replace hE:=Ext.tr (Ext.tr hE x2) x3;refine RS.splite 10 rfl rfl (fun c5=>?_) (fun c5=>?_)
 ·refine RS.nm ?_;have e1:=c5;refine RS.wt 10 ?_;refine RS.fl 1 V34 rfl C25 ?_;refine RS.wt 10 ?_;refine RS.ld V25 B2 ?_;refine RS.wt 10 ?_;refine RS.fl 1 V34 rfl C25 ?_;refine RS.wt 10 ?_;refine RS.ld V25 B3 ?_;refine RS.wt 10 ?_;replace D0:=(D0.ext x2).ext x3;replace D1:=(D1.ext x2).ext x3;refine RS.call E42 (sameIDs _ _ _ _ _ _ _ _ _ D0 D1 (by omega) (by omega)) rfl (fun v6 w6 x6 A6=>?_);subst A6;refine RS.nm ?_;refine RS.pk ?_;refine RS.mvB rfl ?_;replace hE:=Ext.tr hE x6;refine RS.splitb 17 rfl rfl (fun c7=>?_) (fun c7=>?_)
  ·refine RS.nm ?_;have e2:=of_decide_eq_true c7;refine RS.wt 17 ?_;refine RS.fl 2 V34 rfl C26 ?_;refine RS.wt 17 ?_;replace B2:=B2.ext x6;refine RS.ld V26 B2 ?_;refine RS.wt 17 ?_;refine RS.fl 2 V34 rfl C26 ?_;refine RS.wt 17 ?_;replace B3:=B3.ext x6;refine RS.ld V26 B3 ?_;refine RS.wt 17 ?_;refine RS.oq ?_;refine RS.pk ?_;refine RS.mvB rfl ?_;refine RS.splite 24 rfl rfl (fun c8=>?_) (fun c8=>?_)
   ·refine RS.nm ?_;have e3:=c8;refine RS.wt 24 ?_;refine RS.fl 3 V34 rfl C30 ?_;refine RS.wt 24 ?_;refine RS.la V30 C30 B2 6 ?_;refine RS.wt 24 ?_;refine RS.fl 3 V34 rfl C30 ?_;refine RS.wt 24 ?_;refine RS.la V30 C30 B3 6 ?_;refine RS.wt 24 ?_;refine RS.o (D.eqA rfl rfl V30 rfl (by kernel_rfl) (by kernel_rfl) (by kernel_rfl)) ?_;refine RS.pk ?_;refine RS.mvB rfl ?_;refine RS.splitb 31 rfl rfl (fun c9=>?_) (fun c9=>?_)
    ·refine RS.nm ?_;have e4:=of_decide_eq_true ((S.eqA6 _ _ _ _ _ _ _ _ _ _ _ _).symm.trans c9);refine RS.wt 31 ?_;refine RS.fl 9 V34 rfl C32 ?_;refine RS.wt 31 ?_;refine RS.la V32 C32 B2 2 ?_;refine RS.wt 31 ?_;refine RS.fl 9 V34 rfl C32 ?_;refine RS.wt 31 ?_;refine RS.la V32 C32 B3 2 ?_;refine RS.wt 31 ?_;refine RS.o (D.eqA rfl rfl V32 rfl (by kernel_rfl) (by kernel_rfl) (by kernel_rfl)) ?_;refine RS.pk ?_;refine RS.asB rfl (nl J4 (wp_ret ?_));refine retB rfl rfl ?_;refine⟨_,rfl,hE,congrArg Value.bool ?_⟩;refine Eq.trans (S.eqS2 _ _ _ _) (decide_eq_decide.2 ?_);exact⟨fun h=>⟨e1,e2,e3,e4,h⟩,fun h=>h.2.2.2.2⟩
    refine RS.nm ?_;have e4:=of_decide_eq_false ((S.eqA6 _ _ _ _ _ _ _ _ _ _ _ _).symm.trans c9);refine RS.skF 31 ?_;refine RS.skF 31 ?_;refine RS.skF 31 ?_;refine RS.skF 31 ?_;refine RS.skF 31 ?_;refine RS.pkf ?_;refine RS.asB rfl (nl J4 (wp_ret ?_));refine retB rfl rfl ?_;refine⟨_,rfl,hE,congrArg Value.bool ?_⟩;refine(decide_eq_false (fun h=>?_)).symm;exact absurd h.2.2.2.1 e4
   refine RS.nm ?_;have e3:=c8;refine RS.skF 24 ?_;refine RS.skF 24 ?_;refine RS.skF 24 ?_;refine RS.skF 24 ?_;refine RS.skF 24 ?_;refine RS.pkf ?_;refine RS.mvB rfl ?_;refine RS.skF 31 ?_;refine RS.skF 31 ?_;refine RS.skF 31 ?_;refine RS.skF 31 ?_;refine RS.skF 31 ?_;refine RS.pkf ?_;refine RS.asB rfl (nl J4 (wp_ret ?_));refine retB rfl rfl ?_;refine⟨_,rfl,hE,congrArg Value.bool ?_⟩;refine(decide_eq_false (fun h=>?_)).symm;exact absurd h.2.2.1 e3
  refine RS.nm ?_;have e2:=of_decide_eq_false c7;refine RS.skF 17 ?_;refine RS.skF 17 ?_;refine RS.skF 17 ?_;refine RS.skF 17 ?_;refine RS.skF 17 ?_;refine RS.pkf ?_;refine RS.mvB rfl ?_;refine RS.skF 24 ?_;refine RS.skF 24 ?_;refine RS.skF 24 ?_;refine RS.skF 24 ?_;refine RS.skF 24 ?_;refine RS.pkf ?_;refine RS.mvB rfl ?_;refine RS.skF 31 ?_;refine RS.skF 31 ?_;refine RS.skF 31 ?_;refine RS.skF 31 ?_;refine RS.skF 31 ?_;refine RS.pkf ?_;refine RS.asB rfl (nl J4 (wp_ret ?_));refine retB rfl rfl ?_;refine⟨_,rfl,hE,congrArg Value.bool ?_⟩;refine(decide_eq_false (fun h=>?_)).symm;exact absurd h.2.1 e2
 refine RS.nm ?_;have e1:=c5;refine RS.skF 10 ?_;refine RS.skF 10 ?_;refine RS.skF 10 ?_;refine RS.skF 10 ?_;refine RS.skF 10 ?_;refine RS.pkf ?_;refine RS.mvB rfl ?_;refine RS.skF 17 ?_;refine RS.skF 17 ?_;refine RS.skF 17 ?_;refine RS.skF 17 ?_;refine RS.skF 17 ?_;refine RS.pkf ?_;refine RS.mvB rfl ?_;refine RS.skF 24 ?_;refine RS.skF 24 ?_;refine RS.skF 24 ?_;refine RS.skF 24 ?_;refine RS.skF 24 ?_;refine RS.pkf ?_;refine RS.mvB rfl ?_;refine RS.skF 31 ?_;refine RS.skF 31 ?_;refine RS.skF 31 ?_;refine RS.skF 31 ?_;refine RS.skF 31 ?_;refine RS.pkf ?_;refine RS.asB rfl (nl J4 (wp_ret ?_));refine retB rfl rfl ?_;refine⟨_,rfl,hE,congrArg Value.bool ?_⟩;refine(decide_eq_false (fun h=>?_)).symm;exact absurd h.1 e1
theorem C34:prog.cellsOf 34=11:=by kernel_rfl
theorem T32:TI prog 32 2 8 [.int .u32 0, .int .u32 0]:=by
 have h:(prog.info? 32).map (fun i=>(i.size,i.bytes,i.zero))=some (2,8,some (.agg #[.int .u32 0, .int .u32 0])):=by kernel_rfl
 exact TI.of h rfl
theorem F32:SI prog 32 [(0,1),(1,1)]:=⟨_,V32,by kernel_rfl,by kernel_rfl⟩
theorem E82:Enters prog 82:= .mk func82 (by kernel_rfl) rfl
theorem E120:Enters prog 120:= .mk func120 (by kernel_rfl) rfl
theorem E124:Enters prog 124:= .mk func124 (by kernel_rfl) rfl
theorem messageO{S0:Nat→Prop}(o:S.OpV)(ho:o.ok)(pa:Option Addr)(pc:Nat)(w:World)(D0:WRow .u8 32 S0 w pa o.n o.ids)(hc:o.n≤pc):
  Calls prog 79 #[.agg ([.int .u32 o.au, .slice pa o.n pc, .int .u64 o.st, .int .u8 o.k, .string o.key, .int .u8 o.vk, .int .i64 o.num, .int .u64 o.bits, .string o.t, .int .u32 o.e, .int .u32 o.s]:List Value).toArray] w (Ret w fun v w'=>∃a' n' c' xs,v= .tuple #[.slice a' n' c', .int .i64 (S.checkE o.bare)]∧IOwn w.heap.size w' 5 .u8 a' n' c' xs∧xs=if S.checkE o.bare=0 then S.msgS o else []):=by
 replace D0:=D0.weaken (T:=fun k=>k<w.heap.size) (fun k hk _=>hk);have o1:=ho.au;have o2:=ho.st;have o3:=ho.k;have o4:=ho.vk;have o5:=ho.num;have o6:=ho.bits;have o9:=ho.n;have o10:=ho.key;have o11:=ho.t;have e1:=S.numS_len o.au;have e2:=S.numS_len o.st;have e3:=S.numS_len (o.n:Int);have e4:=D0.len;have e5:=S.numS_len (o.key.size:Int);have e6:=S.valS_len o.vk o.num o.bits o.t o11;refine eE 70 func79 rfl rfl fun hE=>?_
 refine sq fun _ J1=>?_
 refine RS.box rfl rfl (fun b2 w2 e2 s2 x2 B2=>?_);refine RS.nm ?_;have zw2:=x2.size;refine RS.asS rfl (RS.asI rfl ?_);refine nl J1 (sq fun _ J3=>?_);refine RS.o (D.buildS T32 F32 (ps:=[]) rfl rfl) ?_;refine RS.fl 9 V34 rfl C32 ?_;refine RS.sa C32 B2 (fun w4 y4 N4=>?_);have zw4:=y4.size;replace B2:=N4;refine nl J3 (wx fun _ J5=>sq fun _ J6=>?_);refine RS.la V34 C34 B2 11 ?_;replace D0:=(D0.ext x2).sto y4;refine RS.call E82 (checkO o.bare (S.OpV.bare_ok ho) _ _ _ D0 hc) rfl (fun v7 w7 x7 A7=>?_);have zw7:=x7.size;subst A7;refine RS.nm ?_;refine RS.asI rfl ?_;refine nl J6 (sq fun _ J8=>?_);refine RS.mvI rfl ?_;refine RS.on ?_;refine nl J8 ?_;replace hE:=Ext.tr ((Ext.tr hE x2).trans y4.belo) x7;refine C.ifn rfl (fun c9=>?_) (fun c9=>?_)
 ·have hnz:=c9;refine sq fun _ J10=>RS.mvI rfl (RS.asS rfl (RS.asI rfl (nl J10 (wp_ret ?_))));refine retSI ?_;exact⟨_,rfl,hE,none,0,0,[],rfl,IOwn.nil _ _ _ _,(if_neg hnz).symm⟩
 have hz:=c9;obtain⟨q1,q2,q3⟩:=S.check_zero.1 hz;have hfa:=q3.2.2.2.2;have q4:o.n≤4:=q1;refine wp_skip (J5 _ _ (sq fun _ J11=>?_));refine RS.fl 1 V34 rfl C25 ?_;replace B2:=B2.ext x7;refine RS.ld V25 B2 ?_;replace D0:=D0.ext x7;refine RS.call E120 (idsW _ _ _ _ _ D0 hc (by have:o.n≤4:=q1;omega) q2) rfl (fun v12 w12 x12 A12=>?_);have zw12:=x12.size;obtain⟨a12,n12,c12,rfl,OP⟩:=A12;have hpc:=OP.own.pre;refine RS.nm ?_;refine RS.move (v:= .tuple _) rfl ?_;refine RS.exS ?_;refine RS.exI ?_;refine RS.asS rfl (RS.asI rfl (nl J11 (wx fun _ J13=>?_)));replace B2:=B2.ext x12;refine regionM 13 [25,26,27,28,29,30,31,32,33,34,35,36,37] (fun i v w=>match i with|0=>∃a n c,v= .slice a n c∧IRow .u8 (fun _=>True) w a n [111]∧n≤c|1=>v= .pointer (some ⟨b2,0,none⟩)|2=>v= .int .u32 o.au|3=>v= .int .u64 o.au|4=>∃a n c,v= .slice a n c∧IRow .u8 (fun _=>True) w a n (S.numS o.au)∧n≤c|5=>v= .slice a12 n12 c12|6=>v= .pointer (some ⟨b2,2,none⟩)|7=>v= .int .u64 o.st|8=>∃a n c,v= .slice a n c∧IRow .u8 (fun _=>True) w a n (S.numS o.st)∧n≤c|9=>v= .pointer (some ⟨b2,3,none⟩)|10=>v= .pointer (some ⟨b2,3,none⟩)|11=>v= .int .u8 o.k|12=>∃a n c,v= .slice a n c∧IRow .u8 (fun _=>True) w a n [o.k]∧n≤c|_=>True) [(13, .e),(14, .e),(15, .q)] mixed (by kernel_rfl) ?_ (fun w14 x14=>?_) (fun f w15 x15 hF=>?_)
 ·intro i v w w2 h x
  match i,h with
  |0,h=>(obtain⟨a,n,c,h1,h2,h3⟩:=h;exact⟨a,n,c,h1,h2.ext x,h3⟩)
  |1,h=>exact h
  |2,h=>exact h
  |3,h=>exact h
  |4,h=>(obtain⟨a,n,c,h1,h2,h3⟩:=h;exact⟨a,n,c,h1,h2.ext x,h3⟩)
  |5,h=>exact h
  |6,h=>exact h
  |7,h=>exact h
  |8,h=>(obtain⟨a,n,c,h1,h2,h3⟩:=h;exact⟨a,n,c,h1,h2.ext x,h3⟩)
  |9,h=>exact h
  |10,h=>exact h
  |11,h=>exact h
  |12,h=>(obtain⟨a,n,c,h1,h2,h3⟩:=h;exact⟨a,n,c,h1,h2.ext x,h3⟩)
  |_+13,h=>trivial
 ·have zw14:=x14.size;replace B2:=B2.ext x14;refine⟨?_,?_,?_,?_,?_,?_,?_,?_,?_,?_,?_,?_,?_,trivial⟩
  ·intro f w16 x16 hd;refine RS.nmF ?_;dsimp only[nth];refine RS.bs1 V42 T5 (fun b17 w17 e17 s17 x17 B17=>?_);refine RS.nm ?_;have Q1:IRow .u8 (fun k=>k=b17) w17 (some ⟨b17,0,none⟩) 1 [_]:=IRow.of_blk B17 rfl rfl rfl (.cons (by simp only[lim];omega) (.nil _));refine RS.nil ?_;refine⟨.slice (some ⟨b17,0,none⟩) 1 1,?_,x17,?_⟩
   ·simp only[FF,upd,List.map_cons,List.map_nil,List.set_cons_succ,List.set_cons_zero,List.getD_cons_zero,List.getD_cons_succ]
   exact⟨_,_,_,rfl,Q1.weaken (fun _ _ _=>trivial),Nat.le_refl _⟩
  ·intro f w18 x18 hd;refine RS.nmF ?_;dsimp only[nth];refine RS.fl 0 V34 rfl C24 ?_;refine RS.nil ?_;refine⟨.pointer (some ⟨b2,0,none⟩),?_,(Ext.refl _),?_⟩
   ·simp only[FF,upd,List.map_cons,List.map_nil,List.set_cons_succ,List.set_cons_zero,List.getD_cons_zero,List.getD_cons_succ]
   rfl
  ·intro f w19 x19 hd;have h19_1:(f 26)= .pointer (some ⟨b2,0,none⟩):=hd 1 (by decide+kernel);refine RS.nmF ?_;rw[h19_1];dsimp only[nth];replace B2:=B2.ext x19;refine RS.ld V24 B2 ?_;refine RS.nil ?_;refine⟨.int .u32 o.au,?_,(Ext.refl _),?_⟩
   ·simp only[FF,upd,List.map_cons,List.map_nil,List.set_cons_succ,List.set_cons_zero,List.getD_cons_zero,List.getD_cons_succ,h19_1]
   rfl
  ·intro f w20 x20 hd;have h20_2:(f 27)= .int .u32 o.au:=hd 2 (by decide+kernel);refine RS.nmF ?_;rw[h20_2];dsimp only[nth];refine RS.cw V24 V26 ?_;refine RS.nil ?_;refine⟨.int .u64 o.au,?_,(Ext.refl _),?_⟩
   ·simp only[FF,upd,List.map_cons,List.map_nil,List.set_cons_succ,List.set_cons_zero,List.getD_cons_zero,List.getD_cons_succ,h20_2]
   rfl
  ·intro f w21 x21 hd;have h21_3:(f 28)= .int .u64 o.au:=hd 3 (by decide+kernel);refine RS.nmF ?_;rw[h21_3];dsimp only[nth];refine RS.call E122 (numW _ (by omega) _) rfl (fun v22 w22 x22 A22=>?_);obtain⟨a22,n22,c22,rfl,O1⟩:=A22;refine RS.nm ?_;refine RS.nil ?_;refine⟨.slice a22 n22 c22,?_,x22,?_⟩
   ·simp only[FF,upd,List.map_cons,List.map_nil,List.set_cons_succ,List.set_cons_zero,List.getD_cons_zero,List.getD_cons_succ,h21_3]
   exact⟨_,_,_,rfl,O1.row.weaken (fun _ _ _=>trivial),O1.own.pre⟩
  ·intro f w23 x23 hd;refine RS.nmF ?_;dsimp only[nth];refine RS.mvS rfl (RS.nil ?_);refine⟨.slice a12 n12 c12,?_,(Ext.refl _),?_⟩
   ·simp only[FF,upd,List.map_cons,List.map_nil,List.set_cons_succ,List.set_cons_zero,List.getD_cons_zero,List.getD_cons_succ]
   rfl
  ·intro f w24 x24 hd;refine RS.nmF ?_;dsimp only[nth];refine RS.fl 2 V34 rfl C26 ?_;refine RS.nil ?_;refine⟨.pointer (some ⟨b2,2,none⟩),?_,(Ext.refl _),?_⟩
   ·simp only[FF,upd,List.map_cons,List.map_nil,List.set_cons_succ,List.set_cons_zero,List.getD_cons_zero,List.getD_cons_succ]
   rfl
  ·intro f w25 x25 hd;have h25_6:(f 31)= .pointer (some ⟨b2,2,none⟩):=hd 6 (by decide+kernel);refine RS.nmF ?_;rw[h25_6];dsimp only[nth];replace B2:=B2.ext x25;refine RS.ld V26 B2 ?_;refine RS.nil ?_;refine⟨.int .u64 o.st,?_,(Ext.refl _),?_⟩
   ·simp only[FF,upd,List.map_cons,List.map_nil,List.set_cons_succ,List.set_cons_zero,List.getD_cons_zero,List.getD_cons_succ,h25_6]
   rfl
  ·intro f w26 x26 hd;have h26_7:(f 32)= .int .u64 o.st:=hd 7 (by decide+kernel);refine RS.nmF ?_;rw[h26_7];dsimp only[nth];refine RS.call E122 (numW _ (by omega) _) rfl (fun v27 w27 x27 A27=>?_);obtain⟨a27,n27,c27,rfl,O1⟩:=A27;refine RS.nm ?_;refine RS.nil ?_;refine⟨.slice a27 n27 c27,?_,x27,?_⟩
   ·simp only[FF,upd,List.map_cons,List.map_nil,List.set_cons_succ,List.set_cons_zero,List.getD_cons_zero,List.getD_cons_succ,h26_7]
   exact⟨_,_,_,rfl,O1.row.weaken (fun _ _ _=>trivial),O1.own.pre⟩
  ·intro f w28 x28 hd;refine RS.nmF ?_;dsimp only[nth];refine RS.fl 3 V34 rfl C30 ?_;refine RS.nil ?_;refine⟨.pointer (some ⟨b2,3,none⟩),?_,(Ext.refl _),?_⟩
   ·simp only[FF,upd,List.map_cons,List.map_nil,List.set_cons_succ,List.set_cons_zero,List.getD_cons_zero,List.getD_cons_succ]
   rfl
  ·intro f w29 x29 hd;have h29_9:(f 34)= .pointer (some ⟨b2,3,none⟩):=hd 9 (by decide+kernel);refine RS.nmF ?_;rw[h29_9];dsimp only[nth];refine RS.fl 3 V30 rfl C5 ?_;refine RS.nil ?_;refine⟨.pointer (some ⟨b2,3,none⟩),?_,(Ext.refl _),?_⟩
   ·simp only[FF,upd,List.map_cons,List.map_nil,List.set_cons_succ,List.set_cons_zero,List.getD_cons_zero,List.getD_cons_succ,h29_9]
   rfl
  ·intro f w30 x30 hd;have h30_10:(f 35)= .pointer (some ⟨b2,3,none⟩):=hd 10 (by decide+kernel);refine RS.nmF ?_;rw[h30_10];dsimp only[nth];replace B2:=B2.ext x30;refine RS.ld V5 B2 ?_;refine RS.nil ?_;refine⟨.int .u8 o.k,?_,(Ext.refl _),?_⟩
   ·simp only[FF,upd,List.map_cons,List.map_nil,List.set_cons_succ,List.set_cons_zero,List.getD_cons_zero,List.getD_cons_succ,h30_10]
   rfl
  intro f w31 x31 hd;have h31_11:(f 36)= .int .u8 o.k:=hd 11 (by decide+kernel);refine RS.nmF ?_;rw[h31_11];dsimp only[nth];refine RS.bs1 V42 T5 (fun b32 w32 e32 s32 x32 B32=>?_);refine RS.nm ?_;have Q1:IRow .u8 (fun k=>k=b32) w32 (some ⟨b32,0,none⟩) 1 [_]:=IRow.of_blk B32 rfl rfl rfl (.cons (by simp only[lim];omega) (.nil _));refine RS.nil ?_;refine⟨.slice (some ⟨b32,0,none⟩) 1 1,?_,x32,?_⟩
  ·simp only[FF,upd,List.map_cons,List.map_nil,List.set_cons_succ,List.set_cons_zero,List.getD_cons_zero,List.getD_cons_succ,h31_11]
  exact⟨_,_,_,rfl,Q1.weaken (fun _ _ _=>trivial),Nat.le_refl _⟩
 have zw15:=x15.size;obtain⟨g0,g1,g2,g3,g4,g5,g6,g7,g8,g9,g10,g11,g12,_⟩:=hF;replace g0:∃a n c,(f 25)= .slice a n c∧IRow .u8 (fun _=>True) w15 a n [111]∧n≤c:=g0;replace g1:(f 26)= .pointer (some ⟨b2,0,none⟩):=g1;replace g2:(f 27)= .int .u32 o.au:=g2;replace g3:(f 28)= .int .u64 o.au:=g3;replace g4:∃a n c,(f 29)= .slice a n c∧IRow .u8 (fun _=>True) w15 a n (S.numS o.au)∧n≤c:=g4;replace g5:(f 30)= .slice a12 n12 c12:=g5;replace g6:(f 31)= .pointer (some ⟨b2,2,none⟩):=g6;replace g7:(f 32)= .int .u64 o.st:=g7;replace g8:∃a n c,(f 33)= .slice a n c∧IRow .u8 (fun _=>True) w15 a n (S.numS o.st)∧n≤c:=g8;replace g9:(f 34)= .pointer (some ⟨b2,3,none⟩):=g9;replace g10:(f 35)= .pointer (some ⟨b2,3,none⟩):=g10;replace g11:(f 36)= .int .u8 o.k:=g11;replace g12:∃a n c,(f 37)= .slice a n c∧IRow .u8 (fun _=>True) w15 a n [o.k]∧n≤c:=g12;obtain⟨a25,n25,c25,g0,Q25,l25⟩:=g0;obtain⟨a29,n29,c29,g4,Q29,l29⟩:=g4;obtain⟨a33,n33,c33,g8,Q33,l33⟩:=g8;obtain⟨a37,n37,c37,g12,Q37,l37⟩:=g12;refine RX.norm (by simp only[FF,upd,List.map_cons,List.map_nil,List.set_cons_succ,List.set_cons_zero];exact rfl) ?_;rw[g0,g1,g2,g3,g4,g5,g6,g7,g8,g9,g10,g11,g12];refine RX.eff ?_;refine RS.buildSlice (xs:=[.tmp 25, .tmp 29, .tmp 30, .tmp 33, .tmp 37]) (vs:=[.slice _ _ _, .slice _ _ _, .slice _ _ _, .slice _ _ _, .slice _ _ _]) (cs:=[.slice _ _ _, .slice _ _ _, .slice _ _ _, .slice _ _ _, .slice _ _ _]) V198 T42 (by decide) rfl rfl rfl rfl rfl rfl (by intro v hv;simp only[List.mem_cons,List.not_mem_nil,or_false]at hv;rcases hv with rfl|rfl|rfl|rfl|rfl<;>rfl) rfl (fun b33 w33 e33 s33 x33 B33=>?_);refine RS.nm ?_;refine RS.nil ⟨x33,?_⟩;refine RX.eff ?_;replace OP:=(OP.ext x15).ext x33;replace Q25:=Q25.ext x33;replace Q29:=Q29.ext x33;replace Q33:=Q33.ext x33;replace Q37:=Q37.ext x33
 refine RS.call E121 (concat [⟨a25,n25,c25,[111]⟩,⟨a29,n29,c29,S.numS o.au⟩,⟨a12,n12,c12,S.listS o.n o.ids⟩,⟨a33,n33,c33,S.numS o.st⟩,⟨a37,n37,c37,[o.k]⟩] _ _ _ _ (PRow.of_blkE B33 rfl rfl ⟨⟨_,Q25,l25⟩,⟨_,Q29,l29⟩,⟨_,OP.row,hpc⟩,⟨_,Q33,l33⟩,⟨_,Q37,l37⟩,trivial⟩) (show(5:Nat)≤1000 by decide) (by simp[cat,S.listS];omega)) rfl (fun v34 w34 x34 A34=>?_);have zw34:=x34.size;obtain⟨a34,n34,c34,rfl,O1⟩:=A34;have ecat:cat [⟨a25,n25,c25,[111]⟩,⟨a29,n29,c29,S.numS o.au⟩,⟨a12,n12,c12,S.listS o.n o.ids⟩,⟨a33,n33,c33,S.numS o.st⟩,⟨a37,n37,c37,[o.k]⟩]=([111]++S.numS o.au++S.listS o.n o.ids++S.numS o.st++[o.k]):=by simp[cat]
 rw[ecat]at O1;replace O1:=O1.base (lo':=w2.heap.size) (fun k hk=>by have:=O1.lo k hk;omega);have hol0:=O1.len;simp only[List.length_append,List.length_singleton,S.listS]at hol0;refine RS.nm ?_;refine RS.nil ⟨x34,?_⟩;refine RX.assign (v:= .slice _ _ _) rfl ?_;refine RX.nil (J13 _ _ ?_);refine wx fun _ J35=>sq fun _ J36=>?_
 refine RS.fl 3 V34 rfl C30 ?_;refine RS.fl 3 V30 rfl C5 ?_;replace B2:=((B2.ext x15).ext x33).ext x34;refine RS.ld V5 B2 ?_;refine RS.oq ?_;refine nl J36 ?_;replace hE:=Ext.tr (Ext.tr (Ext.tr (Ext.tr hE x12) x15) x33) x34;refine C.ife rfl (fun c37=>?_) (fun c37=>?_)
 ·have hk:=c37;refine sq fun _ J38=>RS.mvS rfl (RS.asS rfl (RS.asI rfl (nl J38 (wp_ret ?_))));refine retSI ?_;have em:S.msgS o=([111]++S.numS o.au++S.listS o.n o.ids++S.numS o.st++[o.k]):=by unfold S.msgS;rw[if_pos hk,List.append_nil]
  exact⟨_,rfl,hE,_,_,_,_,by rw[hz],O1.base (fun k hk=>by have:=O1.lo k hk;omega),by rw[if_pos hz,em]⟩
 have hk:=c37;refine wp_skip (J35 _ _ (sq fun _ J39=>?_));refine RS.fl 3 V34 rfl C30 ?_;refine RS.fl 4 V30 rfl C9 ?_;refine RS.ld V9 B2 ?_;refine RS.convSB rfl V9 V42 V5 (fun a40 c40 w40 x40 g40 s40 R40=>?_);refine RS.nm ?_;have RT:=R40;refine RS.call E123 (bytesW _ _ _ _ _ RT (by omega)) rfl (fun v41 w41 x41 A41=>?_);have zw41:=x41.size;obtain⟨a41,n41,c41,rfl,O2⟩:=A41;have hnl:=O2.len;rw[List.length_append,bys_len]at hnl;refine RS.nm ?_;refine RS.move (v:= .tuple _) rfl ?_;refine RS.exS ?_;refine RS.exI ?_;refine RS.asS rfl (RS.asI rfl ?_);refine nl J39 (sq fun _ J42=>?_);refine RS.mvS rfl (RS.mvS rfl ?_);replace O1:=(O1.ext x40).ext x41;refine RS.appendI O1 O2.row rfl rfl V42 T5 rfl (by omega) (by decide) (by omega) (fun a43 c43 w43 N43 x43=>?_);refine RS.nm ?_;replace hE:=Ext.tr (Ext.tr hE x40) x41;replace hE:=hE.trans (x43.belQ (fun _ h=>(O1.lo _ h).1));replace D0:=(((((D0.ext x12).ext x15).ext x33).ext x34).ext x40).ext x41;replace D0:=D0.prQ x43 (fun _ h=>(O1.lo _ h).1);replace B2:=(B2.ext x40).ext x41;replace B2:=B2.prQ x43 (fun _ h=>(O1.lo _ h).1);have zw43:=x43.size;replace O1:=N43;refine RS.nm ?_;have hol:=O1.len;refine RS.asS rfl (nl J42 (wx fun _ J44=>sq fun _ J45=>?_));refine RS.fl 3 V34 rfl C30 ?_;refine RS.fl 3 V30 rfl C5 ?_;refine RS.ld V5 B2 ?_;refine RS.oq ?_;refine nl J45 ?_;refine C.ife rfl (fun c46=>?_) (fun c46=>?_)
 ·have hk4:=c46;refine sq fun _ J47=>?_
  refine RS.fl 3 V34 rfl C30 ?_;refine RS.fl 5 V30 rfl C28 ?_;refine RS.la V28 C28 B2 4 ?_;have hfv:S.FineV o.vk o.num o.bits o.t:=by rcases hfa with h|h|h;exact absurd h.1 (by show o.bare.k≠1;show o.k≠1;omega);exact absurd h.1 (by show ¬(o.k=2∨o.k=3);omega);exact h.2.2
  refine RS.call E124 (encV _ _ _ _ o4 o5 o6 hfv (by omega) _) rfl (fun v48 w48 x48 A48=>?_);have zw48:=x48.size;obtain⟨a48,n48,c48,rfl,O3⟩:=A48;have hvl:=O3.len;refine RS.nm ?_;refine RS.move (v:= .tuple _) rfl ?_;refine RS.exS ?_;refine RS.exI ?_;refine RS.asS rfl (RS.asI rfl (nl J47 (region (RS.mvS rfl (RS.mvS rfl ?_)))));replace O1:=O1.ext x48;refine RS.appendI O1 O3.row rfl rfl V42 T5 rfl (by omega) (by decide) (by omega) (fun a49 c49 w49 N49 x49=>?_);refine RS.nm ?_;replace hE:=Ext.tr hE x48;replace hE:=hE.trans (x49.belQ (fun _ h=>(O1.lo _ h).1));replace D0:=D0.ext x48;replace D0:=D0.prQ x49 (fun _ h=>(O1.lo _ h).1);replace B2:=B2.ext x48;replace B2:=B2.prQ x49 (fun _ h=>(O1.lo _ h).1);replace O1:=N49;refine RS.asS rfl ?_;refine nl J44 (sq fun _ J50=>?_);refine RS.mvS rfl (RS.asS rfl (RS.asI rfl (nl J50 (wp_ret ?_))));refine retSI ?_;have em:S.msgS o=([111]++S.numS o.au++S.listS o.n o.ids++S.numS o.st++[o.k])++(S.numS o.key.size++bys o.key)++S.valS o.vk o.num o.bits o.t:=by unfold S.msgS;rw[if_neg hk,if_pos hk4,←List.append_assoc]
  exact⟨_,rfl,hE,_,_,_,_,by rw[hz],O1.base (fun k hk=>by have:=O1.lo k hk;omega),by rw[if_pos hz,em]⟩
 have hk4:=c46;refine wp_skip (J44 _ _ (sq fun _ J51=>RS.mvS rfl (RS.asS rfl (RS.asI rfl (nl J51 (wp_ret ?_))))));refine retSI ?_;have em:S.msgS o=([111]++S.numS o.au++S.listS o.n o.ids++S.numS o.st++[o.k])++(S.numS o.key.size++bys o.key):=by unfold S.msgS;rw[if_neg hk,if_neg hk4,List.append_nil]
 exact⟨_,rfl,hE,_,_,_,_,by rw[hz],O1.base (fun k hk=>by have:=O1.lo k hk;omega),by rw[if_pos hz,em]⟩
theorem E79:Enters prog 79:= .mk func79 (by kernel_rfl) rfl
theorem E84:Enters prog 84:= .mk func84 (by kernel_rfl) rfl
theorem E85:Enters prog 85:= .mk func85 (by kernel_rfl) rfl
theorem encodeO{S0:Nat→Prop}(o:S.OpV)(ho:o.ok)(pa:Option Addr)(pc:Nat)(w:World)(D0:WRow .u8 32 S0 w pa o.n o.ids)(hc:o.n≤pc):
  Calls prog 84 #[.agg ([.int .u32 o.au, .slice pa o.n pc, .int .u64 o.st, .int .u8 o.k, .string o.key, .int .u8 o.vk, .int .i64 o.num, .int .u64 o.bits, .string o.t, .int .u32 o.e, .int .u32 o.s]:List Value).toArray] w (Ret w fun v w'=>∃a' n' c' xs,v= .tuple #[.slice a' n' c', .int .i64 (S.checkE o)]∧IOwn w.heap.size w' 5 .u8 a' n' c' xs∧xs=if S.checkE o=0 then S.encS o else []):=by
 replace D0:=D0.weaken (T:=fun k=>k<w.heap.size) (fun k hk _=>hk);have o7:=ho.e;have o8:=ho.s;have e4:=D0.len;have e7:=S.numS_len o.e;have e8:=S.numS_len o.s;refine eE 29 func84 rfl rfl fun hE=>?_
 refine sq fun _ J1=>?_
 refine RS.box rfl rfl (fun b2 w2 e2 s2 x2 B2=>?_);refine RS.nm ?_;refine RS.asS rfl (RS.asI rfl (nl J1 (wx fun _ J3=>sq fun _ J4=>?_)));refine RS.la V34 C34 B2 11 ?_;replace D0:=D0.ext x2;refine RS.call E82 (checkO o ho _ _ _ D0 hc) rfl (fun v5 w5 x5 A5=>?_);have zw5:=x5.size;subst A5;refine RS.nm ?_;refine RS.asI rfl ?_;refine nl J4 (sq fun _ J6=>?_);refine RS.mvI rfl ?_;refine RS.on ?_;refine nl J6 ?_;replace hE:=Ext.tr (Ext.tr hE x2) x5;refine C.ifn rfl (fun c7=>?_) (fun c7=>?_)
 ·have hnz:=c7;refine sq fun _ J8=>RS.mvI rfl (RS.asS rfl (RS.asI rfl (nl J8 (wp_ret ?_))));refine retSI ?_;exact⟨_,rfl,hE,none,0,0,[],rfl,IOwn.nil _ _ _ _,(if_neg hnz).symm⟩
 have hz:=c7;obtain⟨q1,q2,q3⟩:=S.check_zero.1 hz;have hml:=S.msg_len o ho q1 e4;have hzb:S.checkE o.bare=0:=S.check_zero.2 ⟨q1,q2,q3.1,q3.2.1,(by show(0:Int)<500000003;decide),(by show(0:Int)<500000003;decide),q3.2.2.2.2⟩;refine wp_skip (J3 _ _ (sq fun _ J9=>?_));replace B2:=B2.ext x5;refine RS.la V34 C34 B2 11 ?_;replace D0:=D0.ext x5;refine RS.call E79 (messageO o ho _ _ _ D0 hc) rfl (fun v10 w10 x10 A10=>?_);have zw10:=x10.size;obtain⟨a10,n10,c10,xs,rfl,OM,hxs⟩:=A10;rw[if_pos hzb]at hxs;subst hxs;have hOM:=OM.len;have pOM:=OM.own.pre;refine RS.nm ?_;refine RS.move (v:= .tuple _) rfl ?_;refine RS.exS ?_;refine RS.exI ?_;refine RS.asS rfl (RS.asI rfl (nl J9 (wx fun _ J11=>?_)));refine regionX Ext [(0, .q),(1, .q),(2, .q),(3, .q),(4, .q),(6, .q),(7, .q),(8, .q),(9, .q),(5, .e),(10, .e),(11, .e),(12, .e),(13, .q),(14, .q)] mixed Ext.refl (fun h k=>h.tr k) (by kernel_rfl) (fun w12 x12=>?_);have zw12:=x12.size;refine RX.mvS rfl ?_;refine RX.fl 9 V34 rfl C32 ?_;refine RX.fl 9 V32 rfl C24 ?_;replace B2:=(B2.ext x10).ext x12;refine RX.o (fun w' hw=>D.load rfl V24 rfl ((B2.ext hw).cell rfl)) ?_;refine RX.o (fun w' hw=>D.conv rfl V24 V26 (W.u64 (by omega))) ?_;refine RX.fl 9 V34 rfl C32 ?_;refine RX.fl 10 V32 rfl C24 ?_;refine RX.o (fun w' hw=>D.load rfl V24 rfl ((B2.ext hw).cell rfl)) ?_;refine RX.o (fun w' hw=>D.conv rfl V24 V26 (W.u64 (by omega))) ?_;refine RX.eff ?_;refine RS.call E122 (numW _ (by omega) _) rfl (fun v13 w13 x13 A13=>?_);have zw13:=x13.size;obtain⟨a13,n13,c13,rfl,OA⟩:=A13;have hOA:=OA.len;have pOA:=OA.own.pre;refine RS.nm ?_;refine RS.nil ⟨x13,?_⟩;refine RX.eff ?_;refine RS.call E122 (numW _ (by omega) _) rfl (fun v14 w14 x14 A14=>?_);have zw14:=x14.size;obtain⟨a14,n14,c14,rfl,OB⟩:=A14;have hOB:=OB.len;have pOB:=OB.own.pre;refine RS.nm ?_;refine RS.nil ⟨x14,?_⟩;refine RX.eff ?_
 refine RS.buildSlice (xs:=[.tmp 17, .tmp 22, .tmp 27]) (vs:=[.slice _ _ _, .slice _ _ _, .slice _ _ _]) (cs:=[.slice _ _ _, .slice _ _ _, .slice _ _ _]) V198 T42 (by decide) rfl rfl rfl rfl rfl rfl (by intro v hv;simp only[List.mem_cons,List.not_mem_nil,or_false]at hv;rcases hv with rfl|rfl|rfl<;>rfl) rfl (fun b15 w15 e15 s15 x15 B15=>?_);refine RS.nm ?_;refine RS.nil ⟨x15,?_⟩;refine RX.eff ?_;replace OM:=(((OM.ext x12).ext x13).ext x14).ext x15;replace OA:=(OA.ext x14).ext x15;replace OB:=OB.ext x15;refine RS.call E121 (concat [⟨a10,n10,c10,S.msgS o⟩,⟨a13,n13,c13,S.numS o.e⟩,⟨a14,n14,c14,S.numS o.s⟩] _ _ _ _ (PRow.of_blkE B15 rfl rfl ⟨⟨_,OM.row,pOM⟩,⟨_,OA.row,pOA⟩,⟨_,OB.row,pOB⟩,trivial⟩) (show(3:Nat)≤1000 by decide) (by simp[cat];omega)) rfl (fun v16 w16 x16 A16=>?_);obtain⟨a16,n16,c16,rfl,O1⟩:=A16;have ecat:cat [⟨a10,n10,c10,S.msgS o⟩,⟨a13,n13,c13,S.numS o.e⟩,⟨a14,n14,c14,S.numS o.s⟩]=S.encS o:=by simp[cat,S.encS]
 rw[ecat]at O1;refine RS.nm ?_;refine RS.nil ⟨x16,?_⟩;refine RX.assign (v:= .slice _ _ _) rfl ?_;refine RX.assign (v:= .int .i64 0) rfl ?_;refine RX.nil (J11 _ _ ?_);refine wp_ret ?_;refine retSI ?_;replace hE:=Ext.tr (Ext.tr (Ext.tr (Ext.tr (Ext.tr (Ext.tr hE x10) x12) x13) x14) x15) x16;exact⟨_,rfl,hE,_,_,_,_,by rw[hz],O1.base (fun k hk=>by have:=O1.lo k hk;omega),(if_pos hz).symm⟩
theorem idO{S0:Nat→Prop}(o:S.OpV)(ho:o.ok)(pa:Option Addr)(pc:Nat)(TK:TypeId)(w:World)(K0:Kst w TK)(D0:WRow .u8 32 S0 w pa o.n o.ids)(hc:o.n≤pc):
  Calls prog 44 #[.agg ([.int .u32 o.au, .slice pa o.n pc, .int .u64 o.st, .int .u8 o.k, .string o.key, .int .u8 o.vk, .int .i64 o.num, .int .u64 o.bits, .string o.t, .int .u32 o.e, .int .u32 o.s]:List Value).toArray] w (Ret w fun v _=>v= .tuple #[.agg (ints .u8 (if S.checkE o=0 then S.sha (S.encS o)else List.replicate 32 0)).toArray, .int .i64 (S.checkE o)]):=by
 replace D0:=D0.weaken (T:=fun k=>k<w.heap.size) (fun k hk _=>hk);have e4:=D0.len;have e7:=S.numS_len o.e;have e8:=S.numS_len o.s;have hz0:=Arr.zeros .u8 32;refine eE 18 func44 rfl rfl fun hE=>?_
 refine sq fun _ J1=>?_
 refine RS.box rfl rfl (fun b2 w2 e2 s2 x2 B2=>?_);refine RS.nm ?_;refine RS.alloc T23 (fun b3 w3 e3 s3 x3 B3=>?_);refine RS.nm ?_;have A3:IArr .u8 w3 b3 32 (List.replicate 32 0) [] 23:=IArr.zero B3;clear B3;refine RS.asI rfl ?_;refine nl J1 (sq fun _ J4=>?_);replace B2:=B2.ext x3;refine RS.la V34 C34 B2 11 ?_;replace D0:=(D0.ext x2).ext x3;refine RS.call E84 (encodeO o ho _ _ _ D0 hc) rfl (fun v5 w5 x5 A5=>?_);obtain⟨a5,n5,c5,xs,rfl,O1,hxs⟩:=A5;refine RS.nm ?_;refine RS.move (v:= .tuple _) rfl ?_;refine RS.exS ?_;refine RS.exI ?_;refine RS.asS rfl (RS.asI rfl (nl J4 (wx fun _ J6=>sq fun _ J7=>RS.mvI rfl ?_)));refine RS.on ?_;refine nl J7 ?_;replace hE:=Ext.tr (Ext.tr (Ext.tr hE x2) x3) x5;replace A3:=A3.ext x5;refine C.ifn rfl (fun c8=>?_) (fun c8=>?_)
 ·have hnz:=c8;refine sq fun _ J9=>?_
  refine RS.o (D.build0 V23 T23 C5) ?_;refine RS.mvI rfl ?_;refine RS.sr A3 C23 (fun w10 y10 N10=>?_);replace O1:=O1.stQ y10 (fun _ h=>(O1.own.lo _ h).1);replace A3:=N10;refine RS.asI rfl (nl J9 (wp_ret ?_));refine ret (rs:=[.cell 2 23, .tmp 3]) (vs:=[.agg _, .int _ _]) (v:=(.tuple #[.agg _, .int _ _])) rfl ⟨⟨_,rfl,loadVar_agg V23 rfl C23 (by decide) (by rw[ints_length,A3.len]) A3.cells⟩,rfl,trivial⟩ rfl ?_;rw[if_neg hnz];replace hE:=hE.trans y10.belo;exact⟨_,rfl,hE,rfl⟩
 have hz:=c8;obtain⟨q1,q2,q3⟩:=S.check_zero.1 hz;have hml:=S.msg_len o ho q1 e4;have hel:(S.encS o).length≤418:=by unfold S.encS;rw[List.length_append,List.length_append];omega
 rw[if_pos hz]at hxs;subst hxs;refine wp_skip (J6 _ _ (sq fun _ J11=>RS.mvS rfl ?_));replace K0:=((K0.ext x2).ext x3).ext x5;refine RS.call E85 (sum _ _ _ _ _ _ K0 O1.row O1.own.pre (by have:=O1.len;omega)) rfl (fun v12 w12 x12 A12=>?_);subst A12;have hsa:=S.sha_arr (S.encS o);refine RS.nm ?_;refine RS.exA ?_;refine RS.exI ?_;replace A3:=A3.ext x12;refine RS.sr A3 C23 (fun w13 y13 N13=>?_);replace O1:=O1.ext x12;replace O1:=O1.stQ y13 (fun _ h=>(O1.own.lo _ h).1);replace A3:=N13;refine RS.asI rfl (nl J11 (wp_ret ?_));refine ret (rs:=[.cell 2 23, .tmp 3]) (vs:=[.agg _, .int _ _]) (v:=(.tuple #[.agg _, .int _ _])) rfl ⟨⟨_,rfl,loadVar_agg V23 rfl C23 (by decide) (by rw[ints_length,A3.len]) A3.cells⟩,rfl,trivial⟩ rfl ?_;rw[if_pos hz,hz];replace hE:=(Ext.tr hE x12).trans y13.belo;exact⟨_,rfl,hE,rfl⟩
end W
end Go.Proofs.YtjjbdaiioociaaaGreatDoor
