import Derived.Test.YtphkhfdmlcnoeaaGreatDoorQ20
namespace Go.Proofs.YtphkhfdmlcnoeaaGreatDoor
set_option linter.unusedVariables false
set_option linter.unusedSimpArgs false
set_option maxRecDepth 1000000
set_option maxHeartbeats 32000000
open Go.RowKit
section
variable {l m:Int}{n:Nat}{t t':TypeId}{x y:Operand}{ι:Type}
theorem QlI(c:UInt8):Lib.indexByte [48,49,50,51,52,53,54,55,56,57,97,98,99,100,101,102] c=XG c:=by
 have h:∀n:Fin 256,Lib.indexByte [48,49,50,51,52,53,54,55,56,57,97,98,99,100,101,102] (UInt8.ofNat n)=XG (UInt8.ofNat n):=by decide+kernel
 have:=h ⟨c.toNat,c.toNat_lt⟩;simpa using this
theorem K3(c:UInt8)(w:World):Calls Tryz.prog 167 #[.string ⟨#[48,49,50,51,52,53,54,55,56,57,97,98,99,100,101,102]⟩,.int .u8 (c.toNat:Int)] w fun e w'=>e=.returned (.int .i64 (XG c))/\Below w.heap.size w w':=by
 refine(Tryz.strings_IndexByte _ (c.toNat:Int) w).mono ?_;rintro e w' ⟨rfl,rfl⟩;refine⟨?_,Below.refl _ _⟩;have e1:((c.toNat:Int).toNat).toUInt8=c:=by simp
 rw[e1];exact congrArg (fun z=>Ending.returned (Value.int .i64 z)) (QlI c)
def Jp(h l:Int):UInt8:=UInt8.ofNat ((h*16+l % 16) % 256).toNat
theorem Qa4(c:UInt8):-1<=XG c/\XG c<=15:=by
 unfold XG;split
 ·omega
 ·split
  ·omega
  ·omega
theorem QkC{a b:UInt8}(hb:¬XG b<0):Jp (XG a) (XG b)=Q4d a b:=by
 have:=Qa4 b;unfold Jp Q4d;rw[show XG b % 16=XG b by omega]
section
variable {P:Program}{ops:Array Oper}{C:World->Prop}{N:Nat}{E:Env}{o:Oper}{d:Nat}
theorem Qc2(h:-1<=m/\m<=15):∃n:Fin 17,m=((n:Nat):Int) - 1:=⟨⟨(m+1).toNat,by omega⟩,by simp only;omega⟩
theorem QdU(h:-1<=m/\m<=15)(ho:o.op=.binOp .shl t x y t')(hd:o.dst=some d)(hN:d<N)(hw:Qm ops E o=some true)(hx:ev E x=some (.int .i64 m))(hy:ev E y=some (.int .u64 4)):oE P ops C N E ((d,.int .i64 (m*16))::E) o:=
 Km ho hd hN hw hx hy fun w=>by
  rw[binOp_shl,shift_shl_i64 (h₀:=by decide) (h₁:=by decide)];have e:IntKind.i64.wrap (m*2 ^ (4:Int).toNat)=m*16:=by
   rw[show (2:Int) ^ (4:Int).toNat=16 by decide];exact IntWalk.i64_in _ Q2
  rw[e];rfl
theorem QaK(h:-1<=m/\m<=15)(ho:o.op=.binOp .and t x y t')(hd:o.dst=some d)(hN:d<N)(hw:Qm ops E o=some true)(hx:ev E x=some (.int .i64 m))(hy:ev E y=some (.int .i64 15)):oE P ops C N E ((d,.int .i64 (m % 16))::E) o:=
 Km ho hd hN hw hx hy fun w=>by
  have h':∀n:Fin 17,bits .and .i64 (((n:Nat):Int) - 1) 15=(((n:Nat):Int) - 1) % 16:=by decide+kernel
  obtain⟨n,rfl⟩:=Qc2 h;rw[binOp_and,intBits_and,h' n];rfl
theorem Qf8(h:-1<=m/\m<=15)(hl:-1<=l/\l<=15)(ho:o.op=.binOp .or t x y t')(hd:o.dst=some d)(hN:d<N)(hw:Qm ops E o=some true)(hx:ev E x=some (.int .i64 (m*16)))(hy:ev E y=some (.int .i64 (l % 16))):oE P ops C N E ((d,.int .i64 (m*16+l % 16))::E) o:=
 Km ho hd hN hw hx hy fun w=>by
  have h':∀n k:Fin 17,bits .or .i64 ((((n:Nat):Int) - 1)*16) ((((k:Nat):Int) - 1) % 16)=(((n:Nat):Int) - 1)*16+(((k:Nat):Int) - 1) % 16:=by decide+kernel
  obtain⟨n,rfl⟩:=Qc2 h;obtain⟨k,rfl⟩:=Qc2 hl;rw[binOp_or,intBits_or,h' n k];rfl
theorem Q3O(h:-1<=m/\m<=15)(hl:-1<=l/\l<=15):IntKind.u8.wrap (m*16+l % 16)=((Jp m l).toNat:Int):=by
 have h':∀n k:Fin 17,IntKind.u8.wrap ((((n:Nat):Int) - 1)*16+(((k:Nat):Int) - 1) % 16)=((Jp (((n:Nat):Int) - 1) (((k:Nat):Int) - 1)).toNat:Int):=by decide+kernel
 obtain⟨n,rfl⟩:=Qc2 h;obtain⟨k,rfl⟩:=Qc2 hl;exact h' n k
end
theorem QnX(l:List UInt8)(i:Nat):(⟨l.toArray⟩:ByteArray)[i]? =l[i]?:=by
 by_cases h:i<l.length
 ·rw[List.getElem?_eq_getElem h,getElem?_pos (⟨l.toArray⟩:ByteArray) i (by rw[ZH];exact h)]
  rfl
 ·rw[List.getElem?_eq_none Q2,getElem?_neg (⟨l.toArray⟩:ByteArray) i (by rw[ZH];exact h)]
section
variable {P:Program}{Q:Exit->Act->World->Prop}{N:Nat}{M:List Nat}{W:World}{E:Env}{O:List Qf}
theorem Q2O{c:Code}(p:ι->Prop)(m:ι->Nat)(F:ι->Env)(G:ι->List Qf)(i0:ι)(h0:p i0)(hE:Q40 E (F i0))(hG:∀w,Wd M W O w->Wd M W (G i0) w)
  (hr:∀i,p i->sE P (Exit.then (Q8H p m (m i) N M W F G) Q) N M W (F i) (G i) c):sE P Q N M W E O (.loop c):=fun a w ha hw=>by
 refine wp_loop_ghost (fun n a w=>∃i,p i/\m i=n/\Ag N (F i) a/\Wd M W (G i) w) (m i0) ⟨i0,h0,rfl,hE.ag ha,hG w hw⟩ ?_;rintro n a w ⟨i,hp,rfl,ha,hw⟩;refine wp_mono (hr i hp a w ha hw) ?_;intro e a' w' hq;cases e with
 |normal=>
  obtain⟨j,h1,h2,h3,h4⟩:=hq;exact⟨m j,h2,j,h1,rfl,h3,h4⟩
 |exit id=>exact hq
 |goto l=>exact hq
 |ret=>exact hq
 |panic ch=>exact hq
 |outgrown=>exact hq
theorem ZB{p:ι->Prop}{m:ι->Nat}{F:ι->Env}{G:ι->List Qf}(j:ι)(hp:p j)(hm:m j<n)(hE:Q40 E (F j))(hG:∀w,Wd M W O w->Wd M W (G j) w):xE (Exit.then (Q8H p m n N M W F G) Q) N M W E O .normal:=fun a w ha hw=>
 ⟨j,hp,hm,hE.ag ha,hG w hw⟩
end
section
variable {P:Program}{ops:Array Oper}{C:World->Prop}{N:Nat}{E:Env}{o:Oper}{d:Nat}
theorem Qjv(hn:n<=1048576)(ho:o.op=.binOp .rem t x y t')(hd:o.dst=some d)(hN:d<N)(hw:Qm ops E o=some true)(hx:ev E x=some (.int .i64 (n:Int)))(hy:ev E y=some (.int .i64 2)):oE P ops C N E ((d,.int .i64 ((n:Int) % 2))::E) o:=
 Km ho hd hN hw hx hy fun w=>by
  rw[binOp_rem];simp [Op.intDiv,go_sem];exact IntWalk.rem_in (n:Int) 2 Q2
end
def Q1U(x:List UInt8):Bool:=x != []&&(XI x).isSome
theorem Q3M{a b:UInt8}:∀{l out:List UInt8},XI l=some out->XI (l++[a,b])=if XG a<0\/XG b<0 then none else some (out++[Q4d a b])
 |[],out,h=>by
  cases h
  show XI [a,b]=_
  rw[XI]
  split<;>rfl
 |[_],out,h=>by cases h
 |c::d::l,out,h=>by
  rw[XI] at h
  split at h
  ·cases h
  ·next hn=>
   cases hu:XI l with
   |none=>rw[hu] at h;cases h
   |some t=>
    rw[hu] at h
    cases h
    show XI (c::d::(l++[a,b]))=_
    rw[XI,if_neg hn,Q3M hu]
    split<;>rfl
theorem Q5Q{a b:UInt8}:∀{l:List UInt8},l.length % 2=0->XI l=none->XI (l++[a,b])=none
 |[],_,h=>by cases h
 |[_],hl,_=>by simp at hl
 |c::d::l,hl,h=>by
  rw[XI] at h
  show XI (c::d::(l++[a,b]))=_
  rw[XI]
  split
  ·rfl
  ·next hn=>
   rw[if_neg hn] at h
   cases hu:XI l with
   |none=>rw[Q5Q (by simp only[List.length_cons] at hl;omega) hu];rfl
   |some t=>rw[hu] at h;cases h
theorem Q3Y:∀{l:List UInt8},l.length % 2≠0->XI l=none
 |[],h=>absurd rfl h
 |[_],_=>rfl
 |c::d::l,h=>by
  rw[XI]
  split
  ·rfl
  ·rw[Q3Y (by simp only[List.length_cons] at h;omega)];rfl
structure HxI(x:List UInt8)(b1:Bool)(y:Nat×Option Addr×Nat×List UInt8×Bool):Prop where
 i:y.1<=x.length/\y.1 % 2=0
 len:y.2.2.2.1.length<=y.1
 b:y.2.2.2.2=(b1||!((XI (x.take y.1)).isSome))
 ok:∀out,XI (x.take y.1)=some out->out=y.2.2.2.1
theorem HxI.step{x:List UInt8}{b1:Bool}{i c c':Nat}{A A':Option Addr}{out:List UInt8}{b:Bool}{p q:UInt8}(h:HxI x b1 (i,A,c,out,b))(hp:x[i]? =some p)(hq:x[i+1]? =some q):HxI x b1 (i+2,A',c',out++[Jp (XG p) (XG q)],b||(decide (XG p<0)||decide (XG q<0))):=by
 have hl:i+1<x.length:=(List.getElem?_eq_some_iff.1 hq).1;have htk:x.take (i+2)=x.take i++[p,q]:=by
  rw[show i+2=i+1+1 by omega,List.take_add_one,List.take_add_one,hp,hq];simp
 have hi:=h.i;have hlen:=h.len;have hb:=h.b;have hok:=h.ok;simp only at hi hlen hb hok;refine⟨⟨by show i+2<=_;omega,by show (i+2) % 2=0;omega⟩,by show (out++_).length<=i+2;rw[List.length_append];simp only[List.length_cons,List.length_nil];omega,?_,?_⟩
 ·show (b||_)=(b1||!((XI (x.take (i+2))).isSome))
  rw[htk,hb];cases hu:XI (x.take i) with
  |none=>
   rw[Q5Q (by rw[List.length_take];omega) hu];simp
  |some o=>
   rw[Q3M hu];by_cases h1:XG p<0
   ·simp [h1]
   ·by_cases h2:XG q<0
    ·simp [h2]
    ·simp [h1,h2]
 ·intro o ho
  show o=out++[Jp (XG p) (XG q)];have ho':XI (x.take (i+2))=some o:=ho;rw[htk] at ho';cases hu:XI (x.take i) with
  |none=>rw[Q5Q (by rw[List.length_take];omega) hu] at ho';cases ho'
  |some o1=>
   rw[Q3M hu] at ho';split at ho'
   ·cases ho'
   ·next hn=>
    cases ho'
    rw[hok o1 hu,QkC (fun h2=>hn (.inr h2))]
section
variable {M:List Nat}{W w:World}{O:List Qf}{br bw q N k c:Nat}{bad:Bool}{ws ns:List (List UInt8)}{A:Option Addr}
abbrev HxY:Type:=(Nat×Nat)×Option Addr×Nat×List UInt8×Bool
theorem QtH(hall:∀s∈ws,s.length<=1048576)(hN:ws.length=N)(hq:k<N->q=k)(hk:k<=N)(hn:N<=1048576)(hw:Wd M W (rdO br bw q N k bad ws A c ns++O) w):
  Calls Tryz.prog 134 #[.pointer (some ⟨br,0,none⟩)] w (QN (fun y:HxY=>.slice y.2.1 y.2.2.2.1.length y.2.2.1) (fun y=>(y.1.1=min (k+1) N/\(y.1.1<N->y.1.2=y.1.1))/\y.2.2.2.2=((bad||decide (N<=k))||!(Q1U (wAt ws k)))/\(∀out,XI (wAt ws k)=some out->wAt ws k≠[]->out=y.2.2.2.1)) M W (fun y=>.row y.2.1 y.2.2.2.1.length y.2.2.1 5 1 (bv y.2.2.2.1)::(rdO br bw y.1.2 N y.1.1 y.2.2.2.2 ws A c ns++O))):=by
 have hxl:=Q0T hall k;obtain⟨x,hx⟩:∃x,wAt ws k=x:=⟨_,rfl⟩;obtain⟨b1,hb1⟩:∃b1,(bad||decide (N<=k))=b1:=⟨_,rfl⟩;have HX:=Q3 hx;have HB:=Q3 hb1;rw[hx] at hxl;rw[hx,hb1];clear hx hb1 hall;have hsz:=ZH x;go_enter Tryz.func134,Tryz.ntmps134;refine Qy (M:=M) (W:=W) (N:=61) (E:=[(0,.pointer (some ⟨br,0,none⟩))]) (O:=rdO br bw q N k bad ws A c ns++O) ?_ (Ag.cons (Ag.nil rfl rfl) rfl) hw;by_cases he:x=[]
 ·have he1:((⟨x.toArray⟩:ByteArray).data.toList==(⟨#[]⟩:ByteArray).data.toList)=true:=by rw[he];rfl
  repeat(first|refine Q4 zM ?_|refine Q4 zA ?_|refine Q4 zF ?_|refine Q4 zS ?_|(refine Qd (QC _ _ _ (f:=131) rfl rfl rfl (fun w hw=>Vp hN hq hk hn hw)) rfl Q1 (fun y hy=>?_);rw[HX.out,HB.out])|refine Q4 (ZO rfl rfl Q1 rfl rfl) ?_|refine yS 0 ?_|refine Qc ?_|refine Qa ?_|refine Q6 ?_|refine Q8 rfl ?_|refine Qu ?_|refine Qo ?_|refine Q4 zY ?_|refine Q4 zsa ?_)
  refine Qb (by exact .inr rfl) rfl (.tmp rfl) (fun w hw=>⟨(y,none,0,[],true),rfl,⟨hy,?_,fun out _ h=>absurd he h⟩,hw.row 5 1⟩);show true=(b1||!(Q1U x));rw[he];cases b1<;>rfl
 have he1:((⟨x.toArray⟩:ByteArray).data.toList==(⟨#[]⟩:ByteArray).data.toList)=false:=beq_eq_false_iff_ne.2 (by simpa using he);by_cases hodd:x.length % 2=1
 ·skip
  repeat(first|refine Q4 zM ?_|refine Q4 zA ?_|refine Q4 zF ?_|(refine Qd (QC _ _ _ (f:=131) rfl rfl rfl (fun w hw=>Vp hN hq hk hn hw)) rfl Q1 (fun y hy=>?_);rw[HX.out,HB.out])|refine Q4 (Qjv Q2 rfl rfl Q1 rfl rfl rfl) ?_|refine Q4 (ZO rfl rfl Q1 rfl rfl) ?_|refine yS 0 ?_|refine Qc ?_|refine Qa ?_|refine Q6 ?_|refine Q8 rfl ?_|refine Qu ?_|refine Qo ?_|refine Q4 zT ?_|refine Q4 (Q1v rfl rfl Q1 rfl rfl rfl (by first|exact bne_iff_ne.2 Q2|rfl)) ?_|refine Q4 zN ?_|refine Q4 zsa ?_)
  refine Qb (by exact .inr rfl) rfl (.tmp rfl) (fun w hw=>⟨(y,none,0,[],true),rfl,⟨hy,?_,fun out ho _=>?_⟩,hw.row 5 1⟩)
  ·show true=(b1||!(Q1U x))
   unfold Q1U;rw[Q3Y Q2];cases b1<;>simp
  ·rw[Q3Y Q2] at ho
   cases ho
 repeat(first|refine Q4 zM ?_|refine Q4 zA ?_|(refine Qd (QC _ _ _ (f:=131) rfl rfl rfl (fun w hw=>Vp hN hq hk hn hw)) rfl Q1 (fun y hy=>?_);rw[HX.out,HB.out])|refine Q4 (Qjv Q2 rfl rfl Q1 rfl rfl rfl) ?_|refine Qc ?_|refine Qa ?_|refine Q6 ?_|refine Qp ?_|refine Q7 rfl ?_|refine Qh ?_|refine Q4 zT ?_|refine Q4 (Q1v rfl rfl Q1 rfl rfl rfl (by first|exact bne_eq_false_iff_eq.2 Q2|rfl)) ?_|refine Q4 zN ?_|refine Q4 zsa ?_)
 obtain⟨k1,q1⟩:=y;have HY:=Q3 hy;clear hy;refine Q5U 5 1 ?_;refine Q2O (ι:=Nat×Option Addr×Nat×List UInt8×Bool) (HxI x b1) (fun y=>x.length - y.1) (fun y=>[(0,.pointer (some ⟨br,0,none⟩)),(3,.string ⟨x.toArray⟩),(4,.slice y.2.1 y.2.2.2.1.length y.2.2.1),(5,.int .i64 (y.1:Int))]) (fun y=>.row y.2.1 y.2.2.2.1.length y.2.2.1 5 1 (bv y.2.2.2.1)::(rdO br bw q1 N k1 y.2.2.2.2 ws A c ns++O)) (0,none,0,[],b1) ⟨⟨Nat.zero_le _,rfl⟩,Nat.le_refl _,by show b1=(b1||false);rw[Bool.or_false],fun out ho=>by cases ho;rfl⟩ (.cons rfl rfl (.cons rfl rfl (.cons rfl rfl (.cons rfl rfl .nil)))) (fun w hw=>hw) ?_;rintro⟨i,A',c',out,b⟩ hinv;have hi1:i<=x.length:=hinv.i.1;have hi2:i % 2=0:=hinv.i.2;have hol:out.length<=i:=hinv.len;have HI:=Q3 hinv;clear hinv;show sE _ _ _ _ _ [(0,.pointer (some ⟨br,0,none⟩)),(3,.string ⟨x.toArray⟩),(4,.slice A' out.length c'),(5,.int .i64 (i:Int))] (.row A' out.length c' 5 1 (bv out)::(rdO br bw q1 N k1 b ws A c ns++O)) _;by_cases hin:i<x.length
 ·have hin1:i+1<x.length:=by omega
  obtain⟨p,hp⟩:∃p,x[i]? =some p:=⟨_,List.getElem?_eq_getElem hin⟩;obtain⟨r,hr⟩:∃r,x[i+1]? =some r:=⟨_,List.getElem?_eq_getElem hin1⟩;have hstep:=fun A2 c2=>HI.out.step (A':=A2) (c':=c2) hp hr;have hp':(⟨x.toArray⟩:ByteArray)[((i:Int)).toNat]? =some p:=by rw[Int.toNat_natCast,QnX];exact hp
  have hr':(⟨x.toArray⟩:ByteArray)[((i:Int)+1).toNat]? =some r:=by rw[show ((i:Int)+1).toNat=i+1 by omega,QnX];exact hr
  have hpi:=Qa4 p;have hri:=Qa4 r;obtain⟨u,hu⟩:∃u,decide (XG p<0)=u:=⟨_,rfl⟩;obtain⟨v,hv⟩:∃v,decide (XG r<0)=v:=⟨_,rfl⟩;rw[hu,hv] at hstep;have HST:=Q3 hstep;clear hstep hp hr;cases b with
  |true=>
   repeat(first|refine Q4 zM ?_|refine Qc ?_|refine Qa ?_|refine Q6 ?_|refine Qp ?_|refine Q8 rfl ?_|refine Qh ?_|refine Q4 zT ?_|refine Q4 zlt ?_)
   repeat(first|refine Q9 zM ?_|refine Q9 zA ?_|refine Q9 (K7 Tryz.underlying9 rfl rfl Q1 rfl rfl rfl Q2 hp') ?_|refine Q9 (K7 Tryz.underlying9 rfl rfl Q1 rfl rfl rfl Q2 hr') ?_|refine Q9 (Qg (f:=167) rfl rfl Q1 rfl rfl (fun w hw=>K3 _ w)) ?_|refine XV ?_|refine Xh Q5 Q5 ?_|refine Q9 zP ?_)
   repeat(first|refine Q4 zM ?_|refine Q4 zA ?_|refine Q4 zF ?_|refine Q4 zS ?_|refine Q4 (zB 1) ?_|refine Q4 (ZO rfl rfl Q1 rfl rfl) ?_|refine Q4 (QdU hpi rfl rfl Q1 rfl rfl rfl) ?_|refine Q4 (QaK hri rfl rfl Q1 rfl rfl rfl) ?_|refine Q4 (Qf8 hpi hri rfl rfl Q1 rfl rfl rfl) ?_|refine Q4 (Yk rfl rfl Q1 rfl rfl Q5 Tryz.underlying5 (Q3O hpi hri)) ?_|refine yS 1 ?_|refine Qd (Zl (size:=1) (cs:=bv [Jp (XG p) (XG r)]) rfl rfl rfl rfl rfl Q1) rfl Q1 (fun bn _=>?_)|refine Qd (Xp (news:=bv [Jp (XG p) (XG r)]) 1 rfl rfl rfl rfl rfl (fun w hw=>hw.rd_blk 0 rfl rfl) (by simp [bv,Value.oneCell']) Q2) rfl Q1 (fun yz _=>?_)|refine Qc ?_|refine Qa ?_|refine Q6 ?_|refine Q4 zY ?_|refine Q4 zP ?_)
   refine ZB (i+2,yz.1,yz.2,out++[Jp (XG p) (XG r)],true||(u||v)) (HST.out yz.1 yz.2) (by show x.length - (i+2)<x.length - i;omega) (.cons rfl rfl (.cons rfl rfl (.cons rfl (by rw[List.length_append];rfl) (.cons rfl (by go_num) .nil)))) (fun w hw=>?_);have h:=hw.tail;show Wd M W (.row yz.1 (out++[Jp (XG p) (XG r)]).length yz.2 5 1 (bv (out++[Jp (XG p) (XG r)]))::(rdO br bw q1 N k1 (true||(u||v)) ws A c ns++O)) w;rw[List.length_append,KU];exact h
  |false=>
   cases u with
   |true=>
    repeat(first|refine Q4 zM ?_|refine Qc ?_|refine Qa ?_|refine Q6 ?_|refine Qp ?_|refine Q8 rfl ?_|refine Qh ?_|refine Q4 zT ?_|refine Q4 zlt ?_)
    repeat(first|refine Q9 zM ?_|refine Q9 zA ?_|refine Q9 (K7 Tryz.underlying9 rfl rfl Q1 rfl rfl rfl Q2 hp') ?_|refine Q9 (K7 Tryz.underlying9 rfl rfl Q1 rfl rfl rfl Q2 hr') ?_|refine Q9 (Qg (f:=167) rfl rfl Q1 rfl rfl (fun w hw=>K3 _ w)) ?_|refine XV ?_|refine Xh Q5 Q5 ?_|refine Q9 zP ?_)
    repeat(first|refine Q4 zM ?_|refine Q4 zA ?_|refine Q4 zF ?_|refine Q4 zS ?_|refine Q4 (zB 1) ?_|refine Q4 (ZO rfl rfl Q1 rfl rfl) ?_|refine Q4 (QdU hpi rfl rfl Q1 rfl rfl rfl) ?_|refine Q4 (QaK hri rfl rfl Q1 rfl rfl rfl) ?_|refine Q4 (Qf8 hpi hri rfl rfl Q1 rfl rfl rfl) ?_|refine Q4 (Yk rfl rfl Q1 rfl rfl Q5 Tryz.underlying5 (Q3O hpi hri)) ?_|refine yS 1 ?_|refine Qd (Zl (size:=1) (cs:=bv [Jp (XG p) (XG r)]) rfl rfl rfl rfl rfl Q1) rfl Q1 (fun bn _=>?_)|refine Qd (Xp (news:=bv [Jp (XG p) (XG r)]) 1 rfl rfl rfl rfl rfl (fun w hw=>hw.rd_blk 0 rfl rfl) (by simp [bv,Value.oneCell']) Q2) rfl Q1 (fun yz _=>?_)|refine Qc ?_|refine Qa ?_|refine Q6 ?_|refine Q4 (XZ rfl rfl Q1 rfl rfl rfl Qx) ?_|refine Q4 zY ?_|refine Q4 zN ?_|refine Q4 zP ?_)
    refine ZB (i+2,yz.1,yz.2,out++[Jp (XG p) (XG r)],false||(true||v)) (HST.out yz.1 yz.2) (by show x.length - (i+2)<x.length - i;omega) (.cons rfl rfl (.cons rfl rfl (.cons rfl (by rw[List.length_append];rfl) (.cons rfl (by go_num) .nil)))) (fun w hw=>?_);have h:=hw.tail;show Wd M W (.row yz.1 (out++[Jp (XG p) (XG r)]).length yz.2 5 1 (bv (out++[Jp (XG p) (XG r)]))::(rdO br bw q1 N k1 (false||(true||v)) ws A c ns++O)) w;rw[List.length_append,KU];exact h
   |false=>
    repeat(first|refine Q4 zM ?_|refine Qc ?_|refine Qa ?_|refine Q6 ?_|refine Qp ?_|refine Q8 rfl ?_|refine Qh ?_|refine Q4 zT ?_|refine Q4 zlt ?_)
    repeat(first|refine Q9 zM ?_|refine Q9 zA ?_|refine Q9 (K7 Tryz.underlying9 rfl rfl Q1 rfl rfl rfl Q2 hp') ?_|refine Q9 (K7 Tryz.underlying9 rfl rfl Q1 rfl rfl rfl Q2 hr') ?_|refine Q9 (Qg (f:=167) rfl rfl Q1 rfl rfl (fun w hw=>K3 _ w)) ?_|refine XV ?_|refine Xh Q5 Q5 ?_|refine Q9 zP ?_)
    repeat(first|refine Q4 zM ?_|refine Q4 zA ?_|refine Q4 zF ?_|refine Q4 (zB 1) ?_|refine Q4 (ZO rfl rfl Q1 rfl rfl) ?_|refine Q4 (QdU hpi rfl rfl Q1 rfl rfl rfl) ?_|refine Q4 (QaK hri rfl rfl Q1 rfl rfl rfl) ?_|refine Q4 (Qf8 hpi hri rfl rfl Q1 rfl rfl rfl) ?_|refine Q4 (Yk rfl rfl Q1 rfl rfl Q5 Tryz.underlying5 (Q3O hpi hri)) ?_|refine yS 1 ?_|refine Qd (Zl (size:=1) (cs:=bv [Jp (XG p) (XG r)]) rfl rfl rfl rfl rfl Q1) rfl Q1 (fun bn _=>?_)|refine Qd (Xp (news:=bv [Jp (XG p) (XG r)]) 1 rfl rfl rfl rfl rfl (fun w hw=>hw.rd_blk 0 rfl rfl) (by simp [bv,Value.oneCell']) Q2) rfl Q1 (fun yz _=>?_)|refine Qc ?_|refine Qa ?_|refine Q6 ?_|refine Q4 (XZ rfl rfl Q1 rfl rfl rfl Qx) ?_|refine Q4 zN ?_|refine Q4 zP ?_)
    refine ZB (i+2,yz.1,yz.2,out++[Jp (XG p) (XG r)],false||(false||v)) (HST.out yz.1 yz.2) (by show x.length - (i+2)<x.length - i;omega) (.cons rfl rfl (.cons rfl rfl (.cons rfl (by rw[List.length_append];rfl) (.cons rfl (by go_num) .nil)))) (fun w hw=>?_);have h:=hw.tail;show Wd M W (.row yz.1 (out++[Jp (XG p) (XG r)]).length yz.2 5 1 (bv (out++[Jp (XG p) (XG r)]))::(rdO br bw q1 N k1 (false||(false||v)) ws A c ns++O)) w;rw[List.length_append,KU];exact h
 ·obtain rfl:i=x.length:=by omega
  have hb:=HI.out.b;have hok:=HI.out.ok;simp only[List.take_length] at hb hok;repeat(first|refine Q4 zM ?_|refine Q4 zA ?_|refine Qc ?_|refine Qa ?_|refine Q6 ?_|refine Q7 rfl ?_|refine Xe ?_|refine Qu ?_|refine Q4 zT ?_|refine Q4 zlf ?_)
  refine Qb (by exact .inr rfl) rfl (.tmp rfl) (fun w hw=>⟨((k1,q1),A',c',out,b),rfl,⟨HY.out,?_,fun o ho _=>hok o ho⟩,hw⟩);show b=(b1||!(Q1U x));unfold Q1U;rw[hb,show (x != [])=true from bne_iff_ne.2 he,Bool.true_and]
end
end
end Go.Proofs.YtphkhfdmlcnoeaaGreatDoor
