import Derived.Test.YtphkhfdmlcnoeaaGreatDoorP24
namespace Go.Proofs.YtphkhfdmlcnoeaaGreatDoor
set_option linter.unusedVariables false
set_option linter.unusedSimpArgs false
set_option maxRecDepth 1000000
set_option maxHeartbeats 32000000
open Go.RowKit
section
variable {A5 A6 A7 A8:Option Addr}{c5 c6 c7 c8 most:Nat}{out st:List Itm}{w wr:World}
def Q8g(g:Itm):Prop:=XI g.2.1/\XD g.2.2/\g.2.2.len<=1048576/\g.1.length<=11
def NB(w0 wr:World)(st out:List Itm)(A6:Option Addr)(c6:Nat)(A7:Option Addr)(c7:Nat)(A8:Option Addr)(c8:Nat):Prop:=
 (∃cs6,wr.ownsRow w0.heap.size 122 6 (.slice A6 st.length c6) st.length cs6/\StC w0 wr w0.heap.size st cs6)/\(∃cs7,wr.ownsRow w0.heap.size 30 5 (.slice A7 out.length c7) out.length cs7/\Q4t w0 out cs7)/\YG wr w0.heap.size A8 c8 (out.map (·.1))/\Below w0.heap.size w0 wr
def QuS(w0:World)(most:Nat)(root:Itm)(v6 v7 v8:Value)(wr:World):Prop:=
 ∃(st out:List Itm) (A6:Option Addr) (c6:Nat) (A7:Option Addr) (c7:Nat) (A8:Option Addr) (c8:Nat),v6=.slice A6 st.length c6/\v7=.slice A7 out.length c7/\v8=.slice A8 out.length c8/\NB w0 wr st out A6 c6 A7 c7 A8 c8/\
  (∀g∈st,Q8g g)/\(∀g∈out,Q8g g)/\out++Q4y most st.reverse=Jn most root/\out.length<=most/\st.length<=1+out.length*most
def Qtk:Value->Nat
 |.slice _ n _=>n
 |_=>0
def QsW(w0:World)(most:Nat)(g:Itm)(rest:List Itm)(out:List Itm)(gx n0 cnt:Nat)(sb sn sp sq:Value)(A7:Option Addr)(c7:Nat)(A8:Option Addr)(c8:Nat)(v6 v11:Value)(wr:World):Prop:=
 ∃(j:Nat) (st:List Itm) (A6:Option Addr) (c6:Nat),v6=.slice A6 st.length c6/\v11=.int .i64 ((j:Int) - 1)/\j<=cnt/\NB w0 wr st out A6 c6 A7 c7 A8 c8/\Nx wr gx (.int .i64 g.2.1.k) (.int .i64 g.2.1.n) sb sn sp sq/\(Value.slice A6 st.length c6).ownBlock≠some gx/\(∃A5 c5,sq=.slice A5 g.1.length c5/\wr.ownsRow w0.heap.size 3 1 sq g.1.length (iv g.1))/\
  (∀x∈st,Q8g x)/\Q4y most st.reverse=JV most g.1 (g.2.2.drop j) j++rest/\st.length+j<=n0+cnt
def Q7o(w0:World)(most:Nat)(d:Nd)(p:VF)(e:Ending)(w':World):Prop:=
 ∃A7 c7 A8 c8 cs7,e=.returned (.tuple #[.slice A7 ((Jn most ([],d,p)).take most).length c7,.slice A8 ((Jn most ([],d,p)).take most).length c8])/\
  w'.ownsRow w0.heap.size 30 5 (.slice A7 ((Jn most ([],d,p)).take most).length c7) ((Jn most ([],d,p)).take most).length cs7/\Q4t w0 ((Jn most ([],d,p)).take most) cs7/\
  YG w' w0.heap.size A8 c8 (((Jn most ([],d,p)).take most).map (·.1))/\(∀g∈(Jn most ([],d,p)).take most,Q8g g)/\Below w0.heap.size w0 w'
theorem Qiv(w:World)(base e s n:Nat)(cs:List Value)(hl:cs.length=n*s)(hn:n<=maxLen)(hb:base<=w.heap.size):(w.alloc (.cells cs.toArray e)).ownsRow base e s (.slice (some ⟨w.heap.size,0,none⟩) n n) n cs:=
 ⟨hl,.inr ⟨w.heap.size,n,cs.toArray,rfl,hb,heap_alloc_new w _,Nat.le_refl _,hn,by simpa using hl,by rw[List.take_of_length_le (by simp;exact Nat.le_of_eq hl)]⟩⟩
theorem QiJ{root:Itm}(h:out++Q4y most st.reverse=Jn most root)(hl:out.length<=most)(hx:st=[]\/out.length=most):(Jn most root).take most=out:=by
 rw[<- h];rcases hx with rfl|hx
 ·rw[List.reverse_nil,show Q4y most []=[] from rfl,List.append_nil,List.take_of_length_le hl]
 ·rw[List.take_append_of_le_length Q3,List.take_of_length_le Q3]
theorem Q3O{B:Nat}{w':World}{o:Option Nat}(hb:Below B w wr)(hB:B<=w.heap.size)(hg:wr.grownBy w' o)(ho:∀k,o=some k->B<=k):Below B w w':=hb.grown hg (Nat.le_trans hB hb.size) ho
theorem Qet{W3 W5:World}{A7' A8':Option Addr}{m n c7' c8' l5:Nat}{a b c d e f:Value}{oA oB:Obj}{cs1 cs7 vs five:List Value}{L:List (List Int)}{path:List Int}{st':List Itm}(hb:Below w.heap.size w wr)
  (ho6:wr.ownsRow w.heap.size 122 6 (.slice A6 (m+1) c6) (m+1) (cs1++[a,b,c,d,e,f])) (hl1:cs1.length=m*6) (hc1:StC w wr w.heap.size st' cs1) (ho7:wr.ownsRow w.heap.size 30 5 (.slice A7 n c7) n cs7)
  (hrow:wr.ownsRow w.heap.size 48 1 (.slice A8 L.length c8) L.length vs) (hvl:vs.length=L.length) (hels:∀(j:Nat) (b:List Int),L[j]? =some b->∃A' c',vs[j]? =some (.slice A' b.length c')/\wr.ownsRow w.heap.size 3 1 (.slice A' b.length c') b.length (iv b))
  (ho5:wr.ownsRow w.heap.size 3 1 (.slice A5 l5 c5) l5 (iv path)) (hl5:path.length=l5)
  (hg3:((wr.alloc (.cells #[a,b,c,d,e,f] 122)).alloc oA).grownBy W3 (Value.slice A7 n c7).ownBlock) (h7':W3.ownsRow w.heap.size 30 5 (.slice A7' (n+1) c7') (n+1) (cs7++five))
  (hg5:(W3.alloc oB).grownBy W5 (Value.slice A8 L.length c8).ownBlock) (h8':W5.ownsRow w.heap.size 48 1 (.slice A8' (L.length+1) c8') (L.length+1) (vs++[.slice A5 l5 c5])):
  W5.ownsRow w.heap.size 122 6 (.slice A6 m c6) m cs1/\StC w W5 w.heap.size st' cs1/\W5.ownsRow w.heap.size 30 5 (.slice A7' (n+1) c7') (n+1) (cs7++five)/\YG W5 w.heap.size A8' c8' (L++[path])/\Nx W5 wr.heap.size a b c d e f/\
   W5.ownsRow w.heap.size 3 1 (.slice A5 l5 c5) l5 (iv path)/\Below w.heap.size w W5/\(Value.slice A6 m c6).ownBlock≠some wr.heap.size:=by
 have g3:wr.grownBy W3 (Value.slice A7 n c7).ownBlock:=Q0W (Yb (Q39 _ _ _)) hg3;have g5:W3.grownBy W5 (Value.slice A8 L.length c8).ownBlock:=Q0W (Yb (JN _ _)) hg5;have row3:=ZZ hrow g3 (Jg.own ho7 Q1);have i3:=Jg.own (e:=3) ho7 Q1;have i5:=Jg.own (e:=3) row3 Q1;have o5:=ZZ ho5 g3 i3;have els3:∀(j:Nat) (b:List Int),L[j]? =some b->∃A' c',vs[j]? =some (.slice A' b.length c')/\W3.ownsRow w.heap.size 3 1 (.slice A' b.length c') b.length (iv b):=fun j x hj=>by
  obtain⟨A',c',e,ho⟩:=hels j x hj;exact⟨A',c',e,ZZ ho g3 i3⟩
 have c6':=QpF ho6 (Nat.le_succ m) hl1 (Nat.succ_pos m);have n3:Nx W3 wr.heap.size a b c d e f:=((Nx.new wr a b c d e f).gr (Yb (JN _ oA)) Qn).gr hg3 (fun e=>by have:=(ho7.lt _ e).2;omega);have hz3:wr.heap.size<W3.heap.size:=n3.lt;refine⟨ZZ (ZZ c6' g3 (Jg.own ho7 Q1)) g5 (Jg.own row3 Q1),StC.gr g5 i5 st' cs1 (StC.gr g3 i3 st' cs1 hc1),ZZ h7' g5 (Jg.own row3 Q1),?_,?_,ZZ o5 g5 i5,?_,?_⟩
 ·exact YG.push row3 hvl els3 o5 hl5 g5 h8'
 ·exact n3.gr g5 (fun e=>by have:=(hrow.lt _ e).2;omega)
 ·exact Q3O (Q3O hb Xr g3 (fun k hk=>(ho7.lt k hk).1)) Xr g5 (fun k hk=>(hrow.lt k hk).1)
 ·intro e
  have:=(c6'.lt _ e).2;omega
theorem QkE{W2 W9:World}{g:Itm}{rest:List Itm}{gx n0 cnt i H:Nat}{sb sn sp:Value}{Aq:Option Addr}{cq g' c':Nat}{ob:Obj}{cs6:List Value}{d':Nd}{p':VF}{sb' sn' sp':Value}(hwr:Below w.heap.size w wr)
  (ho6:wr.ownsRow w.heap.size 122 6 (.slice A6 st.length c6) st.length cs6) (hc6:StC w wr w.heap.size st cs6) (ho7:∃cs7,wr.ownsRow w.heap.size 30 5 (.slice A7 out.length c7) out.length cs7/\Q4t w out cs7) (ho8:YG wr w.heap.size A8 c8 (out.map (·.1)))
  (hx:Nx wr gx (.int .i64 g.2.1.k) (.int .i64 g.2.1.n) sb sn sp (.slice A5 g.1.length c5)) (hne:(Value.slice A6 st.length c6).ownBlock≠some gx) (ho5:wr.ownsRow w.heap.size 3 1 (.slice A5 g.1.length c5) g.1.length (iv g.1)) (hst:∀x∈st,Q8g x)
  (hexp:Q4y most st.reverse=JV most g.1 (g.2.2.drop (i+1)) (i+1)++rest) (hlen:st.length+(i+1)<=n0+cnt) (hic:i+1<=cnt) (him:i<most) (hdr:g.2.2.drop i=.cons d' p' (g.2.2.drop (i+1))) (hg10:¬10<g.1.length) (hgf:XD g.2.2) (hd':Hd w w.heap.size d' p'.len (FIn w w.heap.size p') sb' sn' sp')
  (hb2:Below wr.heap.size wr W2) (hq:W2.ownsRow wr.heap.size 3 1 (.slice Aq (g.1.length+1) cq) (g.1.length+1) (iv g.1++[.int .i64 (i:Int)])) (hg9:(W2.alloc ob).grownBy W9 (Value.slice A6 st.length c6).ownBlock)
  (hown9:W9.ownsRow w.heap.size 122 6 (.slice (some ⟨g',0,none⟩) (st.length+1) c') (st.length+1) (cs6++[.int .i64 d'.k,.int .i64 d'.n,sb',sn',sp',.slice Aq (g.1.length+1) cq])) (hat:(Value.slice A6 st.length c6).ownBlock=some g'\/g'=H) (hH:H=W2.heap.size+1):
  QsW w most g rest out gx n0 cnt sb sn sp (.slice A5 g.1.length c5) A7 c7 A8 c8 (.slice (some ⟨g',0,none⟩) (st.length+1) c') (.int .i64 ((i:Int) - 1)) W9:=by
 have hwz:=hwr.size;have g9:W2.grownBy W9 (Value.slice A6 st.length c6).ownBlock:=Q0W (Yb (JN _ _)) hg9;have ga:wr.grownBy W9 (Value.slice A6 st.length c6).ownBlock:=Q0W (Yb hb2) g9;have i6:=Jg.own (e:=3) ho6 Q1;have o62:=ZV ho6 hb2 Xr;have j6:=Jg.own (e:=3) o62 Q1;obtain⟨cs7,ho7,hc7⟩:=ho7;have hl1:(g.1++[(i:Int)]).length=g.1.length+1:=by simp
 have hf:=hgf.at_ hdr;refine⟨i,st++[(g.1++[(i:Int)],d',p')],some ⟨g',0,none⟩,c',by rw[List.length_append];rfl,rfl,by omega,⟨⟨_,by rw[List.length_append];exact hown9,?_⟩,⟨cs7,ZZ ho7 ga (Jg.own ho6 Q1),hc7⟩,ho8.gr ga i6 (Jg.own ho6 Q1),?_⟩,hx.gr ga hne,?_,⟨A5,c5,rfl,ZZ ho5 ga i6⟩,?_,?_,?_⟩
 ·have h:=StC.snoc (w0:=w) (w:=W9) (B:=w.heap.size) (g:=(g.1++[(i:Int)],d',p')) (A:=Aq) (c:=cq) hd' (by rw[hl1];have h2:=Jx (ZZ hq g9 j6) hwz;simpa [iv] using h2) st cs6 (StC.gr ga i6 st cs6 hc6)
  simp only[hl1] at h;exact h
 ·exact Q3O hwr Xr ga (fun k hk=>(ho6.lt k hk).1)
 ·rw[List.length_append]
  intro e;have e':g'=gx:=by simpa [Value.ownBlock] using e
  subst e';rcases hat with h|h
  ·exact hne h
  ·have:=hx.lt;have:=hb2.size;omega
 ·intro x hxm
  rw[List.mem_append,List.mem_singleton] at hxm;rcases hxm with hxm|rfl
  ·exact hst x hxm
  ·exact⟨hf.1,hf.2.2,hf.2.1,by rw[hl1];omega⟩
 ·rw[List.reverse_append,List.reverse_singleton,List.singleton_append,Q8q,hexp,hdr,Q7e him,List.append_assoc]
 ·rw[List.length_append,List.length_singleton];omega
theorem QbF{v:Value}{d:Nd}{p:VF}(hv:VIn w w.heap.size v d p)(hd:XI d)(hf:XD p)(hp:p.len<=1048576)(hm:most<=601):
  Calls Tryz.prog 46 #[v,.int .i64 (most:Int)] w (Q7o w most d p):=by
 obtain⟨sb0,sn0,sp0,rfl,hd0⟩:=hv;have HHD:=Q2 hd0;obtain⟨Ab,nb,cb,An,nn,cn,Ap,cp,rfl,rfl,rfl,_⟩:=hd0;have HOK:=Q2 (show Q8g ([],d,p) from ⟨hd,hf,hp,Nat.zero_le _⟩);clear hd hf hp;go_enter Tryz.func46,Tryz.ntmps46;go_wp2_with fail
 obtain⟨W2,hW2⟩:∃W2,(w.alloc (.cells #[.int .i64 d.k,.int .i64 d.n,.slice Ab nb cb,.slice An nn cn,.slice Ap p.len cp] 30)).alloc (.cells #[.int .i64 d.k,.int .i64 d.n,.slice Ab nb cb,.slice An nn cn,.slice Ap p.len cp,.slice none 0 0] 122)=W2:=⟨_,rfl⟩;have HB2:=Q2 (show Below w.heap.size w W2 by rw[<- hW2];exact Q39 _ _ _)
 have HO2:=Q2 (show W2.ownsRow w.heap.size 122 6 (.slice (some ⟨w.heap.size+1,0,none⟩) 1 1) 1 [.int .i64 d.k,.int .i64 d.n,.slice Ab nb cb,.slice An nn cn,.slice Ap p.len cp,.slice none 0 0] by
  rw[<- hW2]
  have h:=Qiv (w.alloc (.cells #[.int .i64 d.k,.int .i64 d.n,.slice Ab nb cb,.slice An nn cn,.slice Ap p.len cp] 30)) w.heap.size 122 6 1 [.int .i64 d.k,.int .i64 d.n,.slice Ab nb cb,.slice An nn cn,.slice Ap p.len cp,.slice none 0 0] rfl Q1 Qn
  rw[QB] at h
  exact h)
 rw[hW2];clear hW2;go_loopw [6,7,8] (QuS w most ([],d,p)) (fun _ v7 _ _=>most - Qtk v7)
 case atStart=>
  refine⟨[([],d,p)],[],_,1,none,0,none,0,rfl,rfl,rfl,⟨⟨_,HO2.out,_,_,_,none,0,[],rfl,HHD.out,World.ownsRow_nil _ _ _ _,rfl⟩,⟨[],World.ownsRow_nil _ _ _ _,rfl⟩,YG.nil _ _,HB2.out⟩,?_,by simp,by simp [Q4y],Nat.zero_le _,by simp⟩;intro g hg;simp at hg;subst hg;exact HOK.out
 case round=>
  obtain⟨st,out,A6,c6,A7,c7,A8,c8,rfl,rfl,rfl,hnb,hst,hout,hexp,hle,hsl⟩:=hrel;have HNB:=Q2 hnb;have HST:=Q2 hst;have HOU:=Q2 hout;have HEX:=Q2 hexp;clear hnb hst hout hexp;have hfin:∀(hx:st=[]\/out.length=most),Q7o w most d p (.returned (.tuple #[.slice A7 out.length c7,.slice A8 out.length c8])) wr:=fun hx=>by
   have he:=QiJ HEX.out hle hx;obtain⟨_,⟨cs7,ho7,hc7⟩,ho8,hb8⟩:=HNB.out;unfold Q7o;rw[he];exact⟨A7,c7,A8,c8,cs7,rfl,ho7,hc7,ho8,HOU.out,hb8⟩
  have HFIN:=Q2 hfin;clear hfin;by_cases hs0:st=[]
  ·have h0:st.length=0:=by rw[hs0];rfl
   have HS0:=Q2 hs0;clear hs0;rw[h0];go_wp2_with fail
   refine Qsk ?_;exact HFIN.out (.inl HS0.out)
  ·by_cases hfull:out.length=most
   ·have hpos:0<st.length:=List.length_pos_iff.2 hs0
    have hp1:(0:Int)<(st.length:Int):=by omega
    have hp2:¬(out.length:Int)<(most:Int):=by omega
    have HFU:=Q2 hfull;clear hfull hle hsl;go_wp2_with fail
    refine Qsk ?_;exact HFIN.out (.inr HFU.out)
   ·obtain⟨st',g,rfl⟩:∃st' g,st=st'++[g]:=⟨st.dropLast,st.getLast hs0,(List.dropLast_concat_getLast hs0).symm⟩
    obtain⟨⟨cs6,ho6,hc6⟩,⟨cs7,ho7,hc7⟩,ho8,hb8⟩:=HNB.out;obtain⟨cs1,sb,sn,sp,A5,c5,rfl,hl1,hc1,hdg,ho5⟩:=StC.last st' cs6 hc6;have HDG:=Q2 hdg;obtain⟨Ab',nb',cb',An',nn',cn',Ap',cp',rfl,rfl,rfl,_⟩:=hdg;obtain⟨b6,o6,hA6,hb6,hcell⟩:=(Rd.of_own ho6).2 Qn;subst hA6;obtain⟨m,hmm⟩:∃m,st'.length=m:=⟨_,rfl⟩;have hlen:(st'++[g]).length=m+1:=by simp [hmm]
    have q0:wr.cell? ⟨b6,o6+m*6,none⟩=some (.int .i64 g.2.1.k):=hcell (m*6) _ (by rw[List.getElem?_append_right Q3,hl1,hmm,Nat.sub_self];rfl);have q1:wr.cell? ⟨b6,o6+m*6+1,none⟩=some (.int .i64 g.2.1.n):=hcell (m*6+1) _ (by rw[List.getElem?_append_right Q3,hl1,hmm,Nat.add_sub_cancel_left];rfl);have q2:wr.cell? ⟨b6,o6+m*6+2,none⟩=some (.slice Ab' nb' cb'):=hcell (m*6+2) _ (by rw[List.getElem?_append_right Q3,hl1,hmm,Nat.add_sub_cancel_left];rfl);have q3:wr.cell? ⟨b6,o6+m*6+3,none⟩=some (.slice An' nn' cn'):=hcell (m*6+3) _ (by rw[List.getElem?_append_right Q3,hl1,hmm,Nat.add_sub_cancel_left];rfl);have q4:wr.cell? ⟨b6,o6+m*6+4,none⟩=some (.slice Ap' g.2.2.len cp'):=hcell (m*6+4) _ (by rw[List.getElem?_append_right Q3,hl1,hmm,Nat.add_sub_cancel_left];rfl);have q5:wr.cell? ⟨b6,o6+m*6+5,none⟩=some (.slice A5 g.1.length c5):=hcell (m*6+5) _ (by rw[List.getElem?_append_right Q3,hl1,hmm,Nat.add_sub_cancel_left];rfl);have hcp6:=QgO ho6;rw[hlen] at ho6 hsl hcp6 ⊢;have HO6:=Q2 ho6;have HO7:=Q2 ho7;have HC7:=Q2 hc7;have HO8:=Q2 ho8;have HB8:=Q2 hb8;have HC1:=Q2 hc1;have HL1:=Q2 hl1;have HO5:=Q2 ho5;have HMM:=Q2 hmm;have hgl:g.1.length<=11:=(HST.out g Qn).2.2.2;have hgp:g.2.2.len<=1048576:=(HST.out g Qn).2.2.1;have hsz:=hb8.size;have hmb:m<=361201:=by have:=Nat.mul_le_mul hle hm;have:=Nat.mul_le_mul (Nat.le_refl out.length) hm;have:=Nat.mul_le_mul hle (Nat.le_refl 601);have:most*601<=601*601:=Nat.mul_le_mul hm Xr;omega
    have hcut:=fun w'=>Q3W (P:=Tryz.prog) slN (some ⟨b6,o6,none⟩) (m+1) c6 m Q3 w'
    rw[Qi8] at hcut;clear ho6 ho7 hc7 ho8 hb8 hc6 hc1 hl1 ho5 hcell hmm hlen hs0;have hlt:(out.length:Int)<(most:Int):=by omega
    have h00:(0:Int)<(m:Int)+1:=by omega
    have hm0:(0:Int)<=(m:Int):=by omega
    have hmm1:(m:Int)<(m:Int)+1:=by omega
    go_upto_region 7 with (fail)
    obtain⟨vs,hrow,hvl,hels⟩:=HO8.out;simp only[List.length_map] at hrow;have HRO:=Q2 hrow;have HVL:=Q2 hvl;have HEL:=Q2 hels;have hol:out.length<=601:=by omega
    obtain⟨x0,x1,x2,x3,x4,x5⟩:=(Nx.new wr (.int .i64 g.2.1.k) (.int .i64 g.2.1.n) (.slice Ab' nb' cb') (.slice An' nn' cn') (.slice Ap' g.2.2.len cp') (.slice A5 g.1.length c5)).cells;clear hrow hvl hels q0 q1 q2 q3 q4 q5 hcut;go_upto_region 9 with (first|(at_builtin;refine Q4U _ slV rfl (.tmp 36) (.tmp 39) rfl w.heap.size A7 out.length c7 cs7 rfl ((ZV HO7.out (Q39 _ _ _) (Nat.le_refl _))) (wr.heap.size+1) [.int .i64 g.2.1.k,.int .i64 g.2.1.n,.slice Ab' nb' cb',.slice An' nn' cn',.slice Ap' g.2.2.len cp'] rfl rfl (by rw[<- QB wr (.cells #[.int .i64 g.2.1.k,.int .i64 g.2.1.n,.slice Ab' nb' cb',.slice An' nn' cn',.slice Ap' g.2.2.len cp',.slice A5 g.1.length c5] 122)];exact Qla _ _ _) (by simp [Value.oneCell']) Q3 (by simp only[QB];omega) ?_;intro g7 k7 W3 hown3 hg3 hat3;have n3:Nx W3 wr.heap.size (.int .i64 g.2.1.k) (.int .i64 g.2.1.n) (.slice Ab' nb' cb') (.slice An' nn' cn') (.slice Ap' g.2.2.len cp') (.slice A5 g.1.length c5):=((Nx.new wr _ _ _ _ _ _).gr (Yb (JN _ _)) Qn).gr hg3 (fun e=>by have:=(HO7.out.lt _ e).2;omega);have n3c:=n3.cells;obtain⟨y0,y1,y2,y3,y4,y5⟩:=n3c;have hz3:=n3.lt;have HR3:=Q2 (ZZ HRO.out (Q0W (Yb (Q39 _ _ _)) hg3) (Jg.own HO7.out Q1));have HOW3:=Q2 hown3;have HG3:=Q2 hg3;clear hown3 hg3 hat3 n3)|(at_builtin;refine Q4U _ QvK rfl (.tmp 41) (.tmp 44) rfl w.heap.size A8 out.length c8 vs rfl (ZV HR3.out (JN _ _) (Nat.le_refl _)) W3.heap.size [.slice A5 g.1.length c5] rfl rfl (Qla _ _ _) (by simp [Value.oneCell']) Q3 (by simp only[QB];omega) ?_;intro g8 k8 W5 hown5 hg5 hat5))
    have hfin:=Qet HB8.out HO6.out (by rw[HL1.out,HMM.out]) HC1.out HO7.out (L:=out.map (·.1)) (by simp only[List.length_map];exact HRO.out) HVL.out HEL.out HO5.out rfl HG3.out HOW3.out (by simp only[List.length_map];exact hg5) (by simp only[List.length_map];exact hown5);obtain⟨f6,fst',f7,f8,fx,f5,fb,fne⟩:=hfin;have F6:=Q2 f6;have FZ:=Q2 fst';have F7:=Q2 f7;have F8:=Q2 f8;have FX:=Q2 fx;have F5:=Q2 f5;have FB:=Q2 fb;have FN:=Q2 fne;have HG:=Q2 (HST.out g Qn);have HS':=Q2 (fun x (hx:x∈st')=>HST.out x Q7c);have HX1:=Q2 (show out++(Jn most g++Q4y most st'.reverse)=Jn most ([],d,p) by have:=HEX.out;rwa [List.reverse_append,List.reverse_singleton,List.singleton_append,Q8q] at this)
    have HOO:=Q2 (show ∀x∈out++[g],Q8g x by
     intro x hx
     rw[List.mem_append,List.mem_singleton] at hx
     rcases hx with hx|rfl
     ·exact HOU.out x hx
     ·exact HG.out)
    have HO7':=Q2 (show ∃cs7',W5.ownsRow w.heap.size 30 5 (.slice (some ⟨g7,0,none⟩) (out++[g]).length k7) (out++[g]).length cs7'/\Q4t w (out++[g]) cs7' from ⟨_,by rw[List.length_append];exact F7.out,Q4t.snoc HDG.out out cs7 HC7.out⟩);have HO8':=Q2 (show YG W5 w.heap.size (some ⟨g8,0,none⟩) k8 ((out++[g]).map (·.1)) by rw[List.map_append];exact F8.out);obtain⟨z0,z1,z2,z3,z4,z5⟩:=FX.out.cells;clear f6 fst' f7 f8 fx f5 fb fne hown5 hg5 hat5 x0 x1 x2 x3 x4 x5 y0 y1 y2 y3 y4 y5 hz3;have hw5:=FB.out.size;by_cases h10:10<g.1.length
    ·have h10':(10:Int)<(g.1.length:Int):=by omega
     have HXX:=Q2 (show (out++[g])++Q4y most st'.reverse=Jn most ([],d,p) by have:=HX1.out;rw[Qih h10] at this;rw[List.append_assoc];exact this);go_wp2_with fail
     go_roundw
     case rel=>exact⟨st',out++[g],_,c6,_,k7,_,k8,by rw[HMM.out],by rw[List.length_append];rfl,by rw[List.length_append];rfl,⟨⟨cs1,by rw[HMM.out];exact F6.out,FZ.out⟩,HO7'.out,HO8'.out,FB.out⟩,HS'.out,HOO.out,HXX.out,by rw[List.length_append,List.length_singleton];omega,by rw[HMM.out,List.length_append,List.length_singleton,Nat.succ_mul];omega⟩
     case measure=>simp [Qtk];omega
    ·have h10':¬(10:Int)<(g.1.length:Int):=by omega
     have HXX:=Q2 (show (out++[g])++(JV most g.1 g.2.2 0++Q4y most st'.reverse)=Jn most ([],d,p) by have:=HX1.out;rw[Q42 h10] at this;rw[List.append_assoc];exact this);obtain⟨np,hnp⟩:∃np,g.2.2.len=np:=⟨_,rfl⟩;rw[hnp] at hgp z4 ⊢;have HNP:=Q2 hnp;have FXX:=Q2 (show Nx W5 wr.heap.size (.int .i64 g.2.1.k) (.int .i64 g.2.1.n) (.slice Ab' nb' cb') (.slice An' nn' cn') (.slice Ap' np cp') (.slice A5 g.1.length c5) by rw[<- hnp];exact FX.out);clear hnp;go_upto_if 56 with (fail)
     go_cut [10] (fun t wx=>t=.int .i64 ((min np most:Nat):Int)/\wx=W5)
     case first=>
      by_cases hbig:most<np
      ·have hbig':(most:Int)<(np:Int):=by omega
       go_wp2_with fail
       go_meet
       exact⟨by rw[Nat.min_eq_right Q3],rfl⟩
      ·have hbig':¬(most:Int)<(np:Int):=by omega
       go_wp2_with fail
       go_meet
       exact⟨by rw[Nat.min_eq_left Q3],rfl⟩
     case rest=>
      obtain⟨rfl,rfl⟩:=hcut;obtain⟨cnt,hcnt⟩:∃cnt,min np most=cnt:=⟨_,rfl⟩;rw[hcnt];have hc1:cnt<=most:=by omega
      have hc2:cnt<=np:=by omega
      have HST0:=Q2 (show JV most g.1 (g.2.2.drop cnt) cnt=[] by
       rcases Nat.lt_or_ge cnt np with h|h
       ·exact QeX Q3
       ·rw[VF.drop_nil (by rw[HNP.out];exact h)];rfl)
      clear hcnt;go_wp2_with fail
      obtain⟨gx,hgx⟩:∃gx,wr.heap.size=gx:=⟨_,rfl⟩;rw[hgx] at FXX FN ⊢;clear hgx;go_loopw [6,11] (QsW w most g (Q4y most st'.reverse) (out++[g]) gx m cnt (.slice Ab' nb' cb') (.slice An' nn' cn') (.slice Ap' np cp') (.slice A5 g.1.length c5) (some ⟨g7,0,none⟩) k7 (some ⟨g8,0,none⟩) k8) (fun _ k _=>((intOf k)+1).toNat)
      case atStart=>
       refine⟨cnt,st',some ⟨b6,o6,none⟩,c6,by rw[HMM.out],rfl,Nat.le_refl _,⟨⟨cs1,by rw[HMM.out];exact F6.out,FZ.out⟩,HO7'.out,HO8'.out,FB.out⟩,FXX.out,by rw[HMM.out];exact FN.out,⟨A5,c5,rfl,F5.out⟩,HS'.out,by rw[HST0.out];rfl,by rw[HMM.out];exact Nat.le_refl _⟩
      case round=>
       obtain⟨j,st,A6',c6',rfl,rfl,hj,⟨⟨cs6,ho6,hc6⟩,ho7,ho8,hbb⟩,hx,hne,⟨A5',c5',hq5,ho5⟩,hst,hexp,hln⟩:=hrel;injection hq5 with e1 e2 e3;subst e1 e3;have K6:=Q2 ho6;have K6c:=Q2 hc6;have K7:=Q2 ho7;have K8:=Q2 ho8;have KB:=Q2 hbb;have KX:=Q2 hx;have KN:=Q2 hne;have K5:=Q2 ho5;have KS:=Q2 hst;have KE:=Q2 hexp;have hkz:=hbb.size;clear ho6 hc6 ho7 ho8 hbb hx hne ho5 hst hexp e2 z0 z1 z2 z3 z4 z5;rcases Nat.eq_zero_or_pos j with hj0|hjp
       ·subst hj0
        go_wp2_with fail
        go_roundw
        case rel=>
         refine⟨st,out++[g],A6',c6',_,k7,_,k8,rfl,by rw[List.length_append];rfl,by rw[List.length_append];rfl,⟨⟨cs6,K6.out,K6c.out⟩,K7.out,K8.out,KB.out⟩,KS.out,HOO.out,?_,by rw[List.length_append,List.length_singleton];omega,?_⟩
         ·rw[KE.out,VF.drop_zero];exact HXX.out
         ·rw[List.length_append,List.length_singleton,Nat.succ_mul];omega
        case measure=>simp [Qtk];omega
       ·obtain⟨i,rfl⟩:∃i,j=i+1:=⟨j - 1,by omega⟩
        obtain⟨d',p',hdr⟩:=VF.drop_cons (F:=g.2.2) (i:=i) Q7I
        obtain⟨bp,op,hAp,hbp,hfin⟩:=(show ∃b o,Ap'=some ⟨b,o,none⟩/\b<w.heap.size/\FIn w w.heap.size g.2.2 b o by
         obtain⟨_,_,_,_,_,_,_,_,_,_,e3,_,_,_,_,_,_,h⟩:=HDG.out
         injection e3 with e3 _ _
         subst e3
         exact h Q7I)
        subst hAp;obtain⟨sb',sn',sp',⟨k0,k1,k2,k3,k4⟩,hd'⟩:=hfin.at_ hdr;have HD':=Q2 hd';obtain⟨Ab2,nb2,cb2,An2,nn2,cn2,Ap2,cp2,rfl,rfl,rfl,_⟩:=hd';have HDR:=Q2 hdr;have v0:=(KB.out.cell (p:=⟨bp,op+i*5,none⟩) hbp).trans k0;have v1:=(KB.out.cell (p:=⟨bp,op+i*5+1,none⟩) hbp).trans k1;have v2:=(KB.out.cell (p:=⟨bp,op+i*5+2,none⟩) hbp).trans k2;have v3:=(KB.out.cell (p:=⟨bp,op+i*5+3,none⟩) hbp).trans k3;have v4:=(KB.out.cell (p:=⟨bp,op+i*5+4,none⟩) hbp).trans k4;obtain⟨x0,x1,x2,x3,x4,x5⟩:=KX.out.cells;clear hdr hfin k0 k1 k2 k3 k4;have hij:(i:Int)<(np:Int):=by omega
        have hi0:(0:Int)<=(i:Int):=by omega
        have hi1:((i+1:Nat):Int) - 1=(i:Int):=by omega
        rw[hi1];go_upto_region 18 with (at_builtin;refine Q5e _ slI rfl (.tmp 64) (.tmp 66) rfl wr.heap.size none 0 0 [] rfl (World.ownsRow_nil _ _ _ _) wr.heap.size A5 g.1.length c5 (iv g.1) rfl (Rd.of_own K5.out) (QdQ _) Q3 (Nat.le_refl _) ?_;intro Aq cq W1 hownq _ hbq)
        simp only[Nat.zero_add,List.nil_append] at hownq;have HQ:=Q2 hownq;have HBQ:=Q2 hbq;have hxl:=KX.out.lt;have hbw:bp<wr.heap.size:=by omega
        have t4:=(hbq.cell (p:=⟨gx,4,none⟩) hxl).trans x4;have s0:=(hbq.cell (p:=⟨bp,op+i*5,none⟩) hbw).trans v0;have s1:=(hbq.cell (p:=⟨bp,op+i*5+1,none⟩) hbw).trans v1;have s2:=(hbq.cell (p:=⟨bp,op+i*5+2,none⟩) hbw).trans v2;have s3:=(hbq.cell (p:=⟨bp,op+i*5+3,none⟩) hbw).trans v3;have s4:=(hbq.cell (p:=⟨bp,op+i*5+4,none⟩) hbw).trans v4;have t4':=fun ob=>Qj (o:=ob) t4;have s0':=fun ob=>Qj (o:=ob) s0;have s1':=fun ob=>Qj (o:=ob) s1;have s2':=fun ob=>Qj (o:=ob) s2;have s3':=fun ob=>Qj (o:=ob) s3;have s4':=fun ob=>Qj (o:=ob) s4;have hzq:=hbq.size;have hstl:st.length<=361201+601:=by omega
        clear hownq hbq x0 x1 x2 x3 x5;go_region_law (first|(refine QhW slI rfl (.tmp 75) (.tmp 77) rfl wr.heap.size Aq g.1.length cq (iv g.1) (by simp [Act.eval,Act.put]) (by exact HQ.out.alloc _) W1.heap.size (.int .i64 (i:Int)) (by simp [Act.eval,Act.put]) (by exact QdF _ _ _) rfl Q3 (by simp only[QB,World.size_drew];omega) (by exact(Kv HBQ.out _).drew) (Nat.le_refl _) (Nat.le_refl _) ?_;intro A2 c2 W2 hown2 hb2;have HO2':=Q2 hown2;have HB2':=Q2 hb2;have hz2:=hb2.size;have r4:=(hb2.cell (p:=⟨gx,4,none⟩) hxl).trans x4;have r0:=(hb2.cell (p:=⟨bp,op+i*5,none⟩) hbw).trans v0;have r1:=(hb2.cell (p:=⟨bp,op+i*5+1,none⟩) hbw).trans v1;have r2:=(hb2.cell (p:=⟨bp,op+i*5+2,none⟩) hbw).trans v2;have r3:=(hb2.cell (p:=⟨bp,op+i*5+3,none⟩) hbw).trans v3;have r5:=(hb2.cell (p:=⟨bp,op+i*5+4,none⟩) hbw).trans v4;clear hown2 hb2)|(refine Q8Q slN rfl (.tmp 68) (.tmp 80) rfl w.heap.size A6' st.length c6' cs6 (by simp [Act.eval,Act.put]) (by exact(ZV K6.out HB2'.out (Nat.le_refl _)).alloc _) W2.heap.size [.int .i64 d'.k,.int .i64 d'.n,.slice Ab2 nb2 cb2,.slice An2 nn2 cn2,.slice Ap2 p'.len cp2,.slice A2 (g.1.length+1) c2] (by simp [Act.eval,Act.put]) rfl (by exact Qla _ _ _) (by simp [Value.oneCell']) Q3 (by simp only[QB];omega) (W2.heap.size+1) (by simp only[QB]) ?_;intro g' c' W9 hown9 hg9 hat9 hlt9))
        all_goals go_wp2_with fail
        all_goals go_roundw
        all_goals first
         |exact QkE KB.out K6.out K6c.out K7.out K8.out KX.out KN.out K5.out KS.out KE.out hln hj Q3 HDR.out h10 HG.out.2.1 HD'.out HB2'.out HO2'.out hg9 hown9 hat9 rfl
         |(simp [intOf];done)
         |(simp [intOf];omega)
end
end Go.Proofs.YtphkhfdmlcnoeaaGreatDoor
