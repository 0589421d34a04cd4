import Derived.Test.YtphkhfdmlcnoeaaGreatDoorP19
import Derived.Test.YtphkhfdmlcnoeaaGreatDoorP18
namespace Go.Proofs.YtphkhfdmlcnoeaaGreatDoor
set_option linter.unusedVariables false
set_option linter.unusedSimpArgs false
open Go.RowKit
theorem Q2G{d:Nd}{np:Nat}(h:d.k<1∨4<d.k):Xi d np=5:=by unfold Xi;rw[if_pos h]
theorem Q4b(d:Nd)(np:Nat):Q9m d np=true↔((d.k≠1∧d.n≠0)∨(d.k≠2∧0<d.bs.length)∨(d.k≠4∧0<d.ns.length)∨(d.k<3∧0<np)∨(d.k=4∧d.ns.length≠np)):=by
 unfold Q9m
 simp only[Bool.or_eq_true,decide_eq_true_eq]
 constructor
 ·rintro((((h|h)|h)|h)|h)
  ·exact .inl h
  ·exact .inr (.inl h)
  ·exact .inr (.inr (.inl h))
  ·exact .inr (.inr (.inr (.inl h)))
  ·exact .inr (.inr (.inr (.inr h)))
 ·rintro(h|h|h|h|h)
  ·exact .inl (.inl (.inl (.inl h)))
  ·exact .inl (.inl (.inl (.inr h)))
  ·exact .inl (.inl (.inr h))
  ·exact .inl (.inr h)
  ·exact .inr h
theorem X2{d:Nd}{np:Nat}(hk:¬(d.k<1∨4<d.k))(h:(d.k≠1∧d.n≠0)∨(d.k≠2∧0<d.bs.length)∨(d.k≠4∧0<d.ns.length)∨(d.k<3∧0<np)∨(d.k=4∧d.ns.length≠np)):Xi d np=6:=by
 unfold Xi;rw[if_neg hk,if_pos ((Q4b d np).2 h)]
theorem Jr{d:Nd}{np:Nat}(hk:¬(d.k<1∨4<d.k))(h:¬((d.k≠1∧d.n≠0)∨(d.k≠2∧0<d.bs.length)∨(d.k≠4∧0<d.ns.length)∨(d.k<3∧0<np)∨(d.k=4∧d.ns.length≠np))):Xi d np=Jx d.ns np:=by
 unfold Xi Jx;rw[if_neg hk,if_neg (fun h'=>h ((Q4b d np).1 h'))]
theorem YY{w:World}{v:Value}{d:Nd}{p:VF}(h:VIn w w.heap.size v d p)(hx:Small d.ns)(hnn:d.ns.length≤9223372036854775807):
  Calls Tryz.prog 142 #[v] w fun e w'=>e=.returned (.int .i64 (Xi d p.len))∧Below w.heap.size w w':=by
 obtain⟨sb,sn,sp,rfl,Ab,nb,cb,An,nn,cn,Ap,cp,rfl,rfl,rfl,hbc,hnc,hpc,hpm,hrb,hrn,hp⟩:=h
 have eb:d.bs.length=nb:=by have:=hrb.len;rw[Xu] at this;exact this
 have en:d.ns.length=nn:=by have:=hrn.len;rw[XB] at this;exact this
 rw[en] at hnn
 obtain⟨k,n,bs,ns⟩:=d
 simp only at eb en hrb hrn hx ⊢
 by_cases hk:k<1∨4<k
 ·rw[Q2G (by exact hk)];exact Qau hk
 ·obtain⟨np,hnp⟩:∃np,p.len=np:=⟨_,rfl⟩
  rw[hnp]
  by_cases h1:k=1
  ·subst h1
   by_cases hn:n=0
   ·have hn0:(n != 0)=false:=by simp [hn]
    by_cases hb0:nb=0
    ·skip
     by_cases hs0:nn=0
     ·skip
      by_cases hp0:np=0
      ·skip
       rw[Jr (by dsimp only;omega) (by dsimp only;omega)];exact Q0q hrn hnc hnn hx hn0 hb0 hs0 hp0
      ·have hp1:0<np:=by omega
       rw[X2 (by dsimp only;omega) (by dsimp only;omega)];exact KT hn0 hb0 hs0 hp1
     ·have hs1:0<nn:=by omega
      rw[X2 (by dsimp only;omega) (by dsimp only;omega)];exact Q17 hn0 hb0 hs1
    ·have hb1:0<nb:=by omega
     rw[X2 (by dsimp only;omega) (by dsimp only;omega)];exact Q2k hn0 hb1
   ·have hn1:(n != 0)=true:=by simp [hn]
    by_cases hb0:nb=0
    ·skip
     by_cases hs0:nn=0
     ·skip
      by_cases hp0:np=0
      ·skip
       rw[Jr (by dsimp only;omega) (by dsimp only;omega)];exact Q0m hrn hnc hnn hx hn1 hb0 hs0 hp0
      ·have hp1:0<np:=by omega
       rw[X2 (by dsimp only;omega) (by dsimp only;omega)];exact KW hn1 hb0 hs0 hp1
     ·have hs1:0<nn:=by omega
      rw[X2 (by dsimp only;omega) (by dsimp only;omega)];exact Q0Z hn1 hb0 hs1
    ·have hb1:0<nb:=by omega
     rw[X2 (by dsimp only;omega) (by dsimp only;omega)];exact Q2h hn1 hb1
  ·by_cases h2:k=2
   ·subst h2
    by_cases hn:n=0
    ·have hn0:(n != 0)=false:=by simp [hn]
     by_cases hb0:nb=0
     ·skip
      by_cases hs0:nn=0
      ·skip
       by_cases hp0:np=0
       ·skip
        rw[Jr (by dsimp only;omega) (by dsimp only;omega)];exact Q0z hrn hnc hnn hx hn0 hb0 hs0 hp0
       ·have hp1:0<np:=by omega
        rw[X2 (by dsimp only;omega) (by dsimp only;omega)];exact KR hn0 hb0 hs0 hp1
      ·have hs1:0<nn:=by omega
       rw[X2 (by dsimp only;omega) (by dsimp only;omega)];exact Q0N hn0 hb0 hs1
     ·have hb1:0<nb:=by omega
      by_cases hs0:nn=0
      ·skip
       by_cases hp0:np=0
       ·skip
        rw[Jr (by dsimp only;omega) (by dsimp only;omega)];exact Q0A hrn hnc hnn hx hn0 hb1 hs0 hp0
       ·have hp1:0<np:=by omega
        rw[X2 (by dsimp only;omega) (by dsimp only;omega)];exact KQ hn0 hb1 hs0 hp1
      ·have hs1:0<nn:=by omega
       rw[X2 (by dsimp only;omega) (by dsimp only;omega)];exact Q0R hn0 hb1 hs1
    ·have hn1:(n != 0)=true:=by simp [hn]
     rw[X2 (by dsimp only;omega) (by dsimp only;omega)];exact Q3U hn1
   ·by_cases h3:k=3
    ·subst h3
     by_cases hn:n=0
     ·have hn0:(n != 0)=false:=by simp [hn]
      by_cases hb0:nb=0
      ·skip
       by_cases hs0:nn=0
       ·skip
        by_cases hp0:np=0
        ·skip
         rw[Jr (by dsimp only;omega) (by dsimp only;omega)];exact Q07 hrn hnc hnn hx hn0 hb0 hs0 hp0
        ·have hp1:0<np:=by omega
         rw[Jr (by dsimp only;omega) (by dsimp only;omega)];exact Q0v hrn hnc hnn hx hn0 hb0 hs0 hp1
       ·have hs1:0<nn:=by omega
        rw[X2 (by dsimp only;omega) (by dsimp only;omega)];exact Q0F hn0 hb0 hs1
      ·have hb1:0<nb:=by omega
       rw[X2 (by dsimp only;omega) (by dsimp only;omega)];exact Q2i hn0 hb1
     ·have hn1:(n != 0)=true:=by simp [hn]
      rw[X2 (by dsimp only;omega) (by dsimp only;omega)];exact Q3X hn1
    ·obtain rfl:k=4:=by omega
     by_cases hn:n=0
     ·have hn0:(n != 0)=false:=by simp [hn]
      by_cases hb0:nb=0
      ·skip
       by_cases hs0:nn=0
       ·skip
        by_cases hp0:np=0
        ·skip
         rw[Jr (by dsimp only;omega) (by dsimp only;omega)];exact Q0t hrn hnc hnn hx hn0 hb0 hs0 hp0 (by omega)
        ·have hp1:0<np:=by omega
         by_cases hne:nn=np
         ·omega
         ·rw[X2 (by dsimp only;omega) (by dsimp only;omega)];exact K2 hn0 hb0 hs0 hp1 hne
       ·have hs1:0<nn:=by omega
        by_cases hp0:np=0
        ·skip
         by_cases hne:nn=np
         ·omega
         ·rw[X2 (by dsimp only;omega) (by dsimp only;omega)];exact KC hn0 hb0 hs1 hp0 hne
        ·have hp1:0<np:=by omega
         by_cases hne:nn=np
         ·rw[Jr (by dsimp only;omega) (by dsimp only;omega)];exact Q0x hrn hnc hnn hx hn0 hb0 hs1 hp1 hne
         ·rw[X2 (by dsimp only;omega) (by dsimp only;omega)];exact KE hn0 hb0 hs1 hp1 hne
      ·have hb1:0<nb:=by omega
       rw[X2 (by dsimp only;omega) (by dsimp only;omega)];exact Q2g hn0 hb1
     ·have hn1:(n != 0)=true:=by simp [hn]
      rw[X2 (by dsimp only;omega) (by dsimp only;omega)];exact Q3K hn1
theorem Jq(c i:Int)(w:World):Calls Tryz.prog 103 #[.int .i64 c,.int .i64 i] w fun e w'=>e=.returned (.agg #[.int .i64 c,.int .i64 i])∧w.alloc (.cells #[.int .i64 c,.int .i64 i] 32)=w':=by
 go_enter Tryz.func103,Tryz.ntmps103
 go_wp2
 exact bodyPost_ret (v:=.agg #[.int .i64 c,.int .i64 i]) (by simp [results,Tryz.results103,go_sem]) rfl ⟨rfl,rfl⟩
def ZJ(d:Nd):Prop:=Q84 d∧d.bs.length≤1048576∧d.ns.length≤1048576∧∀x∈d.ns,x.length≤1048576
def Zq:VF→Prop
 |.nil=>True
 |.cons d p r=>ZJ d∧p.len≤1048576∧Zq p∧Zq r
theorem Zq.drop:∀(F:VF) (i:Nat),Zq F→Zq (F.drop i):=by
 intro F
 induction F with
 |nil=>intro i _;cases i<;>trivial
 |cons d p r _ ih=>
  intro i h
  cases i with
  |zero=>exact h
  |succ i=>exact ih i h.2.2.2
theorem ZJ.small{d:Nd}(h:ZJ d):Small d.ns:=fun x hx=>Nat.le_trans (h.2.2.2 x hx) (by omega)
def Q1N(w:World)(r:Sum (Int×Int) Nat)(e:Ending)(w':World):Prop:=
 Below w.heap.size w w'∧((∃c i,r=.inl (c,i)∧e=.returned (.tuple #[.int .i64 0,.agg #[.int .i64 c,.int .i64 i]]))∨(∃m:Nat,r=.inr m∧e=.returned (.tuple #[.int .i64 (m:Int),.agg #[.int .i64 0,.int .i64 0]])))
theorem Q2M(d:Nd)(p r:VF)(n l:Nat):XP (.cons d p r) n l=match XP (.cons d p .nil) n l with|.inl f=>.inl f|.inr m=>XP r m l:=by
 by_cases h1:600≤n∨10<l
 ·rw[JC h1,JC h1]
 ·by_cases h2:Xi d p.len≠0
  ·rw[JF h1 h2,JF h1 h2]
  ·cases hp:XP p (n+1) (l+1) with
   |inl f=>rw[VO h1 h2 hp,VO h1 h2 hp]
   |inr m=>rw[Vq h1 h2 hp,Vq h1 h2 hp];rfl
theorem QcK{d:Nd}{p r:VF}{n l:Nat}{f:Int×Int}(h:XP (.cons d p .nil) n l=.inl f):XP (.cons d p r) n l=.inl f:=by rw[Q2M,h]
theorem QcE{d:Nd}{p r:VF}{n l m:Nat}(h:XP (.cons d p .nil) n l=.inr m):XP (.cons d p r) n l=XP r m l:=by rw[Q2M,h]
set_option maxRecDepth 100000 in
set_option maxHeartbeats 1000000 in
theorem Q85{w:World}{v:Value}{d:Nd}{p:VF}{num lev:Nat}(hv:VIn w w.heap.size v d p)(h:600≤num∨10<lev)(hn:num≤600)(hl:lev≤11):
  Calls Tryz.prog 101 #[v,.int .i64 (num:Int),.int .i64 (lev:Int)] w (Q1N w (XP (.cons d p .nil) num lev)):=by
 have HC:=Lib.hid (JC (d:=d) (p:=p) (r:=.nil) h)
 obtain⟨sb,sn,sp,rfl,Ab,nb,cb,An,nn,cn,Ap,cp,rfl,rfl,rfl,hbc,hnc,hpc,hpm,hrb,hrn,hp⟩:=hv
 clear hrb hrn hp
 rcases h with h|h
 ·have h':(600:Int)≤(num:Int):=by omega
  go_enter Tryz.func101,Tryz.ntmps101
  go_wp2_with (go_at_call 103;refine(Jq _ _ _).mono ?_;rintro e w' ⟨rfl,rfl⟩)
  refine bodyPost_ret (v:=.tuple #[.int .i64 0,.agg #[.int .i64 2,.int .i64 (num:Int)]]) (by simp [results,Tryz.results101,go_sem]) rfl ?_
  exact⟨Q1A _ _ _ _,.inl ⟨_,_,HC.out,rfl⟩⟩
 ·by_cases h6:(600:Int)≤(num:Int)
  ·go_enter Tryz.func101,Tryz.ntmps101
   go_wp2_with (go_at_call 103;refine(Jq _ _ _).mono ?_;rintro e w' ⟨rfl,rfl⟩)
   refine bodyPost_ret (v:=.tuple #[.int .i64 0,.agg #[.int .i64 2,.int .i64 (num:Int)]]) (by simp [results,Tryz.results101,go_sem]) rfl ?_
   exact⟨Q1A _ _ _ _,.inl ⟨_,_,HC.out,rfl⟩⟩
  ·have h':(10:Int)<(lev:Int):=by omega
   go_enter Tryz.func101,Tryz.ntmps101
   go_wp2_with (go_at_call 103;refine(Jq _ _ _).mono ?_;rintro e w' ⟨rfl,rfl⟩)
   refine bodyPost_ret (v:=.tuple #[.int .i64 0,.agg #[.int .i64 2,.int .i64 (num:Int)]]) (by simp [results,Tryz.results101,go_sem]) rfl ?_
   exact⟨Q1A _ _ _ _,.inl ⟨_,_,HC.out,rfl⟩⟩
set_option maxRecDepth 100000 in
set_option maxHeartbeats 1000000 in
theorem Q7C{w:World}{v:Value}{d:Nd}{p:VF}{num lev:Nat}(hv:VIn w w.heap.size v d p)(hf:ZJ d)(hn:num<600)(hl:lev≤10)(hc:Xi d p.len≠0):
  Calls Tryz.prog 101 #[v,.int .i64 (num:Int),.int .i64 (lev:Int)] w (Q1N w (XP (.cons d p .nil) num lev)):=by
 have HC:=Lib.hid (JF (d:=d) (p:=p) (r:=.nil) (num:=num) (lev:=lev) (by omega) hc)
 have HV:=Lib.hid hv
 obtain⟨sb,sn,sp,rfl,Ab,nb,cb,An,nn,cn,Ap,cp,rfl,rfl,rfl,hbc,hnc,hpc,hpm,hrb,hrn,hp⟩:=hv
 have hnc0:(Xi d p.len != 0)=true:=by simp [hc]
 have HF:=Lib.hid hf
 clear hrb hrn hp hf hc
 have h1:¬(600:Int)≤(num:Int):=by omega
 have h2:¬(10:Int)<(lev:Int):=by omega
 go_enter Tryz.func101,Tryz.ntmps101
 go_wp2_with fail
 refine(YY (d:=d) (p:=p) (HV.out.on (ZZ _ _ _)) HF.out.small (by have:=HF.out.2.2.1;omega)).mono ?_
 rintro e w2 ⟨rfl,hb2⟩
 have F1:=(FC.new (w.alloc (.cells #[.int .i64 d.k,.int .i64 d.n,.slice Ab nb cb,.slice An nn cn,.slice Ap p.len cp] 30)) 0 0).on hb2
 simp only[Q4] at F1
 obtain⟨z,c0,c1,f0,f1⟩:=F1
 have HB2:=Lib.hid (show Below w.heap.size w w2 from Qz (ZZ _ _ _) hb2)
 clear hb2
 go_wp2_with (go_at_call 103;refine(Jq _ _ _).mono ?_;rintro e w' ⟨rfl,rfl⟩)
 refine bodyPost_ret (v:=.tuple #[.int .i64 0,.agg #[.int .i64 (Xi d p.len),.int .i64 (num:Int)]]) (by simp [results,Tryz.results101,go_sem,c0,c1,z]) rfl ?_
 exact⟨Kz (Zo HB2.out (by omega) _ _) _,.inl ⟨_,_,HC.out,rfl⟩⟩
def Qer(w:World)(g:Nat)(p:VF)(n l:Nat)(next k:Value)(wr:World):Prop:=
 ∃i m:Nat,i≤p.len∧k=.int .i64 (i:Int)∧next=.int .i64 (m:Int)∧m≤600∧XP p n l=XP (p.drop i) m l∧Below w.heap.size w wr∧FC wr g 0 0
def Qdr(d:Nd)(p:VF):Prop:=ZJ d→Zq p→p.len≤1048576→∀(w:World) (v:Value) (num lev:Nat),VIn w w.heap.size v d p→num≤600→lev≤11→
 Calls Tryz.prog 101 #[v,.int .i64 (num:Int),.int .i64 (lev:Int)] w (Q1N w (XP (.cons d p .nil) num lev))
theorem Qcf{d:Nd}{p r F:VF}{i:Nat}(h:VF.All Qdr (F.drop i))(hd:F.drop i=.cons d p r)(hf:Zq (F.drop i)):∀(w:World) (v:Value) (num lev:Nat),VIn w w.heap.size v d p→num≤600→lev≤11→
  Calls Tryz.prog 101 #[v,.int .i64 (num:Int),.int .i64 (lev:Int)] w (Q1N w (XP (.cons d p .nil) num lev)):=by
 rw[hd] at h hf
 exact h.1 hf.1 hf.2.2.1 hf.2.1
set_option maxRecDepth 100000 in
set_option maxHeartbeats 2000000 in
theorem Q6C{w:World}{v:Value}{d:Nd}{p:VF}{num lev:Nat}(hall:VF.All Qdr p)(hv:VIn w w.heap.size v d p)(hf:ZJ d)(hfp:Zq p)(hpl:p.len≤1048576)(hn:num<600)(hl:lev≤10)(hc:Xi d p.len=0):
  Calls Tryz.prog 101 #[v,.int .i64 (num:Int),.int .i64 (lev:Int)] w (Q1N w (XP (.cons d p .nil) num lev)):=by
 have HV:=Lib.hid hv
 obtain⟨sb,sn,sp,rfl,Ab,nb,cb,An,nn,cn,Ap,cp,rfl,rfl,rfl,hbc,hnc,hpc,hpm,hrb,hrn,hp⟩:=hv
 have HNC:=Lib.hid hc
 have HF:=Lib.hid hf
 have HFP:=Lib.hid hfp
 have HALL:=Lib.hid hall
 have HP:=Lib.hid hp
 clear hrb hrn hp hf hc hfp hall
 have h1:¬(600:Int)≤(num:Int):=by omega
 have h2:¬(10:Int)<(lev:Int):=by omega
 go_enter Tryz.func101,Tryz.ntmps101
 go_wp2_with fail
 refine(YY (d:=d) (p:=p) (HV.out.on (ZZ _ _ _)) HF.out.small (by have:=HF.out.2.2.1;omega)).mono ?_
 rintro e w2 ⟨rfl,hb2⟩
 rw[HNC.out]
 have F1:=(FC.new (w.alloc (.cells #[.int .i64 d.k,.int .i64 d.n,.slice Ab nb cb,.slice An nn cn,.slice Ap p.len cp] 30)) 0 0).on hb2
 simp only[Q4] at F1
 have HF1:=Lib.hid F1
 have hbox:w2.cell? ⟨w.heap.size,4,none⟩=some (.slice Ap p.len cp):=(hb2.cell (by simp only[Q4];omega)).trans (Qh (by simp))
 have HB2:=Lib.hid (show Below w.heap.size w w2 from Qz (ZZ _ _ _) hb2)
 clear hb2 F1
 obtain⟨np,hnp⟩:∃np,p.len=np:=⟨_,rfl⟩
 have HNP:=Lib.hid hnp
 rw[hnp] at hbox hpl hpc ⊢
 clear hnp
 go_wp2_with fail
 go_loopw [9,33] (Qer w (w.heap.size+1) p (num+1) (lev+1)) (fun _ k _=>np - (intOf k).toNat)
 case atStart=>exact⟨0,num+1,Nat.zero_le _,rfl,by go_num,by omega,by rw[VF.drop_zero],HB2.out,HF1.out⟩
 case round=>
  obtain⟨i,m,hi,rfl,rfl,hm,hch,hbw,hfc⟩:=hrel
  rw[HNP.out] at hi
  have HCH:=Lib.hid hch
  have HBW:=Lib.hid hbw
  have HFC:=Lib.hid hfc
  have hzw:=hbw.size
  have hzf:w.heap.size+1<wr.heap.size:=hfc.1
  clear hch hbw hfc hbox
  by_cases hlt:i<np
  ·obtain⟨b,o,hAp,hb,hfin⟩:=HP.out (by rw[HNP.out];omega)
   subst hAp
   obtain⟨d',p',hdr⟩:=VF.drop_cons (F:=p) (i:=i) (by rw[HNP.out];exact hlt)
   obtain⟨sb',sn',sp',⟨k0,k1,k2,k3,k4⟩,hd'⟩:=hfin.at_ hdr
   have HV':Hid (VIn w w.heap.size (.agg #[.int .i64 d'.k,.int .i64 d'.n,sb',sn',sp']) d' p'):=Lib.hid ⟨sb',sn',sp',rfl,hd'⟩
   obtain⟨Ab',nb',cb',An',nn',cn',Ap',cp',rfl,rfl,rfl,_⟩:=hd'
   have q0:=(HBW.out.cell (by exact hb)).trans k0
   have q1:=(HBW.out.cell (by exact hb)).trans k1
   have q2:=(HBW.out.cell (by exact hb)).trans k2
   have q3:=(HBW.out.cell (by exact hb)).trans k3
   have q4:=(HBW.out.cell (by exact hb)).trans k4
   clear k0 k1 k2 k3 k4 hfin
   have HDR:=Lib.hid hdr
   clear hdr
   have hli:(i:Int)<(np:Int):=by omega
   have h0:(0:Int)≤(i:Int):=by omega
   have hct:=Qcf (VF.all_drop HALL.out i) HDR.out (Zq.drop p i HFP.out)
   have HCT:=Lib.hid hct
   clear hct
   go_wp2_with fail
   refine(HCT.out _ _ m (lev+1) ((HV'.out.below HBW.out (Nat.le_refl _)).keep (fun q hq=>(ZZ _ _ _).cell (by omega)) (by simp only[Q4];omega)) hm (by omega)).mono ?_
   intro e w3 hend
   obtain⟨hb3,hres⟩:=hend
   have F3:=(FC.new (wr.alloc (.cells #[.int .i64 d'.k,.int .i64 d'.n,.slice Ab' nb' cb',.slice An' nn' cn',.slice Ap' p'.len cp'] 30)) 0 0).on hb3
   simp only[Q4] at F3
   have R3:=(HFC.out.on (ZZ _ _ _)).on hb3
   have HB3:=Lib.hid (show Below w.heap.size w w3 from Qz HBW.out (Qz (ZZ _ _ _) hb3))
   have HF3:=Lib.hid F3
   have HR3:=Lib.hid R3
   have hz3:wr.heap.size+1<w3.heap.size:=F3.1
   clear hb3 F3 R3
   rcases hres with ⟨c,ix,hr,rfl⟩|⟨m',hr,rfl⟩
   ·have hc0:(c==0)=false:=by
     have:=Vn _ _ _ _ _ hr
     simpa using this
    have hneq:=Q0K c ix 0 0
    have HR:=Lib.hid (show XP (.cons d p .nil) num lev=.inl (c,ix) from VO (by omega) (by rw[HNC.out];simp) (by rw[HCH.out,HDR.out];exact QcK hr))
    obtain⟨z3,a0,a1,g0,g1⟩:=HF3.out
    obtain⟨z4,r0,r1,e0,e1⟩:=HR3.out
    clear hr z4 r0 r1 e0 e1
    have P1:=HF3.out.put c ix
    have P2:=(HR3.out.far (g:=wr.heap.size+1) (o:=0) (v:=.int .i64 c) (by omega)).far (g:=wr.heap.size+1) (o:=1) (v:=.int .i64 ix) (by omega)
    have PB:=Zo HB3.out (g:=wr.heap.size+1) (by omega) (.int .i64 c) (.int .i64 ix)
    go_wp2_with fail
    obtain⟨W4,hW4⟩:∃W4,((w3.setCell ⟨wr.heap.size+1,0,none⟩ (.int .i64 c)).setCell ⟨wr.heap.size+1,1,none⟩ (.int .i64 ix))=W4:=⟨_,rfl⟩
    rw[hW4] at P1 P2 PB ⊢
    have HPB:=Lib.hid PB
    clear hW4 PB z3 a0 a1 g0 g1
    obtain⟨z3,a0,a1,g0,g1⟩:=P1
    obtain⟨z4,r0,r1,e0,e1⟩:=P2
    go_region
    go_wp2_with fail
    refine bodyPost_ret (v:=.tuple #[.int .i64 0,.agg #[.int .i64 c,.int .i64 ix]]) (by simp [results,Tryz.results101,go_sem,r0,r1,z4]) rfl ?_
    exact⟨(Zo HPB.out (by omega) _ _).drew,.inl ⟨_,_,HR.out,rfl⟩⟩
   ·have HR:=Lib.hid (show XP p (num+1) (lev+1)=XP (p.drop (i+1)) m' (lev+1) by rw[HCH.out,HDR.out];exact QcE hr)
    have hm':m'≤600:=(Q1C _ _ _ _ hr).2 hm
    have hneq:=Q0K 0 0 0 0
    obtain⟨z3,a0,a1,g0,g1⟩:=HF3.out
    clear hr
    go_wp2_with fail
    go_roundw
    case rel=>exact⟨i+1,m',by rw[HNP.out];omega,by go_num,rfl,hm',HR.out,Zo HB3.out (by omega) _ _,(HR3.out.far (by omega)).far (by omega)⟩
    case measure=>simp [intOf];omega
  ·have HR:=Lib.hid (show XP (.cons d p .nil) num lev=.inr m by
    rw[Vq (m:=m) (by omega) (by rw[HNC.out];simp) (by rw[HCH.out,VF.drop_nil (by rw[HNP.out];omega)];rfl)];rfl)
   obtain⟨z4,r0,r1,e0,e1⟩:=HFC.out
   go_wp2_with fail
   refine bodyPost_ret (v:=.tuple #[.int .i64 (m:Int),.agg #[.int .i64 0,.int .i64 0]]) (by simp [results,Tryz.results101,go_sem,r0,r1,z4]) rfl ?_
   exact⟨Zo HBW.out (by omega) _ _,.inr ⟨m,HR.out,rfl⟩⟩
theorem Q7s(d:Nd)(p:VF)(hall:VF.All Qdr p):Qdr d p:=by
 intro hf hfp hpl w v num lev hv hn hl
 by_cases h:600≤num∨10<lev
 ·exact Q85 hv h hn hl
 ·by_cases hc:Xi d p.len=0
  ·exact Q6C hall hv hf hfp hpl (by omega) (by omega) hc
  ·exact Q7C hv hf (by omega) (by omega) hc
theorem Q0O{d:Nd}{p:VF}{w:World}{v:Value}{num lev:Nat}(hf:ZJ d)(hfp:Zq p)(hpl:p.len≤1048576)(hv:VIn w w.heap.size v d p)(hn:num≤600)(hl:lev≤11):
  Calls Tryz.prog 101 #[v,.int .i64 (num:Int),.int .i64 (lev:Int)] w (Q1N w (XP (.cons d p .nil) num lev)):=
 VF.all_each Q7s d p hf hfp hpl w v num lev hv hn hl
section
variable {F:List Rl}{D:List UInt8}
def Sz(d:Nd)(l:VF):Prop:=ZJ d∧Zq l∧l.len≤1048576
theorem Q5N{r:Rl}(hr:J6 r){p q:Nat}{n:Int}(hp:p≤D.length)(h:JV r D p=some (.ok (n,q))):0≤n∧n<4294967296:=by
 have a:=Yg hr.numK hp h;refine⟨a.2.2.2,?_⟩
 by_cases h3:r.kind=3
 ·have:=a.2.1 h3;have:=hr.dec h3
  omega
 ·have h2:=hr.kind.resolve_right h3;have b:=a.2.2.1 h3;obtain⟨c1,c2,c3,c4,c5⟩:=hr.num h2
  rcases (show r.size=1∨r.size=2∨r.size=3∨r.size=4 by omega) with e|e|e|e<;>rw[e] at c5<;>simp at c5<;>omega
theorem Qbh{n:Int}(h:0≤n∧n<4294967296):Sz (ndN n) .nil:=⟨⟨⟨by show (-9223372036854775808:Int)≤1;omega,by show (1:Int)≤9223372036854775807;omega,by show (-9223372036854775808:Int)≤n;omega,by show n≤9223372036854775807;omega⟩,by simp,by simp,by simp⟩,trivial,by simp [VF.len]⟩
theorem Q3y{bs:List UInt8}(h:bs.length≤1048576):Sz (ndB bs) .nil:=⟨⟨⟨by show (-9223372036854775808:Int)≤2;omega,by show (2:Int)≤9223372036854775807;omega,by show (-9223372036854775808:Int)≤0;omega,by show (0:Int)≤9223372036854775807;omega⟩,h,by simp,by simp⟩,trivial,by simp [VF.len]⟩
theorem Q2q{l:VF}(hf:Zq l)(hl:l.len≤1048576):Sz ndL l:=⟨⟨⟨by show (-9223372036854775808:Int)≤3;omega,by show (3:Int)≤9223372036854775807;omega,by show (-9223372036854775808:Int)≤0;omega,by show (0:Int)≤9223372036854775807;omega⟩,by simp,by simp,by simp⟩,hf,hl⟩
theorem QeN{l:VF}{ns:List (List UInt8)}(hf:Zq l)(hl:l.len≤1048576)(hn:ns.length≤1048576)(hs:∀x∈ns,x.length≤1048576):Sz (ndR ns) l:=⟨⟨⟨by show (-9223372036854775808:Int)≤4;omega,by show (4:Int)≤9223372036854775807;omega,by show (-9223372036854775808:Int)≤0;omega,by show (0:Int)≤9223372036854775807;omega⟩,by simp,hn,hs⟩,hf,hl⟩
theorem Q48{one:Nat→Rdg (Nd×VF×Nat)}{m:Nat}(hf:Far one m)(h1:∀p y,p≤m→one p=some (.ok y)→Sz y.1 y.2.1):∀{n p:Nat} {z:VF×Nat},p≤m→Ze one n p=some (.ok z)→Zq z.1∧z.1.len≤z.2 - p
 |0,p,z,hp,h=>by
  rw[← Qv h];exact⟨trivial,by simp [VF.len]⟩
 |n+1,p,z,hp,h=>by
  obtain⟨y,hy,hg⟩:=Qy h;obtain⟨z',hz,hg⟩:=Qy hg;have a:=hf p y hp hy;have b:=h1 p y hp hy;have c:=Q48 hf h1 a.2 hz;have d:=JK hf a.2 hz;rw[← Qv hg];refine⟨⟨b.1,b.2.2,b.2.1,c.1⟩,?_⟩
  simp only[VF.len]
  omega
theorem Q69{one:Nat→Rdg (Nd×VF×Nat)}{stop:Int}(hf:Far one D.length)(h1:∀p y,p≤D.length→one p=some (.ok y)→Sz y.1 y.2.1):∀{f p:Nat} {z:VF×Nat},p≤D.length→Zs one D stop f p=some (.ok z)→Zq z.1∧z.1.len≤z.2 - p
 |0,p,z,hp,h=>by cases h
 |f+1,p,z,hp,h=>by
  unfold Zs at h
  split at h
  ·exact(Xa h).elim
  ·split at h
   ·rw[← Qv h];exact⟨trivial,by simp [VF.len]⟩
   ·obtain⟨y,hy,hg⟩:=Qy h;obtain⟨z',hz,hg⟩:=Qy hg;have a:=hf p y hp hy;have b:=h1 p y hp hy;have c:=Q69 hf h1 a.2 hz;have d:=Yf hf a.2 hz;rw[← Qv hg];refine⟨⟨b.1,b.2.2,b.2.1,c.1⟩,?_⟩
    simp only[VF.len]
    omega
theorem Q6o{one:Int→Nat→Rdg (Nd×VF×Nat)}{m:Nat}:∀{ns:List (List UInt8)} {ks:List Int} {p:Nat} {z:List (List UInt8)×VF×Nat},(∀k∈ks,Far (one k) m)→(∀k∈ks,∀p y,p≤m→one k p=some (.ok y)→Sz y.1 y.2.1)→p≤m→Zt one ns ks p=some (.ok z)→Zq z.2.1∧z.2.1.len≤ks.length∧z.1.length≤ks.length∧∀x∈z.1,x∈ns
 |[],ks,p,z,hf,h1,hp,h=>by
  have:okR ([],.nil,p)=some (.ok z):=by cases ks<;>exact h
  rw[← Qv this];exact⟨trivial,by simp [VF.len],by simp,by simp⟩
 |_::_,[],p,z,hf,h1,hp,h=>by
  rw[← Qv h];exact⟨trivial,by simp [VF.len],by simp,by simp⟩
 |nm::ns,k::ks,p,z,hf,h1,hp,h=>by
  unfold Zt at h
  obtain⟨y,hy,hg⟩:=Qy h;obtain⟨z',hz,hg⟩:=Qy hg;have a:=hf k List.mem_cons_self p y hp hy;have b:=h1 k List.mem_cons_self p y hp hy;obtain⟨c1,c2,c3,c4⟩:=Q6o (fun k hk=>hf k (List.mem_cons_of_mem _ hk)) (fun k hk=>h1 k (List.mem_cons_of_mem _ hk)) a.2 hz
  split at hg
  ·rw[← Qv hg,List.length_cons];exact⟨c1,by omega,by omega,fun x hx=>List.mem_cons_of_mem _ (c4 x hx)⟩
  ·rw[← Qv hg,List.length_cons];refine⟨⟨b.1,b.2.2,b.2.1,c1⟩,?_,?_,fun x hx=>?_⟩
   ·simp only[VF.len];omega
   ·simp only[List.length_cons];omega
   ·rcases List.mem_cons.1 hx with rfl|hx
    ·exact List.mem_cons_self
    ·exact List.mem_cons_of_mem _ (c4 x hx)
theorem Yt(hv:Fm F)(hD:D.length≤1048576)(hnm:∀r∈F,∀x∈r.names,x.length≤1048576):∀(f:Nat) {k:Int},0≤k∧k<F.length→∀(p:Nat) (y:Nd×VF×Nat),p≤D.length→Qx F D f k p=some (.ok y)→Sz y.1 y.2.1
 |0,k,hk,p,y,hp,h=>by cases h
 |f+1,k,hk,p,y,hp,h=>by
  have hr:=hv.toUsd.rok hk;have hno:=hv.numOk hk;have hfar:=QX (D:=D) hv.toUsd (f+1) hk p y hp h;have hnames:=hnm _ (List.mem_of_getElem? (V6 hk))
  unfold Qx at h
  simp only at h
  obtain⟨r,e⟩:∃r,Qd F k=r:=⟨_,rfl⟩
  simp only[e] at h hr hno hnames
  split at h
  ·obtain⟨q,hq,hg⟩:=Qy h;rw[← Qv hg];exact Q2q trivial (by simp [VF.len])
  split at h
  ·next h1 h23=>
   obtain⟨z,hz,hg⟩:=Qy h;rw[← Qv hg];exact Qbh (Q5N (n:=z.1) (q:=z.2) (J6.of hr h23) hp hz)
  split at h
  ·obtain⟨z,hz,hg⟩:=Qy h;obtain⟨rfl,hn⟩:=Zn hz;rw[← Qv hg];exact Q3y (by rw[List.length_take,List.length_drop];omega)
  split at h
  ·obtain⟨x,hx,hg⟩:=Qy h;obtain⟨z,hz,hg⟩:=Qy hg;obtain⟨rfl,hn⟩:=Zn hz;rw[← Qv hg];exact Q3y (by rw[List.length_take,List.length_drop];omega)
  split at h
  ·obtain⟨q,hq,hg⟩:=Qy h;rw[← Qv hg];exact Q3y (by rw[List.length_take,List.length_drop];omega)
  split at h
  ·next h1 h23 h4 h10 h5 h6=>
   obtain⟨x,hx,hg⟩:=Qy h;obtain⟨z,hz,hg⟩:=Qy hg;have c:=Zl (n:=x.1) (q:=x.2) (hno (.inl h6)).numK hp hx;have hff:=QX (D:=D) hv.toUsd f (hr.elem (.inl h6));have b:=Q48 hff (fun p y hp h=>Yt hv hD hnm f (hr.elem (.inl h6)) p y hp h) c.2 hz;have d:=JK hff c.2 hz;rw[← Qv hg];exact Q2q b.1 (by show z.1.len≤1048576;omega)
  split at h
  ·next h1 h23 h4 h10 h5 h6 h9=>
   obtain⟨z,hz,hg⟩:=Qy h;have hff:=QX (D:=D) hv.toUsd f (hr.elem (.inr h9));have b:=Q69 hff (fun p y hp h=>Yt hv hD hnm f (hr.elem (.inr h9)) p y hp h) hp hz;have d:=Yf hff hp hz;rw[← Qv hg];exact Q2q b.1 (by show z.1.len≤1048576;omega)
  split at h
  ·next h1 h23 h4 h10 h5 h6 h9 h8=>
   split at h
   ·exact(Xa h).elim
   ·split at h
    ·exact(Xa h).elim
    ·next c hc _ i hi=>
     obtain⟨z,hz,hg⟩:=Qy h;have hil:=Jc hi;have:=hr.p12;have b:=Yt hv hD hnm f (hr.parts (.inr h8) _ (ZX hil)) p z hp hz;have a:=Qbh (n:=(i:Int)) (by omega);rw[← Qv hg];exact Q2q ⟨a.1,by simp [VF.len],trivial,b.1,b.2.2,b.2.1,trivial⟩ (by simp [VF.len])
  ·next h1 h23 h4 h10 h5 h6 h9 h8=>
   have h7:r.kind=7:=by
    have:=hr.kind
    omega
   obtain⟨z,hz,hg⟩:=Qy h;obtain⟨c1,c2,c3,c4⟩:=Q6o (fun k hk=>QX hv.toUsd f (hr.parts (.inl h7) k hk)) (fun k hk=>Yt hv hD hnm f (hr.parts (.inl h7) k hk)) hp hz;have:=hr.p12;rw[← Qv hg]
   exact QeN c1 (by show z.2.1.len≤1048576;omega) (by show z.1.length≤1048576;omega) fun x hx=>hnames x (c4 x hx)
end
def ZH(P:Program)(R:Value→World→Prop)(B:List PanicEntry→World→Prop):Result Next→Prop
 |.ok (.value u) w'=>R u w'
 |.ok .skip w'=>R undef w'
 |.ok (.enter f args) w'=>Calls P f args w' (fun e w''=>(∃v,e=.returned v∧R v w'')∨∃ch,e=.panicked ch∧B ch w'')
 |_=>False
theorem ZH.of{P:Program}{R:Value→World→Prop}{B:List PanicEntry→World→Prop}{r:Result Next}(h:ZP P R r):ZH P R B r:=by
 cases r with
 |ok n w'=>
  cases n<;>simp only[ZP] at h<;>simp only[ZH]
  case value u=>exact h
  case skip=>exact h
  case enter f args=>exact h.mono fun e w'' h=>.inl h
 |halt x w'=>simp only[ZP] at h
class Pan[dq:DQ](Q:Exit→Act→World→Prop)(B:outParam (List PanicEntry→World→Prop)):Prop where
 on:∀a ch w,a.defers=DQ.D→B ch w→Q (.panic ch) a w
instance [dq:DQ]{Q:Exit→Act→World→Prop}{B:List PanicEntry→World→Prop}{K:Act→World→Prop}[h:Pan Q B]:Pan (Exit.then K Q) B:=⟨fun a ch w hd hb=>h.on a ch w hd hb⟩
instance [dq:DQ]{Q:Exit→Act→World→Prop}{B:List PanicEntry→World→Prop}{id:Nat}[h:Pan Q B]:Pan (Exit.inBlock id Q) B:=⟨fun a ch w hd hb=>h.on a ch w hd hb⟩
theorem Pan.body{P:Program}{fn:Func}{R:Ending→World→Prop}{B:List PanicEntry→World→Prop}(h:∀ch w,B ch w→R (.panicked ch) w):@Pan dq0 (bodyPost P fn R) B:=@Pan.mk dq0 _ _ fun a ch w hd hb=>⟨hd,h ch w hb⟩
theorem Oper.wp_of_loudP{P:Program}{o:Oper}{a:Act}{w:World}{R:Value→World→Prop}{B:List PanicEntry→World→Prop}{K:Act→World→Prop}{Q:Exit→Act→World→Prop}(h:ZH P R B ((execOp a.eval o).run P w))(hk:∀v w',R v w'→K (a.put o.dst v) w')(hb:∀ch w',B ch w'→Q (.panic ch) a w'):o.wp P a w K Q:=by
 unfold Oper.wp
 generalize (execOp a.eval o).run P w=r at h
 cases r with
 |ok n w'=>
  cases n<;>simp only[ZH] at h<;>simp only[Oper.upon]
  case value u=>exact hk _ _ h
  case skip=>exact hk _ _ h
  case enter f args=>
   refine h.mono fun e w'' h=>?_
   rcases h with ⟨v,he,hr⟩|⟨ch,he,hr⟩
   ·subst he;exact hk _ _ hr
   ·subst he;exact hb _ _ hr
 |halt x w'=>simp only[ZH] at h
def pE[dq:DQ](P:Program)(ops:Array Oper)(N:Nat)(M:List Nat)(W:World)(E:Env)(O:List Qc)(o:Oper)(ι:Type)(V:ι→Value)(G:ι→List Qc)(p:ι→Prop)(B:List PanicEntry→World→Prop):Prop:=
 ∀a w,Ag N E a→Wd M W O w→Region.wanted o (yielded ops a.tmps)=true∧ZH P (fun v w'=>∃i,v=V i∧p i∧Wd M W (G i) w') B ((execOp a.eval o).run P w)
def ZE{ι:Type}(V:ι→Value)(p:ι→Prop)(M:List Nat)(W:World)(G:ι→List Qc)(B:List PanicEntry→World→Prop)(e:Ending)(w':World):Prop:=XR V p M W G e w'∨∃ch,e=.panicked ch∧B ch w'
section
variable {P:Program}{ops:Array Oper}{Q:Exit→Act→World→Prop}{N:Nat}{E E':Env}{o:Oper}{rest:List Oper}{M:List Nat}{W:World}{O O0:List Qc}{d:Nat}{B:List PanicEntry→World→Prop}{T:List Nat}{f:Nat}{listed:Array Bool}
theorem XY[dq:DQ]{ι:Type}{V:ι→Value}{G:ι→List Qc}{p:ι→Prop}[hB:Pan Q B](h1:pE P ops N M W E O o ι V G p B)(hd:o.dst=some d)(hN:d<N)(h:∀i,p i→lE P ops Q N M W ((d,V i)::E) (G i) rest):lE P ops Q N M W E O (o::rest):=fun a w ha hW=>by
 obtain⟨hw,hl⟩:=h1 a w ha hW
 refine wpList_step fun K hK=>?_
 rw[if_pos hw]
 refine Oper.wp_of_loudP hl ?_ (fun ch w' hb=>hB.on a ch w' ha.df hb)
 rintro v w' ⟨i,rfl,hp,hW'⟩
 rw[hd]
 exact hK _ _ (h i hp _ w' (ha.put _ hN) hW')
theorem Qfl[dq:DQ]{ι:Type}{V:ι→Value}{p:ι→Prop}{G:ι→List Qc}{f:FuncId}{args:Array Value}(hw:Qj ops E o=some true)(hv:∀ρ w,Ev E ρ→(execOp ρ o).run P w=.ok (.enter f args) w)
  (hc:∀w,Wd M W O w→Calls P f args w (ZE V p M W G B)):pE P ops N M W E O o ι V G p B:=fun a w ha hW=>by
 refine⟨ha.want hw,?_⟩
 rw[hv a.eval w ha.ev]
 refine(hc w hW).mono ?_
 rintro e w' (⟨i,rfl,hp,hW'⟩|⟨ch,rfl,hb⟩)
 ·exact .inl ⟨_,rfl,i,rfl,hp,hW'⟩
 ·exact .inr ⟨ch,rfl,hb⟩
theorem QV[dq:DQ]{ι:Type}(V:ι→Value)(p:ι→Prop)(G:ι→List Qc){f:FuncId}{xs:List Operand}{ts:Array TypeId}{vs:List Value}[he:En P f](ho:o.op=.call { callee:=.value (.func f),args:=xs.toArray,argTypes:=ts })(hw:Qj ops E o=some true)(hx:evs E xs=some vs)
  (hc:∀w,Wd M W O w→Calls P f vs.toArray w (ZE V p M W G B)):pE P ops N M W E O o ι V G p B:=
 Qfl hw (fun ρ w ha=>Q8v ho hx ρ w ha) hc
def stepPn(P:Program)(ops:Array Oper)(C0:World→Prop)(T:List Nat)(B:List PanicEntry→World→Prop)(i:Nat)(a:Act)(D:World→Prop)(K:Act→(World→Prop)→Prop):Prop:=
 match ops[i]? with
 |none=>K a D
 |some o=>(Region.wanted o (yielded ops a.tmps)=false∧K (a.put o.dst undef) D)∨(Region.wanted o (yielded ops a.tmps)=true∧
   ∃(ι:Type) (V:ι→Value) (G:ι→World→Prop),(∀w,D w→ZH P (fun v w'=>∃i,v=V i∧G i w') B ((execOp a.eval o).run P w))∧(∀x,Stb (G x)∧(i∈T∨∀w,G x w→C0 w))∧∀x,K (a.put o.dst (V x)) (G x))
def Q5w(P:Program)(ops:Array Oper)(C0:World→Prop)(T:List Nat)(B:List PanicEntry→World→Prop)(Q:Exit→Act→World→Prop):Nat→Array Bool→Act→(World→Prop)→Prop
 |0,listed,a,D=>Region.ready .any ops listed=[]∧∀w,D w→Q .normal a w
 |f+1,listed,a,D=>(Region.ready .any ops listed=[]→∀w,D w→Q .normal a w)∧∀i∈Region.ready .any ops listed,stepPn P ops C0 T B i a D (Q5w P ops C0 T B Q f (listed.setIfInBounds i true))
theorem Q3B(a:Act)(d:Option Nat)(v:Value):(a.put d v).defers=a.defers:=by cases d<;>rfl
theorem Q89[dq:DQ]{C0:World→Prop}(hB:Pan Q B):∀(f:Nat) (listed:Array Bool) (a:Act) (D:World→Prop),a.defers=DQ.D→Q5w P ops C0 T B Q f listed a D→∀w,D w→wpAny P .any ops Q f listed a w:=by
 intro f
 induction f with
 |zero=>intro listed a D hd h w hw;exact⟨h.1,h.2 w hw⟩
 |succ f ih=>
  intro listed a D hd h w hw
  refine⟨fun h0=>h.1 h0 w hw,fun i hi=>?_⟩
  have hs:=h.2 i hi
  unfold stepPn at hs
  unfold wpOp
  split
  ·rename_i ho;simp only[ho] at hs;exact ih _ _ _ hd hs w hw
  ·rename_i o ho
   simp only[ho] at hs
   rcases hs with ⟨hwt,hk⟩|⟨hwt,ι,V,G,hr,hG,hk⟩
   ·rw[if_neg (by rw[hwt];decide)]
    exact ih _ _ _ ((Q3B _ _ _).trans hd) hk w hw
   ·rw[if_pos hwt]
    refine .inl (Oper.wp_of_loudP (hr w hw) ?_ (fun ch w' hb=>hB.on a ch w' hd hb))
    rintro v w' ⟨j,rfl,hj⟩
    exact ih _ _ _ ((Q3B _ _ _).trans hd) (hk j) w' hj
theorem Zw.stepPn{C0:World→Prop}{i:Nat}{o:Oper}{a:Act}{v:Value}{D:World→Prop}{K:Act→(World→Prop)→Prop}(hi:ops[i]? =some o)(h:Zw P ops C0 o a v)(hD:Stb D)(hC:∀w,D w→C0 w)(hk:K (a.put o.dst v) D):stepPn P ops C0 T B i a D K:=by
 have h0:=Zw.step (T:=T) hi h hD hC hk
 unfold Jy at h0
 unfold Go.Proofs.YtphkhfdmlcnoeaaGreatDoor.stepPn
 simp only[hi] at h0 ⊢
 rcases h0 with h0|⟨hw,ι,V,G,h1,h2,h3⟩
 ·exact .inl h0
 ·exact .inr ⟨hw,ι,V,G,fun w hw=>.of (h1 w hw),h2,h3⟩
theorem Q3i{C0:World→Prop}{i:Nat}{oi:Oper}{v:Value}(hi:ops[i]? =some oi)(hsel:∀(j:Nat) (o:Oper) cs b,ops[j]? =some o→o.op≠ .select cs b)(hT:∀t∈T,∃f,Go.Proofs.YtphkhfdmlcnoeaaGreatDoor.waits ops f t i=true):
  ∀(f:Nat) (listed:Array Bool) (a:Act) (D:World→Prop),Clo ops listed→Stb D→(∀w,D w→C0 w)→
   (∀j oj,ops[j]? =some oj→j≠i→listed.getD j true=false→(∀e∈oj.after,Region.binds .any e=true→e.on≠i)→oi.apart ops oj=true)→
   i∈Region.ready .any ops listed→Zw P ops C0 oi a v→
   Q5w P ops C0 T B Q f (listed.setIfInBounds i true) (a.put oi.dst v) D→Q5w P ops C0 T B Q (f+1) listed a D:=by
 intro f
 induction f with
 |zero=>
  intro listed a D hcl hD hC _ hr hy H
  refine⟨fun h=>(by rw[h] at hr;cases hr),fun j hj=>?_⟩
  by_cases hji:j=i
  ·subst hji;exact hy.stepPn hi hD hC H
  ·have:=ready_mono hj hji
   rw[H.1] at this
   cases this
 |succ f ih=>
  intro listed a D hcl hD hC hfree hr hy H
  refine⟨fun h=>(by rw[h] at hr;cases hr),fun j hj=>?_⟩
  by_cases hji:j=i
  ·subst hji;exact hy.stepPn hi hD hC H
  ·have h1:=H.2 j (ready_mono hj hji)
   obtain⟨hjun,oj,hoj,hall⟩:=mem_ready.1 hj
   have hjT:j∉T:=fun hm=>by
    obtain⟨f',hf'⟩:=hT j hm
    have h1:=hcl.waits f' j i oj hoj hall hf'
    have h0:=(mem_ready.1 hr).1
    rcases Nat.lt_or_ge i listed.size with h'|h'
    ·simp [h'] at h0 h1;rw[h0] at h1;cases h1
    ·simp [Array.getElem?_eq_none h'] at h1
   have hnot:∀e∈oj.after,Region.binds .any e=true→e.on≠i:=fun e he hb heq=>by
    have h1:=hall e he hb
    have h0:=(mem_ready.1 hr).1
    rw[heq] at h1
    rcases Nat.lt_or_ge i listed.size with h'|h'
    ·simp [h'] at h0 h1;rw[h0] at h1;cases h1
    ·simp [Array.getElem?_eq_none h'] at h1
   obtain⟨a1,a2,a3⟩:=Oper.apart_spec (hfree j oj hoj hji hjun hnot)
   have hfree':∀k ok,ops[k]? =some ok→k≠i→(listed.setIfInBounds j true).getD k true=false→
     (∀e∈ok.after,Region.binds .any e=true→e.on≠i)→oi.apart ops ok=true:=fun k ok hk hki hun hno=>by
    refine hfree k ok hk hki ?_ hno
    by_cases hjk:j=k
    ·subst hjk;exact hjun
    ·rw[getD_set_ne true hjk] at hun;exact hun
   have go:∀u (G:World→Prop),Stb G→(∀w,G w→C0 w)→Q5w P ops C0 T B Q f ((listed.setIfInBounds i true).setIfInBounds j true) ((a.put oi.dst v).put oj.dst u) G→Q5w P ops C0 T B Q (f+1) (listed.setIfInBounds j true) (a.put oj.dst u) G:=by
    intro u G hG hGC hk
    refine ih (listed.setIfInBounds j true) (a.put oj.dst u) G (hcl.set hj) hG hGC hfree' (ready_mono hr (Ne.symm hji)) (hy.put (fun cs b=>hsel i oi cs b hi) a3) ?_
    rw[Array.setIfInBounds_comm _ _ hji,← Act.put_comm a v u a2]
    exact hk
   unfold Go.Proofs.YtphkhfdmlcnoeaaGreatDoor.stepPn at h1 ⊢
   simp only[hoj] at h1 ⊢
   rw[wanted_put oj a oi.dst v a1,execOp_put oj (fun cs b=>hsel j oj cs b hoj) a oi.dst v a1] at h1
   rcases h1 with ⟨hw,hk⟩|⟨hw,ι,V,G,hr1,hG,hk⟩
   ·exact .inl ⟨hw,go _ _ hD hC hk⟩
   ·exact .inr ⟨hw,ι,V,G,hr1,hG,fun x=>go _ _ (hG x).1 ((hG x).2.resolve_left hjT) (hk x)⟩
def dP[dq:DQ](P:Program)(ops:Array Oper)(Q:Exit→Act→World→Prop)(N:Nat)(M:List Nat)(W:World)(O0:List Qc)(T:List Nat)(B:List PanicEntry→World→Prop)(f:Nat)(listed:Array Bool)(E:Env)(O:List Qc):Prop:=
 Clo ops listed→∀a,Ag N E a→Q5w P ops (Wd M W O0) T B Q f listed a (Wd M W O)
theorem JR[dq:DQ](O0:List Qc)(T:List Nat:=[]){id:Nat}{l:List Oper}(hm:P.follows .mixedOrders=true)(hB:Pan Q B)(h:dP P l.toArray Q N M W O0 T B l.length (Array.replicate l.length false) E O):sE P Q N M W E O (.region id l.toArray true):=fun a w ha hw=>
 wp_region_any hm (by simpa using Q89 hB _ _ _ _ ha.df (h (by simpa using Q4y l.toArray) a ha) _ hw.drew)
theorem Xp[dq:DQ](k:Nat)(ho:ops[k]? =some o)(hB:Q9t ops T listed k=true)(hT:Q2 M W O0 O)(h1:oE P ops (Wd M W O0) N E E' o)(h2:dP P ops Q N M W O0 T B f (listed.setIfInBounds k true) E' O):dP P ops Q N M W O0 T B (f+1) listed E O:=fun hcl a ha=>by
 unfold Q9t at hB
 simp only[Bool.and_eq_true,List.all_eq_true] at hB
 obtain⟨⟨⟨hTw,hr⟩,hf⟩,hs⟩:=hB
 have hr':k∈Region.ready .any ops listed:=by simpa using hr
 have hTT:∀t∈T,∃f,waits ops f t k=true:=fun t ht=>⟨_,hTw t ht⟩
 have h:=h1 a ha
 split at h
 ·rename_i hw
  obtain⟨v,hv,hE⟩:=h
  exact Q3i ho (Region.noSelect_spec hs) hTT f listed a _ hcl Wd.stb hT (Region.free_spec ho hf) hr' (.inl ⟨hw,hv⟩) (h2 (hcl.set hr') _ hE)
 ·rename_i hw
  exact Q3i ho (Region.noSelect_spec hs) hTT f listed a _ hcl Wd.stb hT (Region.free_spec ho hf) hr' (.inr ⟨by simpa using hw,rfl⟩) (h2 (hcl.set hr') _ h)
theorem Q6V[dq:DQ]{ι:Type}{V:ι→Value}{G:ι→List Qc}{p:ι→Prop}{k:Nat}{a:Act}{K:Act→(World→Prop)→Prop}(ho:ops[k]? =some o)(ha:Ag N E a)(hne:∃w,Wd M W O w)(h1:pE P ops N M W E O o ι V G p B)(hT:∀i,k∈T∨Q2 M W O0 (G i))(hk:∀i,p i→K (a.put o.dst (V i)) (Wd M W (G i))):stepPn P ops (Wd M W O0) T B k a (Wd M W O) K:=by
 unfold stepPn
 simp only[ho]
 obtain⟨w0,hw0⟩:=hne
 refine .inr ⟨(h1 a w0 ha hw0).1,{ i:ι // p i },fun i=>V i.1,fun i=>Wd M W (G i.1),fun w hw=>?_,fun i=>⟨Wd.stb,hT i.1⟩,fun i=>hk i.1 i.2⟩
 have h:=(h1 a w ha hw).2
 generalize (execOp a.eval o).run P w=r at h
 cases r with
 |ok n w'=>
  cases n<;>simp only[ZH] at h ⊢
  case value u=>obtain⟨i,h1,h2,h3⟩:=h;exact⟨⟨i,h2⟩,h1,h3⟩
  case skip=>obtain⟨i,h1,h2,h3⟩:=h;exact⟨⟨i,h2⟩,h1,h3⟩
  case enter f args=>
   refine h.mono fun e w'' h=>?_
   rcases h with ⟨v,he,i,h1,h2,h3⟩|h
   ·exact .inl ⟨v,he,⟨i,h2⟩,h1,h3⟩
   ·exact .inr h
 |halt x w'=>simp only[ZH] at h
theorem Q6q{k:Nat}{a:Act}{D:World→Prop}{K:Act→(World→Prop)→Prop}(hne:¬∃w,D w){o:Oper}(ho:ops[k]? =some o)(hw:Region.wanted o (yielded ops a.tmps)=true){C0:World→Prop}:stepPn P ops C0 T B k a D K:=by
 unfold stepPn
 simp only[ho]
 exact .inr ⟨hw,Empty,fun i=>i.elim,fun i=>i.elim,fun w h=>absurd ⟨w,h⟩ hne,fun i=>i.elim,fun i=>i.elim⟩
theorem Ks[dq:DQ](k:Nat){ι:Type}{V:ι→Value}{G:ι→List Qc}{p:ι→Prop}(hB:Region.ready .any ops listed=[k])(ho:ops[k]? =some o)(hw:Qj ops E o=some true)(h1:pE P ops N M W E O o ι V G p B)(hT:∀i,k∈T∨Q2 M W O0 (G i))(hd:o.dst=some d)(hN:d<N)(h:∀i,p i→dP P ops Q N M W O0 T B f (listed.setIfInBounds k true) ((d,V i)::E) (G i)):dP P ops Q N M W O0 T B (f+1) listed E O:=fun hcl a ha=>by
 refine⟨fun h0=>absurd (hB.symm.trans h0) (by simp),fun i hi=>?_⟩
 rw[hB] at hi
 rw[List.mem_singleton] at hi
 subst hi
 have hr':i∈Region.ready .any ops listed:=by rw[hB];exact List.mem_singleton.2 rfl
 by_cases hne:∃w,Wd M W O w
 ·exact Q6V ho ha hne h1 hT fun x hp=>h x hp (hcl.set hr') _ (by rw[hd];exact ha.put _ hN)
 ·exact Q6q hne ho (ha.want hw)
theorem pE.of[dq:DQ]{ι:Type}{V:ι→Value}{G:ι→List Qc}{p:ι→Prop}(h:uE P ops N M W E O o ι V G p):pE P ops N M W E O o ι V G p B:=fun a w ha hw=>⟨(h a w ha hw).1,.of (h a w ha hw).2⟩
theorem Q4s[dq:DQ](h:xE Q N M W E O .normal)(hB:Region.ready .any ops listed=[]):dP P ops Q N M W O0 T B 0 listed E O:=fun _ a ha=>⟨hB,fun w hw=>h a w ha hw⟩
end
def Qc.ap(x y:Qc):Prop:=∀b,x.foot=some b→y.foot=some b→(x.w||y.w)=false
section
variable {M:List Nat}{W w w':World}{O O' L:List Qc}
theorem Wd.pairs(h:Wd M W O w):O.Pairwise Qc.ap:=by
 rw[List.pairwise_iff_getElem]
 intro i j hi hj hij b hx hy
 cases hw:(O[i].w||O[j].w) with
 |false=>rfl
 |true=>exact absurd (h.nd i j _ _ b (List.getElem?_eq_getElem hi) (List.getElem?_eq_getElem hj) hx hy hw) (by omega)
theorem Wd.of_pairs(k:XJ M W w)(h1:∀x∈O,x.on w)(h2:∀x∈O,∀b,x.foot=some b→b<W.heap.size→(if x.w then b∈M else b∉M))(h3:O.Pairwise Qc.ap):Wd M W O w:=by
 refine⟨k,fun i x hx=>h1 x (List.mem_of_getElem? hx),fun i x b hx=>h2 x (List.mem_of_getElem? hx) b,fun i j x y b hx hy hfx hfy hw=>?_⟩
 obtain⟨hi,rfl⟩:=List.getElem?_eq_some_iff.1 hx
 obtain⟨hj,rfl⟩:=List.getElem?_eq_some_iff.1 hy
 rw[List.pairwise_iff_getElem] at h3
 rcases Nat.lt_trichotomy i j with hij|hij|hij
 ·rw[h3 i j hi hj hij b hfx hfy] at hw;cases hw
 ·exact hij
 ·rw[Bool.or_comm,h3 j i hj hi hij b hfy hfx] at hw;cases hw
theorem Wd.onAll(h:Wd M W O w):∀x∈O,x.on w:=fun x hx=>by
 obtain⟨i,hi,rfl⟩:=List.mem_iff_getElem.1 hx
 exact h.own i _ (List.getElem?_eq_getElem hi)
theorem Wd.newAll(h:Wd M W O w):∀x∈O,∀b,x.foot=some b→b<W.heap.size→(if x.w then b∈M else b∉M):=fun x hx b hb=>by
 obtain⟨i,hi,rfl⟩:=List.mem_iff_getElem.1 hx
 exact h.new i _ b (List.getElem?_eq_getElem hi) hb
theorem Wd.sub(h:Wd M W O w)(hs:O'.Sublist O):Wd M W O' w:=
 .of_pairs h.k (fun x hx=>h.onAll x (hs.subset hx)) (fun x hx=>h.newAll x (hs.subset hx)) (h.pairs.sublist hs)
structure New(L:List Qc)(m:Nat)(w:World):Prop where
 rd:∀x∈L,x.w=false
 on:∀x∈L,x.on w
 far:∀x∈L,∀b,x.foot=some b→m≤b
theorem New.nil(m:Nat)(w:World):New [] m w:=⟨by simp,by simp,by simp⟩
theorem New.app{m:Nat}{L L':List Qc}(h:New L m w)(h':New L' m w):New (L++L') m w:=
 ⟨fun x hx=>(List.mem_append.1 hx).elim (h.rd x) (h'.rd x),fun x hx=>(List.mem_append.1 hx).elim (h.on x) (h'.on x),fun x hx=>(List.mem_append.1 hx).elim (h.far x) (h'.far x)⟩
theorem New.less{m m':Nat}(h:New L m w)(hm:m'≤m):New L m' w:=⟨h.rd,h.on,fun x hx b hb=>Nat.le_trans hm (h.far x hx b hb)⟩
theorem Wd.addL{m:Nat}(h:Wd M W O w)(hm:W.heap.size≤m)(hO:∀x∈O,∀b,x.foot=some b→b<m)(hL:New L m w):Wd M W (O++L) w:=by
 refine .of_pairs h.k (fun x hx=>(List.mem_append.1 hx).elim (h.onAll x) (hL.on x)) (fun x hx b hb hlt=>?_) ?_
 ·rcases List.mem_append.1 hx with hx|hx
  ·exact h.newAll x hx b hb hlt
  ·have:=hL.far x hx b hb
   omega
 ·rw[List.pairwise_append]
  refine⟨h.pairs,?_,fun x hx y hy b hbx hby=>?_⟩
  ·rw[List.pairwise_iff_getElem]
   intro i j hi hj hij b hx hy
   rw[hL.rd _ (List.getElem_mem hi),hL.rd _ (List.getElem_mem hj)]
   rfl
  ·have:=hO x hx b hbx
   have:=hL.far y hy b hby
   omega
def Qdf(L:List Qc)(φ:World→Prop):Prop:=∀w,(∀x∈L,x.on w)→φ w
theorem Qdf.of{φ:World→Prop}(h:Qdf L φ)(hw:Wd M W O w)(hs:∀x∈L,x∈O):φ w:=h w fun x hx=>hw.onAll x (hs x hx)
theorem XJ.mono{M M':List Nat}(h:XJ M W w)(hM:∀b∈M,b∈M'):XJ M' W w:=⟨h.os,h.tape,h.output,h.size,fun k hk hn=>h.block k hk fun hm=>hn (hM k hm)⟩
theorem Wd.wrote{g:Nat}{o o':Obj}(h:Wd M W (.blk g o::O) w)(hk:XJ [g] w w')(ho:w'.heap[g]? =some o'):Wd M W (.blk g o'::O) w':=
 h.upd (i:=0) (x:=.blk g o) (y:=.blk g o') rfl rfl rfl ⟨hk.os,hk.tape,hk.output,hk.size,fun k hk1 hn=>hk.block k hk1 (by
  simp only[List.mem_singleton]
  intro e
  subst e
  exact hn rfl)⟩ ho (fun b hb=>.inl hb)
theorem Wd.wroteL{g:Nat}{o o':Obj}(h:Wd M W (.blk g o::O) w)(hk:XJ [g] w w')(ho:w'.heap[g]? =some o')(hL:New L w.heap.size w'):Wd M W (.blk g o'::(O++L)) w':=by
 have h1:=h.wrote hk ho
 have:=h1.addL (m:=w.heap.size) (L:=L) h.k.size (fun x hx b hb=>?_) hL
 ·exact this
 ·rcases List.mem_cons.1 hx with rfl|hx
  ·cases hb
   exact(Array.getElem?_eq_some_iff.1 (h.own 0 _ rfl)).1
  ·exact(h.onAll x (List.mem_cons_of_mem _ hx)).lt hb
theorem Wd.made(h:Wd M W O w)(hb:Below w.heap.size w w')(hL:New L w.heap.size w'):Wd M W (O++L) w':=
 (h.on hb).addL (m:=w.heap.size) h.k.size (fun x hx b hb=>(h.onAll x hx).lt hb) hL
theorem Wd.blkH{g:Nat}{o:Obj}(h:Wd M W (.blk g o::O) w):w.heap[g]? =some o:=h.own 0 _ rfl
theorem Wd.startB{g:Nat}{o:Obj}(h:W.heap[g]? =some o):Wd [g] W [.blk g o] W:=(Wd.start [g] W).add (y:=.blk g o) h (fun b hb _=>by cases hb;exact List.mem_singleton.2 rfl) (by simp)
end
def XA(L:List Qc)(v:Value)(d:Nd)(l:VF):Prop:=∃sb sn sp,v=.agg #[.int .i64 d.k,.int .i64 d.n,sb,sn,sp]∧Qdf L fun w=>Hd w w.heap.size d l.len (FIn w w.heap.size l) sb sn sp
def JO(L:List Qc)(cs:List Value)(l:VF):Prop:=cs.length=l.len*5∧Qdf L fun w=>∀b o,b<w.heap.size→(∀j u,cs[j]? =some u→w.cell? ⟨b,o+j,none⟩=some u)→FIn w w.heap.size l b o
theorem XA.vin{L:List Qc}{v:Value}{d:Nd}{l:VF}(h:XA L v d l){w:World}(hw:∀x∈L,x.on w):VIn w w.heap.size v d l:=by
 obtain⟨sb,sn,sp,e,h⟩:=h;exact⟨sb,sn,sp,e,h w hw⟩
theorem FIn.snoc{w:World}{B:Nat}{d:Nd}{p:VF}:∀{F:VF} {b o:Nat},FIn w B F b o→(∃sb sn sp,VK w b (o+F.len*5) d sb sn sp∧Hd w B d p.len (FIn w B p) sb sn sp)→FIn w B (F.snoc d p) b o
 |.nil,b,o,h,hn=>⟨by simpa [VF.len] using hn,trivial⟩
 |.cons d' p' r,b,o,h,hn=>⟨h.1,FIn.snoc h.2 (by
  have e:o+5+r.len*5=o+(r.len+1)*5:=by omega
  rw[e]
  exact hn)⟩
theorem JO.nil:JO [] [] .nil:=⟨rfl,fun w _ b o _ _=>trivial⟩
theorem JO.snoc{L L':List Qc}{cs:List Value}{l:VF}{k n:Int}{sb sn sp:Value}{d:Nd}{p:VF}(h:JO L cs l)(hv:XA L' (.agg #[.int .i64 k,.int .i64 n,sb,sn,sp]) d p):JO (L++L') (cs++[.int .i64 k,.int .i64 n,sb,sn,sp]) (l.snoc d p):=by
 obtain⟨hl,h⟩:=h;obtain⟨sb',sn',sp',e,hv⟩:=hv
 simp only[Value.agg.injEq,Array.mk.injEq,List.cons.injEq,Value.int.injEq,true_and,and_true] at e
 obtain⟨e1,e2,e3,e4,e5⟩:=e;subst e1 e2 e3 e4 e5;refine⟨by rw[List.length_append,hl,VF.len_snoc];simp only[List.length_cons,List.length_nil];omega,fun w hw b o hb hc=>?_⟩
 have h1:=h w (fun x hx=>hw x (List.mem_append_left _ hx)) b o hb (fun j u hu=>hc j u (by
  rw[List.getElem?_append_left (List.getElem?_eq_some_iff.1 hu).1];exact hu))
 have hat:∀i u,[Value.int .i64 d.k,.int .i64 d.n,sb,sn,sp][i]? =some u→w.cell? ⟨b,o+l.len*5+i,none⟩=some u:=fun i u hu=>by
  have:=hc (cs.length+i) u (by rw[List.getElem?_append_right (Nat.le_add_right _ _),Nat.add_sub_cancel_left];exact hu);rw[hl] at this;rw[Nat.add_assoc];exact this
 exact h1.snoc ⟨sb,sn,sp,⟨hat 0 _ rfl,hat 1 _ rfl,hat 2 _ rfl,hat 3 _ rfl,hat 4 _ rfl⟩,hv w fun x hx=>hw x (List.mem_append_right _ hx)⟩
theorem ZM(w:World)(B s:Nat):Rd w B s none 0 []:=⟨by simp,fun h=>absurd h (Nat.lt_irrefl 0)⟩
theorem XA.num(n:Int):XA [] (.agg #[.int .i64 1,.int .i64 n,.slice none 0 0,.slice none 0 0,.slice none 0 0]) (ndN n) .nil:=
 ⟨_,_,_,rfl,fun w _=>⟨none,0,0,none,0,0,none,0,rfl,rfl,rfl,Nat.le_refl _,Nat.le_refl _,Nat.le_refl _,Nat.zero_le _,ZM _ _ _,ZM _ _ _,fun h=>absurd h (Nat.lt_irrefl 0)⟩⟩
theorem XA.bytes{A:Option Addr}{n c:Nat}{bs:List UInt8}(hc:n≤c):XA [.rd A n 1 (bv bs)] (.agg #[.int .i64 2,.int .i64 0,.slice A n c,.slice none 0 0,.slice none 0 0]) (ndB bs) .nil:=
 ⟨_,_,_,rfl,fun w hw=>⟨A,n,c,none,0,0,none,0,rfl,rfl,rfl,hc,Nat.le_refl _,Nat.le_refl _,Nat.zero_le _,hw _ List.mem_cons_self,ZM _ _ _,fun h=>absurd h (Nat.lt_irrefl 0)⟩⟩
theorem JO.at_{L:List Qc}{cs:List Value}{l:VF}(h:JO L cs l){A:Option Addr}{w:World}(hr:Rd w w.heap.size 5 A l.len cs)(hw:∀x∈L,x.on w):0<l.len→∃b o,A=some ⟨b,o,none⟩∧b<w.heap.size∧FIn w w.heap.size l b o:=fun h0=>by
 obtain⟨b,o,e,hb,hc⟩:=hr.2 h0;exact⟨b,o,e,hb,h.2 w hw b o hb hc⟩
theorem XA.list{L:List Qc}{A:Option Addr}{c:Nat}{cs:List Value}{l:VF}(h:JO L cs l)(hc:l.len≤c)(hm:c≤maxLen):XA (.rd A l.len 5 cs::L) (.agg #[.int .i64 3,.int .i64 0,.slice none 0 0,.slice none 0 0,.slice A l.len c]) ndL l:=
 ⟨_,_,_,rfl,fun w hw=>⟨none,0,0,none,0,0,A,c,rfl,rfl,rfl,Nat.le_refl _,Nat.le_refl _,hc,hm,ZM _ _ _,ZM _ _ _,h.at_ (hw _ List.mem_cons_self) fun x hx=>hw x (List.mem_cons_of_mem _ hx)⟩⟩
theorem XA.rec_{L:List Qc}{A An:Option Addr}{c m cn:Nat}{cs:List Value}{l:VF}{ns:List (List UInt8)}(h:JO L cs l)(hc:l.len≤c)(hm:c≤maxLen)(hn:m≤cn):XA (.rd A l.len 5 cs::.rd An m 1 (sv ns)::L) (.agg #[.int .i64 4,.int .i64 0,.slice none 0 0,.slice An m cn,.slice A l.len c]) (ndR ns) l:=
 ⟨_,_,_,rfl,fun w hw=>⟨none,0,0,An,m,cn,A,c,rfl,rfl,rfl,Nat.le_refl _,hn,hc,hm,ZM _ _ _,hw (.rd An m 1 (sv ns)) (by simp),h.at_ (hw _ List.mem_cons_self) fun x hx=>hw x (by simp [hx])⟩⟩
theorem XA.cells{L:List Qc}{v:Value}{d:Nd}{l:VF}(h:XA L v d l):∃sb sn sp,v=.agg #[.int .i64 d.k,.int .i64 d.n,sb,sn,sp]:=by
 obtain⟨sb,sn,sp,e,_⟩:=h;exact⟨sb,sn,sp,e⟩
theorem Wd.tail{M:List Nat}{W w:World}{x:Qc}{O:List Qc}(h:Wd M W (x::O) w):Wd M W O w:=
 ⟨h.k,fun i y hy=>h.own (i+1) y (by simpa using hy),fun i y b hy hf hl=>h.new (i+1) y b (by simpa using hy) hf hl,fun i j y z b hy hz hf hg hw=>by
  have:=h.nd (i+1) (j+1) y z b (by simpa using hy) (by simpa using hz) hf hg hw
  omega⟩
section
variable {P:Program}{ops:Array Oper}{C:World→Prop}{N:Nat}{E:Env}{o:Oper}{d:Nat}
theorem QfX{x y:Operand}{t t':TypeId}{c:UInt8}(ho:o.op=.binOp .shr t x y t')(hd:o.dst=some d)(hN:d<N)(hw:Qj ops E o=some true)(hx:ev E x=some (.int .u8 (c.toNat:Int)))(hy:ev E y=some (.int .u64 4)):oE P ops C N E ((d,.int .u8 ((c.toNat / 16:Nat):Int))::E) o:=
 Q0Q ho hd hN hw hx hy fun w=>by
  rw[binOp_shr,shift_shr_u8 (h₀:=by decide) (h₁:=by decide)]
  have:(c.toNat:Int) / 2 ^ (4:Int).toNat=((c.toNat / 16:Nat):Int):=by
   rw[show (2:Int) ^ (4:Int).toNat=16 by decide]
   omega
  rw[this]
  rfl
theorem QdF(c:UInt8):bits .and .u8 (c.toNat:Int) 15=((c.toNat % 16:Nat):Int):=by
 have h:∀n:Fin 256,bits .and .u8 ((n:Nat):Int) 15=(((n:Nat) % 16:Nat):Int):=by decide+kernel
 exact h ⟨c.toNat,c.toNat_lt⟩
theorem Qg2{x y:Operand}{t t':TypeId}{c:UInt8}(ho:o.op=.binOp .and t x y t')(hd:o.dst=some d)(hN:d<N)(hw:Qj ops E o=some true)(hx:ev E x=some (.int .u8 (c.toNat:Int)))(hy:ev E y=some (.int .u8 15)):oE P ops C N E ((d,.int .u8 ((c.toNat % 16:Nat):Int))::E) o:=
 Q0Q ho hd hN hw hx hy fun w=>by rw[binOp_and,intBits_and,QdF];rfl
theorem Qe6{x y:Operand}{t t':TypeId}{m:Nat}(hm:m<255)(ho:o.op=.binOp .add t x y t')(hd:o.dst=some d)(hN:d<N)(hw:Qj ops E o=some true)(hx:ev E x=some (.int .u8 (m:Int)))(hy:ev E y=some (.int .u8 1)):oE P ops C N E ((d,.int .u8 ((m+1:Nat):Int))::E) o:=
 Q3p ho hd hN hw hx hy (by
  have h:∀n:Fin 255,IntKind.u8.wrap (((n:Nat):Int)+1)=(((n:Nat)+1:Nat):Int):=by decide+kernel
  exact h ⟨m,hm⟩)
end
theorem QcO{m:Nat}(h:m<16):(⟨#[48,49,50,51,52,53,54,55,56,57,97,98,99,100,101,102]⟩:ByteArray).extract m (m+1)=⟨#[hx m]⟩:=by
 have h':∀n:Fin 16,(⟨#[48,49,50,51,52,53,54,55,56,57,97,98,99,100,101,102]⟩:ByteArray).extract n (n+1)=⟨#[hx n]⟩:=by decide+kernel
 exact h' ⟨m,h⟩
theorem Q1M(a b:List UInt8):(⟨a.toArray⟩:ByteArray)++⟨b.toArray⟩=⟨(a++b).toArray⟩:=by
 refine Qaf ?_
 simp
section
variable {P:Program}{ops:Array Oper}{N:Nat}{E:Env}{o:Oper}{M:List Nat}{W:World}{O:List Qc}
theorem Q7u{t e:TypeId}{bytes:Nat}(hT:SlT P t e 1 bytes)(a b:ByteArray)(w:World):
  (Instr.buildSlice t 2 #[(0,.string a),(1,.string b)]).run P w=.ok (.slice (some ⟨w.heap.size,0,none⟩) 2 2) (w.alloc (.cells [Value.string a,.string b].toArray e)):=by
 obtain⟨i,z,hi,hz,hsz,hby,hzs⟩:=hT.info;refine run_buildSlice w t e 2 _ [Value.string a,.string b].toArray i z hT.und hi hz (by rw[hsz];omega) (by rw[hsz];omega) ?_;rw[hsz]
 have hZ:∀Z:Array Value,Z.size=2→Instr.fill (fun i=>some (i*1,1)) Z [(0,Value.string a),(1,Value.string b)]=some #[.string a,.string b]:=by
  rintro⟨l⟩ h
  match l,h with
  |[z0,z1],_=>rfl
 exact hZ _ (by simp)
theorem Q13{t e:TypeId}{bytes:Nat}{x y:Operand}{a b:ByteArray}[hT:Sl P t e 1 bytes](ho:o.op=.buildSlice t 2 #[(0,x),(1,y)])(hw:Qj ops E o=some true)(hx:ev E x=some (.string a))(hy:ev E y=some (.string b)):
  uE P ops N M W E O o Nat (fun b=>.slice (some ⟨b,0,none⟩) 2 2) (fun g=>.blk g (.cells [Value.string a,.string b].toArray e (0,0))::O) (fun _=>True):=
 J8 (xs:=[(0,x),(1,y)]) (vs:=[(0,.string a),(1,.string b)]) ho hw (by simp [evp,hx,hy]) (fun w=>Q7u hT.h a b w)
end
set_option maxRecDepth 100000 in
set_option maxHeartbeats 4000000 in
theorem Vu{M:List Nat}{W w:World}{O:List Qc}{g c:Nat}{A:Option Addr}{ws:List (List UInt8)}(u:Bool)(s:List UInt8)(hn:ws.length≤1048576)(hw:Wd M W (.blk g (.cells [.slice A ws.length c].toArray 27 (0,0))::.row A ws.length c 9 1 (sv ws)::O) w):
  Calls Tryz.prog 122 ([Value.bool u,.string ⟨s.toArray⟩].toArray++#[.pointer (some ⟨g,0,none⟩)]) w (XR (fun _:Option Addr×Nat=>.tuple #[]) (fun _=>True) M W (fun y=>.blk g (.cells [.slice y.1 (ws++ifW u s).length y.2].toArray 27 (0,0))::.row y.1 (ws++ifW u s).length y.2 9 1 (sv (ws++ifW u s))::O)):=by
 rw[show ([Value.bool u,.string ⟨s.toArray⟩].toArray++#[.pointer (some ⟨g,0,none⟩)]:Array Value)=#[.bool u,.string ⟨s.toArray⟩,.pointer (some ⟨g,0,none⟩)] by simp]
 cases u with
 |false=>
  go_enter Tryz.func122,Tryz.ntmps122
  refine QE (M:=M) (W:=W) (N:=10) (E:=[(0,.bool false),(1,.string ⟨s.toArray⟩),(2,.pointer (some ⟨g,0,none⟩))]) (O:=.blk g (.cells [.slice A ws.length c].toArray 27 (0,0))::.row A ws.length c 9 1 (sv ws)::O) ?_ (Ag.cons (Ag.cons (Ag.cons (Ag.nil rfl rfl) rfl) rfl) rfl) hw
  repeat(first|refine Q1 zM ?_|refine Q8 ?_|refine Q9 ?_|refine Q3 ?_|refine Qt ?_|refine Q6 rfl ?_)
  refine XT (by exact .inl rfl) rfl (fun w hw=>⟨(A,c),rfl,trivial,?_⟩);rw[show ws++ifW false s=ws from List.append_nil ws];exact hw
 |true=>
  go_enter Tryz.func122,Tryz.ntmps122
  refine QE (M:=M) (W:=W) (N:=10) (E:=[(0,.bool true),(1,.string ⟨s.toArray⟩),(2,.pointer (some ⟨g,0,none⟩))]) (O:=.blk g (.cells [.slice A ws.length c].toArray 27 (0,0))::.row A ws.length c 9 1 (sv ws)::O) ?_ (Ag.cons (Ag.cons (Ag.cons (Ag.nil rfl rfl) rfl) rfl) rfl) hw
  repeat(first|refine Q1 zM ?_|refine Q1 (zB 0) ?_|refine Qo (XF (size:=1) (cs:=[.string ⟨s.toArray⟩]) rfl rfl rfl rfl rfl (by decide)) rfl (by decide) (fun bn _=>?_)|refine Qo (X9 (news:=[.string ⟨s.toArray⟩]) 2 rfl rfl rfl rfl rfl (fun w hw=>hw.rd_blk 0 rfl rfl) (by simp [Value.oneCell']) (by omega)) rfl (by decide) (fun y _=>?_)|refine yS 1 ?_|refine Q8 ?_|refine Q9 ?_|refine Q3 ?_|refine Qa rfl ?_)
  refine XT (by exact .inl rfl) rfl (fun w hw=>⟨y,rfl,trivial,?_⟩);have h:=hw.tail;rw[show (ws++ifW true s).length=ws.length+1 by simp [ifW],Qef];exact h
theorem Q4R:Lib.fields [108,105,116,101,114,97,108,32,110,117,109,98,101,114,32,100,101,99,105,109,97,108,32,98,121,116,101,115,32,117,110,116,105,108,32,99,111,117,110,116,101,100,32,115,101,113,117,101,110,99,101,32,99,104,111,105,99,101,32,114,101,112,101,97,116,32,98,108,111,98]=Q34:=by decide+kernel
theorem Q4G{M:List Nat}{W w:World}{O:List Qc}(hg:GV W)(hw:Wd M W O w)(hgw:GV w):
  Calls Tryz.prog 121 #[.string ⟨#[108,105,116,101,114,97,108,32,110,117,109,98,101,114,32,100,101,99,105,109,97,108,32,98,121,116,101,115,32,117,110,116,105,108,32,99,111,117,110,116,101,100,32,115,101,113,117,101,110,99,101,32,99,104,111,105,99,101,32,114,101,112,101,97,116,32,98,108,111,98]⟩] w (XR (fun b:Nat=>.slice (some ⟨b,0,none⟩) 10 10) (fun _=>True) M W (fun b=>.rd (some ⟨b,0,none⟩) 10 1 (sv Q34)::O)):=by
 refine(Tryz.strings_Fields _ w (by decide) (by
  intro j b hb
  have h:∀x∈(⟨#[108,105,116,101,114,97,108,32,110,117,109,98,101,114,32,100,101,99,105,109,97,108,32,98,121,116,101,115,32,117,110,116,105,108,32,99,111,117,110,116,101,100,32,115,101,113,117,101,110,99,101,32,99,104,111,105,99,101,32,114,101,112,101,97,116,32,98,108,111,98]⟩:ByteArray).data.toList,x.toNat<128:=by decide+kernel
  exact h b (List.mem_of_getElem? hb)) hgw.sp).mono ?_
 rintro e w' ⟨he,hw'⟩
 have hk:Lib.fields (⟨#[108,105,116,101,114,97,108,32,110,117,109,98,101,114,32,100,101,99,105,109,97,108,32,98,121,116,101,115,32,117,110,116,105,108,32,99,111,117,110,116,101,100,32,115,101,113,117,101,110,99,101,32,99,104,111,105,99,101,32,114,101,112,101,97,116,32,98,108,111,98]⟩:ByteArray).data.toList=Q34:=Q4R;rw[hk] at he hw';subst he hw';refine⟨w.heap.size,rfl,trivial,hw.push ((Below.refl _ _).alloc (Nat.le_refl _) _) ⟨rfl,fun _=>⟨w.heap.size,0,rfl,by simp,fun j u hu=>?_⟩⟩ (fun b' hb'=>by cases hb';exact Nat.le_refl _)⟩;rw[Nat.zero_add];exact(cell_of_row _ w.heap.size j _ _ (0,0) (heap_alloc_new _ _)).trans (by rw[List.getElem?_toArray];exact hu)
theorem KI{Q:Exit→Act→World→Prop}{N:Nat}{M:List Nat}{W:World}{E:Env}{O:List Qc}{ex:Exit}(i:Nat){b n s:Nat}{e:TypeId}{cs:List Value}(hO:O[i]? =some (.blk b (.cells cs.toArray e (0,0))))(hl:cs.length=n*s)(hn:n≤maxLen)(h:xE Q N M W E (O.set i (.row (some ⟨b,0,none⟩) n n e s cs)) ex):xE Q N M W E O ex:=fun a w ha hW=>h a w ha (hW.blk_row hO hl hn)
theorem row_rd{w:World}{A:Option Addr}{n c s:Nat}{e:TypeId}{xs:List Value}(h:(Qc.row A n c e s xs).on w)(hs:0<s):Rd w w.heap.size s A n xs∧n≤c:=by
 have h':w.ownsRow 0 e s (.slice A n c) n xs:=h
 rcases h'.2 with ⟨hv,h0⟩|⟨g,cap,cur,hv,_,hg,h1,h2,h3,h4⟩
 ·simp only[Value.slice.injEq] at hv
  exact⟨⟨h'.1,fun hn=>absurd hn (by omega)⟩,by omega⟩
 ·simp only[Value.slice.injEq] at hv
  obtain⟨rfl,_,rfl⟩:=hv;refine⟨⟨h'.1,fun hn=>⟨g,0,rfl,(Array.getElem?_eq_some_iff.1 hg).1,fun j u hu=>?_⟩⟩,h1⟩;rw[Nat.zero_add];refine(cell_of_row w g j cur e (0,0) hg).trans ?_
  have hj:j<n*s:=by
   rcases Nat.lt_or_ge j (n*s) with hj|hj
   ·exact hj
   ·rw[List.getElem?_eq_none (by rw[h'.1];exact hj)] at hu;cases hu
  rw[← h4,List.getElem?_take,if_pos hj] at hu;rw[← hu]
  simp
section
variable {P:Program}{ops:Array Oper}{N:Nat}{E:Env}{o:Oper}{M:List Nat}{W:World}{O:List Qc}
theorem Q8D{t:TypeId}{x:Operand}{p:Addr}{v:Value}[hT:T1 P t](ho:o.op=.load t x)(hw:Qj ops E o=some true)(hx:ev E x=some (.pointer (some p)))(hc:∀w,Wd M W O w→w.cell? p=some v):uE P ops N M W E O o Unit (fun _=>v) (fun _=>O) (fun _=>True):=
 KY hw fun ρ w ha hW=>⟨(),w,by
  obtain⟨ds,hu,hr,hi⟩:=hT.h
  have hagg:(isAgg t).run P w=.ok false w:=by
   unfold isAgg
   rw[Sem.run_bind,run_underlying hu w]
   cases ds<;>simp_all
  simp [execOp,ho,ha.eval hx,Instr.loadAt,Instr.sureAddr,loadVar,Sem.run_bind,hagg,hc w hW,go_sem],trivial,hW⟩
end
theorem Q9K{k:Int}(h:1≤k∧k≤10):(sv Q34)[(k - 1).toNat]? =some (.string ⟨(Q3u k).toArray⟩):=by
 rcases (show k=1∨k=2∨k=3∨k=4∨k=5∨k=6∨k=7∨k=8∨k=9∨k=10 by omega) with rfl|rfl|rfl|rfl|rfl|rfl|rfl|rfl|rfl|rfl<;>rfl
theorem QdM{bs:List UInt8}{i:Nat}{c:UInt8}(h:bs[i]? =some c):Q3Q (bs.take i)++([hx (c.toNat / 16)]++[hx (c.toNat % 16)])=Q3Q (bs.take (i+1)):=by
 rw[List.take_add_one,h]
 unfold Q3Q
 simp [QeQ]
theorem Yo(bs:List UInt8):(Q3Q bs).length=2*bs.length:=by
 induction bs with
 |nil=>rfl
 |cons c l ih=>
  show (QeQ c++Q3Q l).length=_
  rw[List.length_append,ih,List.length_cons]
  show 2+_=_
  omega
theorem ZS(l:List UInt8):(⟨l.toArray⟩:ByteArray).size=l.length:=by simp [ByteArray.size]
theorem Yq{l:List UInt8}(h:QG l=true):l.length≤32:=by
 unfold QG at h
 rw[Bool.and_eq_true,Bool.and_eq_true,decide_eq_true_eq] at h;exact h.1.1
theorem Kg{ws ws':List (List UInt8)}{u:Bool}{s:List UInt8}{m:Nat}(h:ws++ifW u s=ws')(hm:ws.length≤m):ws'.length≤m+1:=by
 rw[← h,List.length_append]
 unfold ifW
 split<;>simp<;>omega
structure NSm(n:Nat)(r:Rl):Prop where
 stop:0≤r.stop∧r.stop≤4294967295
 size:0≤r.size∧r.size≤4294967295
 mn:0≤r.mn∧r.mn≤4294967295
 mx:0≤r.mx∧r.mx≤4294967295
 count:0≤r.count∧r.count<n
 elem:0≤r.elem∧r.elem<n
theorem QbW{n:Nat}{r:Rl}(h:ROk n r)(hn:0<n):NSm n r:=by
 have hz:=Qcn h;have hk:=h.kind
 have a6:r.kind=2→r.mx≤4294967295:=fun h2=>by
  obtain⟨b1,b2,_,_,b5⟩:=h.num h2
  generalize r.size=size at b1 b2 b5
  rcases (show size=1∨size=2∨size=3∨size=4 by omega) with rfl|rfl|rfl|rfl<;>simp at b5<;>omega
 refine⟨?_,?_,?_,?_,?_,?_⟩
 ·by_cases hu:r.kind=3∨r.kind=5∨r.kind=9
  ·have:=h.stop hu;omega
  ·rw[hz.stop (by omega) (by omega) (by omega)];omega
 ·by_cases h2:r.kind=2
  ·have:=h.num h2;omega
  ·by_cases h4:r.kind=4
   ·have:=h.size4 h4;omega
   ·by_cases h5:r.kind=5
    ·have:=h.size5 h5;omega
    ·rw[hz.size h2 h4 h5];omega
 ·by_cases h2:r.kind=2
  ·have:=h.num h2;have:=a6 h2;omega
  ·rw[hz.mn h2];omega
 ·by_cases h2:r.kind=2
  ·have:=h.num h2;have:=a6 h2;omega
  ·by_cases h3:r.kind=3
   ·have:=h.dec h3;omega
   ·rw[hz.mx h2 h3];omega
 ·by_cases hu:r.kind=6∨r.kind=10
  ·exact h.count hu
  ·rw[hz.count (by omega) (by omega)];omega
 ·by_cases hu:r.kind=6∨r.kind=9
  ·exact h.elem hu
  ·rw[hz.elem (by omega) (by omega)];omega
end Go.Proofs.YtphkhfdmlcnoeaaGreatDoor
