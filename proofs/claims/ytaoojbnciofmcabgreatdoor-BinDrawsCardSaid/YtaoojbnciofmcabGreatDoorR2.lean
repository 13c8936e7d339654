/- The layer of own lemmas and contracts, part 2. -/
import Derived.Test.YtaoojbnciofmcabGreatDoorR1
import Derived.Lib.AppendStr
import Derived.Laws.StructEq
import Derived.MapKept
import Derived.OrdersIn
import Derived.RangeFuncLeaves
import Derived.RangeFuncSeq
set_option linter.unusedVariables false
set_option linter.unusedSimpArgs false
namespace Go.Ide
open Go.RowKit
section
variable {C:BA} {F:Ad} {ρ:Lk} {H:Hp} {w:World}
theorem Am.rename {H1 H2:Hp}{e:At}{b k n:Nat}(m:Am C F ρ (H1++e::H2) w)(hb:ρ e.k e.g=some b)(hn:ρ k n=none)(hne:∀e'∈H1++e::H2,e'.g≠n):
  Am C F (ρ.put k n b) (⟨k,n,e.T,e.sz,e.es⟩::(H1++H2)) w/\BX ρ (AN F.X ρ (H1++e::H2)) w (ρ.put k n b) (AN F.X (ρ.put k n b) (⟨k,n,e.T,e.sz,e.es⟩::(H1++H2))) w:=by
 have hold:∀e'∈H1++e::H2,∀b',ρ.put k n b e'.k e'.g=some b'↔ρ e'.k e'.g=some b':=λe' he' b'=>by
  unfold Lk.put;rw[AH λh=>hne e' he' h.2]
 have hmem:∀e',e'∈H1++e::H2↔e'=e\/e'∈H1++H2:=λe'=>by simp;constructor<;>(rintro(h|h|h)<;>simp[h])
 have hO:∀b',AN F.X (ρ.put k n b) (⟨k,n,e.T,e.sz,e.es⟩::(H1++H2)) b'↔AN F.X ρ (H1++e::H2) b':=by
  intro b';unfold AN;refine or_congr Iff.rfl ⟨?_,?_⟩
  ·rintro⟨e',he',h⟩
   rcases A8.1 he' with rfl|he'
   ·rw[Es]at h;exact⟨e,by simp,by rw[hb];exact h⟩
   ·have hm:=(hmem e').2 (.inr he')
    exact⟨e',hm,(hold e' hm b').1 h⟩
  ·rintro⟨e',he',h⟩
   rcases(hmem e').1 he' with rfl|h2
   ·rw[hb]at h;cases h
    exact⟨_,CF ..,Es _ _ _ _⟩
   ·exact⟨e',CL _ h2,(hold e' he' b').2 h⟩
 have hOe:AN F.X (ρ.put k n b) (⟨k,n,e.T,e.sz,e.es⟩::(H1++H2))=AN F.X ρ (H1++e::H2):=funext λb=>propext (hO b)
 have x:BX ρ (AN F.X ρ (H1++e::H2)) w (ρ.put k n b) (AN F.X (ρ.put k n b) (⟨k,n,e.T,e.sz,e.es⟩::(H1++H2))) w:=
  ⟨Ar _,λ_ _ _ h=>OZ hn h,λb' _ h=>⟨by rw[hOe];exact h,rfl⟩,λ_ cs _ _ h=>⟨cs,_,h,rfl⟩⟩
 have hinj:=m.hok.inj;rw[Jx,EL]at hinj;obtain⟨p1,⟨p2,p3⟩,p4⟩:=hinj;refine⟨⟨⟨λe' he'=>?_,?_,λe' he' b' hb'=>?_⟩,m.os,m.tape,m.output,m.size,m.blk,m.xlt,m.g0,m.gn,m.gw,λ_ _ _ h=>x.link _ _ _ (m.lnk _ _ _ h),m.shp⟩,x⟩
 ·rcases A8.1 he' with rfl|h2
  ·obtain⟨cs,a1,a2⟩:=m.at (e:=e) (by simp) hb
   have z:=a2.mono x;exact .inr ⟨b,cs,Es _ _ _ _,a1,z.len,z.siz,z.one,z.rep⟩
  ·have hm:=(hmem e').2 (.inr h2)
   rcases m.hok.ent e' hm with⟨a1,a2⟩|⟨b',cs,a1,a2,a3⟩
   ·exact .inl ⟨a1,by unfold Lk.put;rw[AH λh=>hne e' hm h.2];exact a2⟩
   ·exact .inr ⟨b',cs,(hold e' hm b').2 a1,a2,a3.mono x⟩
 ·rw[EL,Jx]
  have tr:∀ {e1 e2:At},e1∈H1++e::H2->e2∈H1++e::H2->(∀b b',ρ e1.k e1.g=some b->ρ e2.k e2.g=some b'->b≠b')->∀b1 b2,ρ.put k n b e1.k e1.g=some b1->ρ.put k n b e2.k e2.g=some b2->b1≠b2:=
   λh1 h2 h b1 b2 hb1 hb2=>h b1 b2 ((hold _ h1 b1).1 hb1) ((hold _ h2 b2).1 hb2)
  refine⟨λe2 he2 b1 b2 hb1 hb2=>?_,?_,?_,?_⟩
  ·rw[Es]at hb1;cases hb1
   have hm:=(hmem e2).2 (.inr he2);have hb2:=(hold _ hm b2).1 hb2;rcases Bp.1 he2 with h|h
   ·exact λhe=>p4 e2 h e (by simp) b2 b hb2 hb he.symm
   ·exact p2 e2 h b b2 hb hb2
  ·exact p1.imp_of_mem λh1 h2 h=>tr (by simp[h1]) (by simp[h2]) h
  ·exact p3.imp_of_mem λh1 h2 h=>tr (by simp[h1]) (by simp[h2]) h
  ·exact λe1 h1 e2 h2=>tr (by simp[h1]) (by simp[h2]) (p4 e1 h1 e2 (by simp[h2]))
 ·rcases A8.1 he' with rfl|h2
  ·rw[Es]at hb';cases hb'
   exact m.hok.own e (by simp) b hb
  ·have hm:=(hmem e').2 (.inr h2)
   exact m.hok.own e' hm b' ((hold _ hm b').1 hb')
theorem Am.ghost {k n T sz:Nat}(m:Am C F ρ H w)(hn:ρ k n=none):Am C F ρ (⟨k,n,T,sz,[]⟩::H) w/\AN F.X ρ (⟨k,n,T,sz,[]⟩::H)=AN F.X ρ H:=by
 have hO:AN F.X ρ (⟨k,n,T,sz,[]⟩::H)=AN F.X ρ H:=funext λb=>propext (by
  unfold AN;refine or_congr Iff.rfl ⟨?_,λ⟨e,he,h⟩=>⟨e,CL _ he,h⟩⟩;rintro⟨e,he,h⟩;rcases A8.1 he with rfl|he
  ·rw[hn]at h;cases h
  ·exact⟨e,he,h⟩)
 refine⟨⟨⟨λe he=>?_,?_,λe he b hb=>?_⟩,m.os,m.tape,m.output,m.size,m.blk,m.xlt,m.g0,m.gn,m.gw,m.lnk,m.shp⟩,hO⟩
 ·rw[hO]
  rcases A8.1 he with rfl|he
  ·exact .inl ⟨rfl,hn⟩
  ·exact m.hok.ent e he
 ·refine EL.2 ⟨λe he b b' hb _=>?_,m.hok.inj⟩
  rw[hn]at hb;cases hb
 ·rcases A8.1 he with rfl|he
  ·rw[hn]at hb;cases hb
  ·exact m.hok.own e he b hb
def Ii (H:Hp)(esz:Nat):D->Option (List D×Prop)
 | .sl _ sz es=>some (es,sz=esz)
 | .osl k g sz i len=>match Hp.get H k with
  |some e=>some ((e.es.drop i).take len,g=e.g/\sz=e.sz/\sz=esz/\i+len<=e.es.length)
  |none=>none
 | .prim (.slice none 0 0)=>some ([],True)
 |_=>none
structure Ow (ρ:Lk)(O:Nat->Prop)(w:World)(esz:Nat)(es:List D)(a:Addr)(f:Nat->Value):Prop where
 cell:∀j,j<es.length*esz->w.cell? (a.add j)=some (f j)
 one:∀j,j<es.length*esz->one (f j)=true
 siz:∀(i:Nat) (e:D),es[i]?=some e->e.cells.length=esz
 rep:∀(i:Nat) (e:D) (j:Nat) (d:D),es[i]?=some e->e.cells[j]?=some d->AW ρ O w d (f (i*esz+j))
structure ON (ρ:Lk)(O:Nat->Prop)(w:World)(esz:Nat)(es:List D)(f:Nat->Value):Prop where
 one:∀j,j<es.length*esz->one (f j)=true
 siz:∀(i:Nat) (e:D),es[i]?=some e->e.cells.length=esz
 rep:∀(i:Nat) (e:D) (j:Nat) (d:D),es[i]?=some e->e.cells[j]?=some d->AW ρ O w d (f (i*esz+j))
theorem Ow.srcv {ρ:Lk}{O:Nat->Prop}{w:World}{esz:Nat}{es:List D}{a:Addr}{f:Nat->Value}(h:Ow ρ O w esz es a f):ON ρ O w esz es f:=⟨h.one,h.siz,h.rep⟩
theorem eA {esz:Nat}{d:D}{v:Value}{es:List D}{p:Prop}(m:Am C F ρ H w)(h:Ii H esz d=some (es,p))(hp:p)(hr:AW ρ (AN F.X ρ H) w d v):
  (v=.slice none 0 0/\es=[])\/∃a c f,v=.slice (some a) es.length c/\es.length<=c/\Ow ρ (AN F.X ρ H) w esz es a f:=by
 unfold Ii at h;split at h<;>try(cases h;done)
 ·cases h
  cases hr with
  |nil=>exact .inl ⟨rfl,rfl⟩
  |emp a=>exact .inr ⟨a,0,λ_=>undef,rfl,by simp,λj hj=>by simp at hj,λj hj=>by simp at hj,λi e h=>by simp at h,λi e j d h=>by simp at h⟩
  |sl f hl hc hO hb hz hcell ho hh=>
   subst hp;refine .inr ⟨_,_,f,by rw[hl],by omega,λj hj=>?_,λj hj=>ho j (by rw[<-hl];exact hj),hz,hh⟩;rw[IY];exact hcell j (by rw[<-hl];exact hj)
 ·rename_i k g sz i len
  split at h<;>try(cases h;done)
  rename_i e he;cases h;obtain⟨rfl,rfl,rfl,hle⟩:=hp;obtain⟨hm,hk⟩:=Hp.get_mem he;cases hr with
  |onil=>exact .inl ⟨rfl,by simp⟩
  |osl hr hb hc hs hmx=>
   rename_i cap b T cs fz;rw[<-hk]at hr;obtain⟨cs',h1,h2⟩:=m.at hm hr;rw[hb]at h1;cases h1;have hlen:((e.es.drop i).take len).length=len:=by simp;omega
   have hin:∀j,j<len*e.sz->i*e.sz+j<cs.size:=λj hj=>by
    have:(i+len)*e.sz<=e.es.length*e.sz:=CV _ hle
    rw[Bz]at this;have:=h2.len;omega
   have hget:∀(q:Nat) (d:D),((e.es.drop i).take len)[q]?=some d->e.es[i+q]?=some d:=λq d hq=>by
    rw[FT]at hq;split at hq
    ·rwa [HI]at hq
    ·cases hq
   refine .inr ⟨_,cap,λj=>cs.getD (i*e.sz+j) undef,by rw[hlen],by omega,λj hj=>?_,λj hj=>?_,λq d hq=>h2.siz _ d (hget q d hq),λq d j c hq hc=>?_⟩
   ·rw[hlen]at hj
    have:=hin j hj
    rw[IY];simp[World.cell?,hb,this]
   ·rw[hlen]at hj
    have h':=hin j hj
    have:=h2.one (i*e.sz+j) (cs[i*e.sz+j]) (B3 h')
    simpa[Av,B3 h']using this
   ·have:=h2.rep (i+q) d j c (hget q d hq) hc
    rw[Bz,FD]at this;exact this
 ·cases h
  cases hr;exact .inl ⟨rfl,rfl⟩
def EY (tt:Nat->Option A7)(H:Hp)(n k:Nat)(g:Operand->D):Op->Option (D×Hp×Prop)
 | .call ⟨.builtin .append,args,tys⟩=>match args.toList with
  | [s,x]=>match tys.toList with
   | [t,t']=>match Nat.beq t t' with
    |true=>match tt t with
     |some i=>match i.ti with
      | .slice e esz eby _=>match Ii H esz (g x)with
       |some (news,p)=>match g s with
        | .osl k1 g1 sz 0 len=>match Hp.get H k1 with
         |some e1=>some (.osl k n esz 0 (len+news.length),⟨k,n,e,esz,e1.es.take len++news⟩::Hp.del H k1,
           p/\g1=e1.g/\sz=e1.sz/\sz=esz/\e1.T=e/\len<=e1.es.length/\(len+news.length)*eby<=140737488355328/\1<=eby/\1<=esz)
         |none=>none
        | .prim (.slice none 0 0)=>some (.osl k n esz 0 news.length,⟨k,n,e,esz,news⟩::H,p/\news.length*eby<=140737488355328/\1<=eby/\1<=esz)
        |_=>none
       |none=>none
      |_=>none
     |none=>none
    |false=>none
   |_=>none
  |_=>none
 |_=>none
theorem Ti {P:Program}{t e:Nat}{ty:Nat}{i:TypeInfo}(ht:P.underlying t=some (.slice e))(hi:P.info? e=some i){ao:Option Addr}{len cap:Nat}(hlc:len<=cap):
  (Builtin.append_ #[t,t] ty #[.slice ao len cap,.slice none 0 0]).run P w=.ok (.slice ao len cap) w:=by
 cases ao<;>simp[Builtin.append_,C6 ht,sizeOf,typeInfo,hi,Builtin.lenOf,hlc,run_firstCells_none,storeCells]
theorem bU {O:Nat->Prop}{e:At}{k g T len:Nat}{news:List D}{f:Nat->Value}{cs cs':Array Value}(h:DX ρ O w e cs)(hl:len<=e.es.length)(hs:ON ρ O w e.sz news f)
  (hlow:∀q,q<len*e.sz->cs'.getD q undef=cs.getD q undef) (hmid:∀j,j<news.length*e.sz->cs'.getD (len*e.sz+j) undef=f j) (hsize:(len+news.length)*e.sz<=cs'.size)
  (hone:∀(q:Nat) (v:Value),cs'[q]?=some v->one v=true):DX ρ O w ⟨k,g,T,e.sz,e.es.take len++news⟩ cs':=by
 have hlen:(e.es.take len).length=len:=by simp;omega
 have hget:∀(i:Nat) (d:D),(e.es.take len++news)[i]?=some d->(i<len/\e.es[i]?=some d)\/(len<=i/\news[i-len]?=some d):=λi d hd=>by
  rcases BE i len with hi|hi
  ·rw[GW (by omega),FT,AI hi]at hd;exact .inl ⟨hi,hd⟩
  ·rw[FC (by omega),hlen]at hd;exact .inr ⟨hi,hd⟩
 refine⟨by dsimp only;rw[Be,hlen];exact hsize,λi d hd=>?_,hone,λi d j c hd hc=>?_⟩
 ·rcases hget i d hd with⟨_,h1⟩|⟨_,h1⟩
  ·exact h.siz i d h1
  ·exact hs.siz _ d h1
 ·dsimp only at hd⊢
  rcases hget i d hd with⟨hi,h1⟩|⟨hi,h1⟩
  ·have hj:j<e.sz:=by rw[<-h.siz i d h1];exact(BS.1 hc).1
   rw[hlow]
   ·exact h.rep i d j c h1 hc
   ·have:(i+1)*e.sz<=len*e.sz:=CV _ hi
    rw[Bz]at this;omega
  ·have hj:j<e.sz:=by rw[<-hs.siz _ d h1];exact(BS.1 hc).1
   have hil:i-len<news.length:=(BS.1 h1).1;have e1:i*e.sz+j=len*e.sz+((i-len)*e.sz+j):=by
    have:i=len+(i-len):=by omega
    conv=>lhs;rw[this,Bz]
    omega
   rw[e1,hmid]
   ·exact hs.rep _ d j c h1 hc
   ·have:(i-len+1)*e.sz<=news.length*e.sz:=CV _ hil
    rw[Bz]at this;omega
structure Mw (P:Program)(t e esz eby:Nat)(ez:Value):Prop where
 under:P.underlying t=some (.slice e)
 inf:∃i:TypeInfo,P.info? e=some i/\i.size=esz/\i.bytes=eby/\i.zero=some ez
 zs:ez.cells.size=esz
 zo:∀(j:Nat) (x:Value),ez.cells[j]?=some x->one x=true
theorem Qs {z:Array Value}(hz:∀(j:Nat) (x:Value),z[j]?=some x->one x=true)(n:Nat):∀(q:Nat) (v:Value),(Builtin.zeroCells z n)[q]?=some v->one v=true:=λq v hv=>by
 unfold Builtin.zeroCells at hv;rw[Array.getElem?_map]at hv;cases hr:(Array.range (n*z.size))[q]? with
 |none=>rw[hr]at hv;cases hv
 |some i=>
  rw[hr]at hv;simp only[J3,BP]at hv;have hi:i<n*z.size:=by
   obtain⟨h1,h2⟩:=DB.1 hr;simp at h2 h1;omega
  have hpos:0<z.size:=by
   rcases D7 z.size with h|h
   ·rw[h]at hi;simp at hi
   ·exact h
  have hlt:=B7 i hpos;rw[<-hv,getElem!_pos z (i%z.size) hlt];exact hz (i%z.size) _ (B3 hlt)
theorem kJ {P:Program}{t e esz eby ty:Nat}{ez:Value}(T:Mw P t e esz eby ez){b len cap c:Nat}{cs:Array Value}(hb:w.heap[b]?=some (.cells cs e (0,0)))(hlc:len*esz<=cs.size){news:List D}{a:Addr}{f:Nat->Value}{O:Nat->Prop}
  (hs:Ow ρ O w esz news a f) (hg:cap<len+news.length) (hby:(len+news.length)*eby<=140737488355328) (h1:1<=eby):
  (Builtin.append_ #[t,t] ty #[.slice (some ⟨b,0,none⟩) len cap,.slice (some a) news.length c]).run P w =
   .ok (.slice (some ⟨w.heap.size,0,none⟩) (len+news.length) (grownCap w (len+news.length) cap e))
    (w.drew.alloc (.cells ((cs.toList.take (len*esz)).toArray++((List.range (news.length*esz)).map f).toArray++Builtin.zeroCells ez.cells (grownCap w (len+news.length) cap e-(len+news.length))) e)):=by
 obtain⟨i,i1,rfl,rfl,i4⟩:=T.inf;have hmx:len+news.length<=140737488355328:=BY (by have:=Cy (len+news.length) h1;omega) hby;exact run_append_grow (P:=P) w t ty e i ez T.under i1 i4 ⟨b,0,none⟩ len cap (cs.toList.take (len*i.size)) (by simp;omega) (λj v hv=>by
   rw[FT]at hv;split at hv
   ·rw[IY]
    simp only[Jv]at hv;simp[World.cell?,hb,hv]
   ·cases hv) a news.length c ((List.range (news.length*i.size)).map f) (by simp) (λj v hv=>by
   rw[Ay]at hv
   by_cases hj:j<news.length*i.size
   ·rw[Jy hj]at hv;cases hv;exact hs.cell j hj
   ·rw[D6 (by simp;omega)]at hv;cases hv) hg (by omega) (growslice_fits hg hby)
structure S9 (P:Program)(w:World)(t u ty e esz eby:Nat)(ez sv:Value)(n:Nat)(f:Nat->Value):Prop where
 room:∀(b len cap:Nat) (cs:Array Value),w.heap[b]?=some (.cells cs e (0,0))->len+n<=cap->len*esz+n*esz<=cs.size ->
  (Builtin.append_ #[t,u] ty #[.slice (some ⟨b,0,none⟩) len cap,sv]).run P w=.ok (.slice (some ⟨b,0,none⟩) (len+n) cap) (w.setRow b (cs.toList.take (len*esz)++(List.range (n*esz)).map f++cs.toList.drop (len*esz+((List.range (n*esz)).map f).length)).toArray)
 grow:∀(b len cap:Nat) (cs:Array Value),w.heap[b]?=some (.cells cs e (0,0))->len*esz<=cs.size->cap<len+n->(len+n)*eby<=140737488355328 ->
  (Builtin.append_ #[t,u] ty #[.slice (some ⟨b,0,none⟩) len cap,sv]).run P w=.ok (.slice (some ⟨w.heap.size,0,none⟩) (len+n) (grownCap w (len+n) cap e))
   (w.drew.alloc (.cells ((cs.toList.take (len*esz)).toArray++((List.range (n*esz)).map f).toArray++Builtin.zeroCells ez.cells (grownCap w (len+n) cap e-(len+n))) e))
 none_:0<n->n*eby<=140737488355328->(Builtin.append_ #[t,u] ty #[.slice none 0 0,sv]).run P w=.ok (.slice (some ⟨w.heap.size,0,none⟩) n (grownCap w n 0 e))
   (w.drew.alloc (.cells (((List.range (n*esz)).map f).toArray++Builtin.zeroCells ez.cells (grownCap w n 0 e-n)) e))
 zero_:n=0->(Builtin.append_ #[t,u] ty #[.slice none 0 0,sv]).run P w=.ok (.slice none 0 0) w
theorem QS {O:Nat->Prop}{k g sz len cap b T:Nat}{cs:Array Value}{fz:Nat×Nat}(hr:ρ k g=some b)(hb:w.heap[b]?=some (.cells cs T fz))(hc:len<=cap)(hs:cap*sz=cs.size)(hm:cap<=maxLen):
  AW ρ O w (.osl k g sz 0 len) (.slice (some ⟨b,0,none⟩) len cap):=by
 have:=AW.osl (O:=O) (ρ:=ρ) (k:=k) (g:=g) (i:=0) (sz:=sz) (len:=len) hr hb hc (by rw[BV];exact hs) (by rw[BV];exact hm)
 rwa [Hq]at this
structure Lc (C:BA)(F:Ad)(H:Hp)(ρ:Lk)(w:World)(n:Nat)(d:D)(H':Hp)(v:Value)(ρ':Lk)(w':World):Prop where
 mem:Am C F ρ' H' w'
 ext:BX ρ (AN F.X ρ H) w ρ' (AN F.X ρ' H') w'
 far:∀k g',g'≠n->ρ' k g'=ρ k g'
 rep:AW ρ' (AN F.X ρ' H') w' d v
theorem Qq {xs ys:Array Value}{q:Nat}(h:q<xs.size):(xs++ys).getD q undef=xs.getD q undef:=by
 simp only[Av];rw[HM h]
theorem jc {xs ys:Array Value}{q:Nat}(h:xs.size<=q):(xs++ys).getD q undef=ys.getD (q-xs.size) undef:=by
 simp only[Av];rw[HL h]
theorem XQ {t e0 esz eby ty n k:Nat}{ez:Value}(T:Mw C.P t e0 esz eby ez){H1 H2:Hp}{e:At}{b len cap:Nat}(m:Am C F ρ (H1++e::H2) w)(hr:ρ e.k e.g=some b)(hT:e.T=e0)(hsz:esz=e.sz)(hle:len<=e.es.length)
  {cs:Array Value} (hbk:w.heap[b]?=some (.cells cs e.T (0,0))) (hcs:cap*esz=cs.size) (hcap:cap<=maxLen) (fr:∀k,ρ k n=none) (hlt:∀e'∈H1++e::H2,e'.g≠n) {news:List D} {f:Nat->Value} {u:Nat} {sv:Value}
  (S:S9 C.P w t u ty e0 esz eby ez sv news.length f) (hs:ON ρ (AN F.X ρ (H1++e::H2)) w esz news f) (hby:(len+news.length)*eby<=140737488355328) (h1:1<=eby):
  ∃v ρ' w',(Builtin.append_ #[t,u] ty #[.slice (some ⟨b,0,none⟩) len cap,sv]).run C.P w=.ok v w' /\
   Lc C F (H1++e::H2) ρ w n (.osl k n esz 0 (len+news.length)) (⟨k,n,e0,esz,e.es.take len++news⟩::(H1++H2)) v ρ' w':=by
 subst hT hsz;obtain⟨cs0,q1,q2⟩:=m.at (e:=e) (by simp) hr;rw[hbk]at q1;cases q1;have hlc:len*e.sz<=cs.size:=BY (CV _ hle) q2.len;have hmx:len+news.length<=maxLen:=by
  have:=Cy (len+news.length) h1
  simp only[maxLen];omega
 have hlim:∀q,q<len*e.sz->q<cs.size:=λq hq=>by omega
 by_cases hroom:len+news.length<=cap
 ·have hfit:len*e.sz+news.length*e.sz<=cs.size:=by rw[<-hcs,<-Bz];exact CV _ hroom
  have run:=S.room b len cap cs hbk hroom hfit;generalize hcs':(cs.toList.take (len*e.sz)++(List.range (news.length*e.sz)).map f++cs.toList.drop (len*e.sz+((List.range (news.length*e.sz)).map f).length)).toArray=cs' at run;have hsz':cs'.size=cs.size:=by rw[<-hcs'];simp;omega
  have get:∀q,cs'[q]?=if q<len*e.sz then cs[q]? else if q<len*e.sz+news.length*e.sz then some (f (q-len*e.sz))else cs[q]?:=λq=>by
   rw[<-hcs'];simp only[Ku];rw[Du];have hl1:(cs.toList.take (len*e.sz)).length=len*e.sz:=by simp;omega
   rcases BE q (len*e.sz)with hq|hq
   ·rw[GW (by omega),AI hq,FT,AI hq];simp
   ·rw[FC (by omega),CP,hl1]
    rcases BE (q-len*e.sz) (news.length*e.sz)with hq2|hq2
    ·rw[GW (by simp;omega),DQ,Ay,Jy hq2];rfl
    ·rw[FC (by simp;omega),CP,HI]
     simp only[Ab,List.length_range];rw[show len*e.sz+news.length*e.sz+(q-len*e.sz-news.length*e.sz)=q from by omega];simp
  have ho:DX ρ (AN F.X ρ (H1++e::H2)) w ⟨e.k,e.g,e.T,e.sz,e.es.take len++news⟩ cs':=bU q2 hle hs
   (λq hq=>by rw[Av,get,AI hq,<-Av])
   (λj hj=>by rw[Av,get,CP,DQ,show len*e.sz+j-len*e.sz=j from by omega];rfl)
   (by rw[hsz',Bz];exact hfit) (λq v hv=>by
    rw[get]at hv;split at hv
    ·exact q2.one _ _ hv
    ·split at hv
     ·cases hv;exact hs.one _ (by omega)
     ·exact q2.one _ _ hv)
  obtain⟨m1,x1⟩:=m.write (e':=⟨e.k,e.g,e.T,e.sz,e.es.take len++news⟩) hr hbk rfl rfl rfl hsz' ho;obtain⟨m2,x2⟩:=m1.rename (e:=⟨e.k,e.g,e.T,e.sz,e.es.take len++news⟩) (k:=k) (n:=n) hr (fr k) (λe' he'=>by
   rcases Bp.1 he' with h|h
   ·exact hlt e' (by simp[h])
   ·rcases A8.1 h with rfl|h
    ·exact hlt e (by simp)
    ·exact hlt e' (by simp[h]))
  rw[UJ hbk]at run;refine⟨_,ρ.put k n b,_,run,?_⟩;refine⟨m2,x1.trans x2,λk' g' hg=>by unfold Lk.put;rw[AH λh=>hg h.2],?_⟩;have hlt:b<w.heap.size:=(DB.1 hbk).1;exact QS (b:=b) (T:=e.T) (cs:=cs') (fz:=(0,0)) (Es _ _ _ _) (by rw[ML _ _ _ _ _ hlt,AI rfl]) hroom (by rw[hsz',<-hcs]) hcap
 ·have run:=S.grow b len cap cs hbk hlc (Nat.lt_of_not_le hroom) hby
  generalize hcap':grownCap w (len+news.length) cap e.T=cap' at run;have hge:len+news.length<=cap':=by rw[<-hcap'];exact grownCap_ge ..
  have hmx':cap'<=maxLen:=by rw[<-hcap'];exact grownCap_le_maxLen _ _ _ _ hmx
  generalize hcs':(cs.toList.take (len*e.sz)).toArray++((List.range (news.length*e.sz)).map f).toArray++Builtin.zeroCells ez.cells (cap'-(len+news.length))=cs' at run;have s1:(cs.toList.take (len*e.sz)).toArray.size=len*e.sz:=by simp;omega
  have s2:((List.range (news.length*e.sz)).map f).toArray.size=news.length*e.sz:=by simp
  have hsz':cs'.size=cap'*e.sz:=by
   rw[<-hcs',Jz,Jz,s1,s2,size_zeroCells,T.zs,<-Bz,<-Bz]
   congr 1;omega
  obtain⟨m0,hO0⟩:=m.sub (H':=H1++H2) (Qb (Qe _) (Oa _ _));have x0:BX ρ (AN F.X ρ (H1++e::H2)) w ρ (AN F.X ρ (H1++H2)) w.drew:=
   ⟨Ar _,λ_ _ _ h=>h,λb' _ h=>⟨λh'=>h (hO0 b' h'),rfl⟩,λ_ cs _ _ h=>⟨cs,_,h,rfl⟩⟩
  have ho:DX ρ (AN F.X ρ (H1++H2)) w.drew ⟨k,n,e.T,e.sz,e.es.take len++news⟩ cs':=by
   have hlow:∀q,q<len*e.sz->cs'.getD q undef=cs.getD q undef:=λq hq=>by
    rw[<-hcs',Qq (by rw[Jz];omega),Qq (by omega)];simp only[Av,Ku,FT,AI hq];simp
   have hmid:∀j,j<news.length*e.sz->cs'.getD (len*e.sz+j) undef=f j:=λj hj=>by
    rw[<-hcs',Qq (by rw[Jz];omega),jc (by omega),s1,show len*e.sz+j-len*e.sz=j from by omega];simp[Av,hj]
   refine(bU q2 hle hs hlow hmid (by rw[hsz'];exact CV _ hge) λq v hv=>?_).mono x0;rw[<-hcs']at hv;rcases BE q (len*e.sz+news.length*e.sz)with hq|hq
   ·rw[HM (by rw[Jz];omega)]at hv
    rcases BE q (len*e.sz)with hq2|hq2
    ·rw[HM (by omega)]at hv
     simp only[Ku,FT,AI hq2]at hv;exact q2.one q v (by simpa using hv)
    ·rw[HL (by omega),s1]at hv
     simp only[Ku,Ay]at hv;rw[Jy (by omega)]at hv;cases hv;exact hs.one _ (by omega)
   ·rw[HL (by rw[Jz];omega)]at hv
    exact Qs T.zo _ _ v hv
  obtain⟨m1,x1⟩:=m0.drew.alloc ⟨k,n,e.T,e.sz,e.es.take len++news⟩ cs' (fr k) (λe' he' h=>hlt e' (by rcases Bp.1 he' with h|h<;>simp[h]) h.2) ho;refine⟨_,_,_,run,m1,x0.trans x1,λk' g' hg=>by unfold Lk.put;rw[AH λh=>hg h.2],?_⟩;exact QS (b:=w.heap.size) (T:=e.T) (cs:=cs') (fz:=(0,0)) (Es _ _ _ _) (by rw[El];exact AI rfl) hge hsz'.symm hmx'
theorem Tx {t e0 esz eby ty:Nat}{P:Program}{O:Nat->Prop}{ez:Value}(T:Mw P t e0 esz eby ez)(h1:1<=eby){news:List D}{a:Addr}{c:Nat}{f:Nat->Value}(hs:Ow ρ O w esz news a f):
  S9 P w t t ty e0 esz eby ez (.slice (some a) news.length c) news.length f where
 room b len cap cs hbk hroom hfit:=by
  obtain⟨i,i1,rfl,i3,i4⟩:=T.inf;exact run_append_room (P:=P) w t ty e0 i T.under i1 b len cap cs hbk a news.length c ((List.range (news.length*i.size)).map f) (by simp) (λj v hv=>by
   rw[Ay]at hv
   by_cases hj:j<news.length*i.size
   ·rw[Jy hj]at hv;cases hv;exact hs.cell j hj
   ·rw[D6 (by simp;omega)]at hv;cases hv) (λu hu=>by
    rw[de];obtain⟨j,hj,rfl⟩:=Bx.1 hu;exact hs.one j (by simpa using hj)) hroom (by simp;exact hfit)
 grow b len cap cs hb hlc hg hby:=kJ (P:=P) (ty:=ty) (c:=c) T hb hlc hs hg hby h1
 none_ h0 hby:=by
  obtain⟨i,i1,rfl,rfl,i4⟩:=T.inf;have hmx:news.length<=maxLen:=by
   have:=Cy news.length h1
   simp only[maxLen];omega
  exact run_append_nil (P:=P) w t ty e0 i ez T.under i1 i4 a news.length c ((List.range (news.length*i.size)).map f) (by simp) (λj v hv=>by
   rw[Ay]at hv
   by_cases hj:j<news.length*i.size
   ·rw[Jy hj]at hv;cases hv;exact hs.cell j hj
   ·rw[D6 (by simp;omega)]at hv;cases hv) h0 (by simp only[maxLen]at hmx;omega) (by omega)
 zero_ h0:=by
  obtain⟨i,i1,rfl,rfl,i4⟩:=T.inf;simp[Builtin.append_,C6 T.under,sizeOf,typeInfo,i1,Builtin.lenOf,Builtin.firstCells,loadCells,loadCellsFrom,h0]
theorem append_nil {t e0 esz eby ty n k:Nat}{ez:Value}(T:Mw C.P t e0 esz eby ez)(m:Am C F ρ H w)(fr:∀k,ρ k n=none)(hlt:∀e'∈H,e'.g≠n){news:List D}{f:Nat->Value}{u:Nat}{sv:Value}
  (S:S9 C.P w t u ty e0 esz eby ez sv news.length f) (hs:ON ρ (AN F.X ρ H) w esz news f) (hby:news.length*eby<=140737488355328) (h1:1<=eby):
  ∃v ρ' w',(Builtin.append_ #[t,u] ty #[.slice none 0 0,sv]).run C.P w=.ok v w' /\
   Lc C F H ρ w n (.osl k n esz 0 news.length) (⟨k,n,e0,esz,news⟩::H) v ρ' w':=by
 rcases D7 news.length with h0|h0
 ·have hn:=FB h0
  subst hn;obtain⟨m1,hO⟩:=m.ghost (k:=k) (n:=n) (T:=e0) (sz:=esz) (fr k);exact⟨.slice none 0 0,ρ,w,S.zero_ rfl,m1,by rw[hO];exact .refl _ _ _,λ_ _ _=>rfl,.onil _ _ _⟩
 ·have hmx:news.length<=maxLen:=by
   have:=Cy news.length h1
   simp only[maxLen];omega
  have run:=S.none_ h0 hby;generalize hcap':grownCap w news.length 0 e0=cap' at run;have hge:news.length<=cap':=by rw[<-hcap'];exact grownCap_ge ..
  have hmx':cap'<=maxLen:=by rw[<-hcap'];exact grownCap_le_maxLen _ _ _ _ hmx
  generalize hcs':((List.range (news.length*esz)).map f).toArray++Builtin.zeroCells ez.cells (cap'-news.length)=cs' at run;have s2:((List.range (news.length*esz)).map f).toArray.size=news.length*esz:=by simp
  have hsz':cs'.size=cap'*esz:=by
   rw[<-hcs',Jz,s2,size_zeroCells,T.zs,<-Bz]
   congr 1;omega
  have hmid:∀j,j<news.length*esz->cs'.getD j undef=f j:=λj hj=>by
   rw[<-hcs',Qq (by omega)];simp[Av,hj]
  have ho:DX ρ (AN F.X ρ H) w.drew ⟨k,n,e0,esz,news⟩ cs':=by
   refine DX.mono ⟨?_,hs.siz,λq v hv=>?_,λq d j c hd hc=>?_⟩ (BX.drew ρ (AN F.X ρ H) w)
   ·dsimp only;rw[hsz'];exact CV _ hge
   ·rw[<-hcs']at hv
    rcases BE q (news.length*esz)with hq|hq
    ·rw[HM (by omega)]at hv
     simp only[Ku,Ay]at hv;rw[Jy hq]at hv;cases hv;exact hs.one _ hq
    ·rw[HL (by omega)]at hv
     exact Qs T.zo _ _ v hv
   ·dsimp only at hd⊢
    have hj:j<esz:=by rw[<-hs.siz q d hd];exact(BS.1 hc).1
    have hq:q<news.length:=(BS.1 hd).1;rw[hmid]
    ·exact hs.rep q d j c hd hc
    ·have:(q+1)*esz<=news.length*esz:=CV _ hq
     rw[Bz]at this;omega
  obtain⟨m1,x1⟩:=m.drew.alloc ⟨k,n,e0,esz,news⟩ cs' (fr k) (λe' he' h=>hlt e' he' h.2) ho;refine⟨_,_,_,run,m1,(BX.drew _ _ _).trans x1,λk' g' hg=>by unfold Lk.put;rw[AH λh=>hg h.2],?_⟩;exact QS (b:=w.heap.size) (T:=e0) (cs:=cs') (fz:=(0,0)) (Es _ _ _ _) (by rw[El];exact AI rfl) hge hsz'.symm hmx'
theorem RK {tt:Nat->Option A7}{o:Oper}{g:Operand->D}{ev:Operand->Value}{n k:Nat}{d:D}{H':Hp}{p:Prop}(htt:C5 C.P tt)(m:Am C F ρ H w)(fr:∀k,ρ k n=none)(hlt:∀e∈H,e.g≠n)
  (hg:∀x,AW ρ (AN F.X ρ H) w (g x) (ev x)) (h:EY tt H n k g o.op=some (d,H',p)) (hp:p):
  ∃v ρ' w',(execOp ev o).run C.P w=.ok (.value v) w'/\Lc C F H ρ w n d H' v ρ' w':=by
 unfold EY at h;split at h<;>try(cases h;done)
 rename_i args tys ho;split at h<;>try(cases h;done)
 rename_i s x hargs;split at h<;>try(cases h;done)
 rename_i t t' htys;split at h<;>try(cases h;done)
 rename_i htt';obtain rfl:=CC htt';split at h<;>try(cases h;done)
 rename_i i hi;split at h<;>try(cases h;done)
 rename_i e esz eby ez hk;split at h<;>try(cases h;done)
 rename_i news q hsrc;obtain⟨k1,⟨inf,k2,k3,k4,k5⟩,k6,k7⟩:=FJ (htt _ _ hi) hk;have T:Mw C.P t e esz eby ez:=⟨k1,⟨inf,k2,k3,k4,k5⟩,k6,k7⟩
 have hargs':args = #[s,x]:=by rw[<-TV (xs:=args),hargs]
 have htys':tys = #[t,t]:=by rw[<-TV (xs:=tys),htys]
 subst hargs' htys';have fin:∀v1 v2,ev s=v1->ev x=v2->(∃v ρ' w',(Builtin.append_ #[t,t] o.type #[v1,v2]).run C.P w=.ok v w'/\Lc C F H ρ w n d H' v ρ' w') ->
   ∃v ρ' w',(execOp ev o).run C.P w=.ok (.value v) w'/\Lc C F H ρ w n d H' v ρ' w':=by
  rintro v1 v2 h1 h2 ⟨v,ρ',w',h3,h4⟩;refine⟨v,ρ',w',?_,h4⟩;unfold execOp;simp only[ho,resolve,invoke,builtin,Sem.run_bind,Sem.run_pure,Result.andThen_ok,List.map_toArray,Cx,List.map_nil,h1,h2,h3]
 have hx:=hg x;have hsr:=hg s;generalize hvx:ev x=vx at hx;generalize hvs:ev s=vs at hsr;refine fin vs vx hvs hvx ?_;split at h<;>try(cases h;done)
 ·rename_i k0 g1 sz len hgs
  split at h<;>try(cases h;done)
  rename_i e1 he1;simp only[BP,Bn]at h;obtain⟨rfl,rfl,rfl⟩:=h;obtain⟨hq,rfl,rfl,rfl,rfl,hle,hby,hb1,hs1⟩:=hp;obtain⟨hm,hke⟩:=Hp.get_mem he1;obtain⟨H1,H2,a1,_,a3⟩:=M8 e1 he1;rw[hgs]at hsr;rw[a3];rcases eA m hsrc hq hx with⟨rfl,rfl⟩|⟨a,c,f,rfl,hc,hs⟩
  ·
   simp only[Hm,Dv,De];cases hsr with
   |onil=>
    obtain⟨m0,hO0⟩:=m.sub (H':=H1++H2) (by rw[a1];exact Qb (Qe _) (Oa _ _));obtain⟨m1,hO⟩:=m0.ghost (k:=k) (n:=n) (T:=e1.T) (sz:=e1.sz) (fr k);refine⟨_,ρ,w,Ti k1 k2 (Ar _),by simpa using m1,?_,λ_ _ _=>rfl,.onil _ _ _⟩;simp only[NE];rw[hO];exact⟨Ar _,λ_ _ _ h=>h,λb' _ h=>⟨λh'=>h (hO0 b' h'),rfl⟩,λ_ cs _ _ h=>⟨cs,_,h,rfl⟩⟩
   |osl hr hb hc hs hmx=>
    rename_i cap b T' cs fz;rw[<-hke]at hr;obtain⟨cs0,q1,q2⟩:=m.at hm hr;rw[hb]at q1;cases q1;rw[a1]at m;have q3:DX ρ (AN F.X ρ (H1++e1::H2)) w ⟨e1.k,e1.g,e1.T,e1.sz,e1.es.take len⟩ cs:=by
     rw[<-a1];refine⟨by dsimp only;simp only[Bc];exact BY (CV _ (Nat.min_le_right _ _)) q2.len,λi d hd=>?_,q2.one,λi d j c hd hc=>?_⟩
     ·dsimp only at hd;rw[FT]at hd;split at hd
      ·exact q2.siz i d hd
      ·cases hd
     ·dsimp only at hd⊢;rw[FT]at hd;split at hd
      ·exact q2.rep i d j c hd hc
      ·cases hd
    obtain⟨m1,x1⟩:=m.write (e':=⟨e1.k,e1.g,e1.T,e1.sz,e1.es.take len⟩) hr hb rfl rfl rfl rfl q3;have hsame:World.setBlk w b cs e1.T=w:=by
     unfold World.setBlk
     have:w.heap.setIfInBounds b (.cells cs e1.T (0,0))=w.heap:=by
      apply Array.ext_getElem?;intro q;rw[Iq]
      by_cases hq:b=q
      ·subst hq;rw[AI rfl,AI (DB.1 hb).1,hb]
      ·rw[AH hq]
     rw[this]
    rw[hsame]at m1 x1;obtain⟨m2,x2⟩:=m1.rename (e:=⟨e1.k,e1.g,e1.T,e1.sz,e1.es.take len⟩) (k:=k) (n:=n) hr (fr k) (λe' he'=>by
     rcases Bp.1 he' with h|h
     ·exact hlt e' (by rw[a1];simp[h])
     ·rcases A8.1 h with rfl|h
      ·exact hlt e1 hm
      ·exact hlt e' (by rw[a1];simp[h]))
    refine⟨_,_,w,Ti k1 k2 hc,m2,by rw[a1];exact x1.trans x2,λk' g' hg=>by unfold Lk.put;rw[AH λh=>hg h.2],?_⟩;have fin:=AW.osl (ρ:=ρ.put k n b) (O:=AN F.X (ρ.put k n b) (⟨k,n,e1.T,e1.sz,e1.es.take len⟩::(H1++H2))) (k:=k) (g:=n) (i:=0) (Es _ _ _ _) hb hc hs hmx;exact fin
  ·cases hsr with
   |onil=>
    obtain⟨m0,hO0⟩:=m.sub (H':=H1++H2) (by rw[a1];exact Qb (Qe _) (Oa _ _));have x0:BX ρ (AN F.X ρ H) w ρ (AN F.X ρ (H1++H2)) w:=⟨Ar _,λ_ _ _ h=>h,λb' _ h=>⟨λh'=>h (hO0 b' h'),rfl⟩,λ_ cs _ _ h=>⟨cs,_,h,rfl⟩⟩
    have hs':ON ρ (AN F.X ρ (H1++H2)) w e1.sz news f:=⟨hs.one,hs.siz,λi e j d h1 h2=>(hs.rep i e j d h1 h2).mono x0⟩
    obtain⟨v,ρ',w',r1,r2⟩:=append_nil (ty:=o.type) (k:=k) T m0 fr (λe' he'=>hlt e' (by rw[a1];rcases Bp.1 he' with h|h<;>simp[h])) (Tx (c:=c) T hb1 hs) hs' (by simpa using hby) hb1;refine⟨v,ρ',w',r1,?_⟩;simp only[BV,NE,Ei];exact⟨r2.mem,x0.trans r2.ext,r2.far,r2.rep⟩
   |osl hr hb hc' hcs hmx=>
    rename_i cap b T' cs fz;rw[<-hke]at hr;obtain⟨cs0,q1,q2⟩:=m.at hm hr;rw[hb]at q1;cases q1;rw[a1]at m hlt hs;obtain⟨v,ρ',w',r1,r2⟩:=XQ (ty:=o.type) (k:=k) T m hr rfl rfl hle hb (by simpa using hcs) (by simpa using hmx) fr hlt (Tx (c:=c) T hb1 hs) hs.srcv hby hb1;rw[a1];refine⟨v,ρ',w',?_,r2⟩;simpa using r1
 ·rename_i hgs
  simp only[BP,Bn]at h;obtain⟨rfl,rfl,rfl⟩:=h;obtain⟨hq,hby,hb1,hs1⟩:=hp;rw[hgs]at hsr;cases hsr;rcases eA m hsrc hq hx with⟨rfl,rfl⟩|⟨a,c,f,rfl,hc,hs⟩
  ·obtain⟨m1,hO⟩:=m.ghost (k:=k) (n:=n) (T:=e) (sz:=esz) (fr k)
   exact⟨_,ρ,w,Ti k1 k2 (Ar _),m1,by rw[hO];exact .refl _ _ _,λ_ _ _=>rfl,.onil _ _ _⟩
  ·exact append_nil (ty:=o.type) (k:=k) T m fr hlt (Tx (c:=c) T hb1 hs) hs.srcv hby hb1
end
section
variable {C:BA} {F:Ad} {s:St} {ops:Array Oper} {o:Oper} {os:List Oper} {K:St->Prop}
theorem W4:∀ {H:Hp} {k:Nat} {e:At},e∈Hp.del H k->e∈H
 |e0::r,k,e,h=>by
  simp only[Hp.del]at h;split at h
  ·exact CL _ h
  ·rcases A8.1 h with rfl|h
   ·exact CF ..
   ·exact CL _ (W4 h)
theorem qN {tt:Nat->Option A7}{H:Hp}{n k:Nat}{g:Operand->D}{op:Op}{d:D}{H':Hp}{p:Prop}(h:EY tt H n k g op=some (d,H',p))(hl:∀e∈H,e.g<n):∀e∈H',e.g<n+1:=by
 unfold EY at h
 (repeat' split at h)<;>try(cases h;done)
 ·cases h
  intro e he;rcases A8.1 he with rfl|he
  ·exact IM _
  ·exact Dd (hl e (W4 he))
 ·cases h
  intro e he;rcases A8.1 he with rfl|he
  ·exact IM _
  ·exact Dd (hl e he)
theorem jE {tt:Nat->Option A7}(k:Nat)(htt:C5 C.P tt){d:D}{H':Hp}{p:Prop}(hw:CJ ops s.env o=some true)(he:EY tt s.H s.n k (BG s.env) o.op=some (d,H',p))(hp:p)
  (h:BK C F ops os ⟨Bh s.env o.dst d,H',s.n+1⟩ K):BK C F ops (o::os) s K:=
 BK.step hw (λρ a w hs=>by
  obtain⟨v,ρ',w',h1,h2⟩:=RK htt hs.mem (λk=>hs.fresh k _ (Ar _)) (λe he=>Nat.ne_of_lt (hs.gen e he)) (Dh hs.env) he hp;exact⟨v,ρ',w',.inl h1,⟨h2.mem,h2.ext,λk g hg=>by rw[h2.far k g (by omega)];exact hs.fresh k g (by omega),h2.rep⟩,qN he hs.gen⟩) h
end
def I8 (s:ByteArray):List D:=s.data.toList.map λb=>.prim (.int .u8 (b.toNat:Int))
theorem J8 (s:ByteArray):(I8 s).length=s.size:=by
 unfold I8;rw[Ab,Ip];rfl
def KN (s:ByteArray)(j:Nat):Value:=.int .u8 ((s.data.toList.getD j 0).toNat:Int)
theorem Tj (s:ByteArray):(List.range (s.size*1)).map (KN s)=Lib.strCells s:=by
 refine Qf λj=>?_
 have hs:s.data.toList.length=s.size:=by rw[Ip];rfl
 rw[Ej,Ay,Lib.strCells,Ay];rcases BE j s.size with h|h
 ·rw[Jy h,Ce]
  simp[KN,EK,Bs (show j<s.data.toList.length by omega)]
 ·rw[D6 (by simp;omega),D6 (by omega)];rfl
section
variable {C:BA} {F:Ad} {ρ:Lk} {H:Hp} {w:World}
theorem Tz {O:Nat->Prop}(s:ByteArray):ON ρ O w 1 (I8 s) (KN s) where
 one _ _:=rfl
 siz i e h:=by
  unfold I8 at h;rw[Ay]at h;obtain⟨b,_,rfl⟩:=E4.1 h;rfl
 rep i e j d h1 h2:=by
  unfold I8 at h1;rw[Ay]at h1;obtain⟨b,hb,rfl⟩:=E4.1 h1;rcases j with _|j
  ·cases h2
   have:KN s (i*1+0)=.int .u8 (b.toNat:Int):=by
    unfold KN;rw[Ej,Dv,EK,hb];rfl
   rw[this];exact .prim _
  ·simp[D.cells]at h2
theorem XZ {P:Program}{t u ty e0:Nat}(T:Mw P t e0 1 1 (.int .u8 0))(hu:P.underlying u=some .string)(s:ByteArray):
  S9 P w t u ty e0 1 1 (.int .u8 0) (.string s) s.size (KN s) where
 room b len cap cs hbk hroom hfit:=by
  obtain⟨i,i1,i2,i3,i4⟩:=T.inf;rw[Tj,Lib.strCells_length,Ej];exact Lib.run_append_room_string w t u ty e0 i T.under hu i1 i2 b len cap cs hbk s hroom (by omega)
 grow b len cap cs hb hlc hg hby:=by
  obtain⟨i,i1,i2,i3,i4⟩:=T.inf;rw[Tj];rw[Ej]at hlc⊢;exact Lib.run_append_grow_string w t u ty e0 i (.int .u8 0) T.under hu i1 i4 ⟨b,0,none⟩ len cap (cs.toList.take len) (by rw[i2];simp;omega) (λj v hv=>by
   rw[FT]at hv;split at hv
   ·rw[IY]
    simp only[Jv]at hv;simp[World.cell?,hb,hv]
   ·cases hv) s hg (by omega) (by rw[i3];exact growslice_fits hg (by omega))
 none_ h0 hby:=by
  obtain⟨i,i1,i2,i3,i4⟩:=T.inf;have hr:=run_append_nil_string (P:=P) w t u ty e0 i (.int .u8 0) T.under hu i1 i4 s (by omega) (by omega) (by rw[i3];omega);have e1:(s.data.map λb=>Value.int .u8 b.toNat)=(Lib.strCells s).toArray:=by
   apply Array.ext';simp[Lib.strCells]
  rw[Tj,<-e1];exact hr
 zero_ h0:=by
  obtain⟨i,i1,i2,i3,i4⟩:=T.inf;have hf:=Lib.run_firstCells_string (P:=P) w 1 s;rw[h0]at hf;simp[Builtin.append_,C6 T.under,C6 hu,sizeOf,typeInfo,i1,i2,Builtin.lenOf,h0,hf]
def OQ (tt:Nat->Option A7)(H:Hp)(n k:Nat)(g:Operand->D):Op->Option (D×Hp×Prop)
 | .call ⟨.builtin .append,args,tys⟩=>match args.toList with
  | [s,x]=>match tys.toList with
   | [t,t']=>match tt t' with
    |some i'=>match i'.ti with
     | .string=>match tt t with
      |some i=>match i.ti with
       | .slice e esz eby ez=>match g x with
        | .prim (.string str)=>match g s with
         | .osl k1 g1 sz 0 len=>match Hp.get H k1 with
          |some e1=>some (.osl k n 1 0 (len+str.size),⟨k,n,e,1,e1.es.take len++I8 str⟩::Hp.del H k1,
            esz=1/\eby=1/\ez=.int .u8 0/\g1=e1.g/\sz=e1.sz/\sz=1/\e1.T=e/\len<=e1.es.length/\len+str.size<=140737488355328)
          |none=>none
         | .prim (.slice none 0 0)=>some (.osl k n 1 0 str.size,⟨k,n,e,1,I8 str⟩::H,esz=1/\eby=1/\ez=.int .u8 0/\str.size<=140737488355328)
         |_=>none
        |_=>none
       |_=>none
      |none=>none
     |_=>none
    |none=>none
   |_=>none
  |_=>none
 |_=>none
theorem ky {tt:Nat->Option A7}{o:Oper}{g:Operand->D}{ev:Operand->Value}{n k:Nat}{d:D}{H':Hp}{p:Prop}(htt:C5 C.P tt)(m:Am C F ρ H w)(fr:∀k,ρ k n=none)(hlt:∀e∈H,e.g≠n)
  (hg:∀x,AW ρ (AN F.X ρ H) w (g x) (ev x)) (h:OQ tt H n k g o.op=some (d,H',p)) (hp:p):
  ∃v ρ' w',(execOp ev o).run C.P w=.ok (.value v) w'/\Lc C F H ρ w n d H' v ρ' w':=by
 unfold OQ at h;split at h<;>try(cases h;done)
 rename_i args tys ho;split at h<;>try(cases h;done)
 rename_i s x hargs;split at h<;>try(cases h;done)
 rename_i t t' htys;split at h<;>try(cases h;done)
 rename_i i' hi';split at h<;>try(cases h;done)
 rename_i hk';split at h<;>try(cases h;done)
 rename_i i hi;split at h<;>try(cases h;done)
 rename_i e esz eby ez hk;split at h<;>try(cases h;done)
 rename_i str hgx;have hu:=MK (htt _ _ hi') hk';obtain⟨k1,⟨inf,k2,k3,k4,k5⟩,k6,k7⟩:=FJ (htt _ _ hi) hk;have T0:Mw C.P t e esz eby ez:=⟨k1,⟨inf,k2,k3,k4,k5⟩,k6,k7⟩
 have hargs':args = #[s,x]:=by rw[<-TV (xs:=args),hargs]
 have htys':tys = #[t,t']:=by rw[<-TV (xs:=tys),htys]
 subst hargs' htys';have fin:∀v1 v2,ev s=v1->ev x=v2->(∃v ρ' w',(Builtin.append_ #[t,t'] o.type #[v1,v2]).run C.P w=.ok v w'/\Lc C F H ρ w n d H' v ρ' w') ->
   ∃v ρ' w',(execOp ev o).run C.P w=.ok (.value v) w'/\Lc C F H ρ w n d H' v ρ' w':=by
  rintro v1 v2 h1 h2 ⟨v,ρ',w',h3,h4⟩;refine⟨v,ρ',w',?_,h4⟩;unfold execOp;simp only[ho,resolve,invoke,builtin,Sem.run_bind,Sem.run_pure,Result.andThen_ok,List.map_toArray,Cx,List.map_nil,h1,h2,h3]
 have hx:=hg x;have hsr:=hg s;generalize hvx:ev x=vx at hx;generalize hvs:ev s=vs at hsr;refine fin vs vx hvs hvx ?_;rw[hgx]at hx;cases hx;split at h<;>try(cases h;done)
 ·rename_i k0 g1 sz len hgs
  split at h<;>try(cases h;done)
  rename_i e1 he1;simp only[BP,Bn]at h;obtain⟨rfl,rfl,rfl⟩:=h;obtain⟨rfl,rfl,rfl,rfl,q1,rfl,rfl,hle,hby⟩:=hp;have T:=T0;obtain⟨hm,hke⟩:=Hp.get_mem he1;obtain⟨H1,H2,a1,_,a3⟩:=M8 e1 he1;rw[hgs]at hsr;rw[a3];have S:=XZ (w:=w) (ty:=o.type) T hu str;cases hsr with
  |onil=>
   obtain⟨m0,hO0⟩:=m.sub (H':=H1++H2) (by rw[a1];exact Qb (Qe _) (Oa _ _));have x0:BX ρ (AN F.X ρ H) w ρ (AN F.X ρ (H1++H2)) w:=⟨Ar _,λ_ _ _ h=>h,λb' _ h=>⟨λh'=>h (hO0 b' h'),rfl⟩,λ_ cs _ _ h=>⟨cs,_,h,rfl⟩⟩
   obtain⟨v,ρ',w',r1,r2⟩:=append_nil (ty:=o.type) (k:=k) (news:=I8 str) (f:=KN str) T m0 fr (λe' he'=>hlt e' (by rw[a1];rcases Bp.1 he' with h|h<;>simp[h])) (by rw[J8];exact S) (Tz str) (by rw[J8];omega) (Ar _);refine⟨v,ρ',w',r1,?_⟩;simp only[BV,NE,Ei];rw[J8]at r2;exact⟨r2.mem,x0.trans r2.ext,r2.far,r2.rep⟩
  |osl hr hb hc' hcs hmx=>
   rename_i cap b T' cs fz;rw[<-hke]at hr;obtain⟨cs0,q2,q3⟩:=m.at hm hr;rw[hb]at q2;cases q2;rw[a1]at m hlt;obtain⟨v,ρ',w',r1,r2⟩:=XQ (ty:=o.type) (k:=k) (news:=I8 str) (f:=KN str) T m hr rfl q1 hle hb (by simpa using hcs) (by simpa using hmx) fr hlt (by rw[J8];exact S) (Tz str) (by rw[J8];omega) (Ar _);rw[a1];refine⟨v,ρ',w',?_,?_⟩
   ·simpa using r1
   ·rw[J8]at r2;exact r2
 ·rename_i hgs
  simp only[BP,Bn]at h;obtain⟨rfl,rfl,rfl⟩:=h;obtain⟨rfl,rfl,rfl,hby⟩:=hp;have T:=T0;rw[hgs]at hsr;cases hsr;have S:=XZ (w:=w) (ty:=o.type) T hu str;obtain⟨v,ρ',w',r1,r2⟩:=append_nil (ty:=o.type) (k:=k) (news:=I8 str) (f:=KN str) T m fr hlt (by rw[J8];exact S) (Tz str) (by rw[J8];omega) (Ar _);rw[J8]at r2;exact⟨v,ρ',w',r1,r2⟩
end
section
variable {C:BA} {F:Ad} {s:St} {ops:Array Oper} {o:Oper} {os:List Oper} {K:St->Prop}
theorem ox {tt:Nat->Option A7}{H:Hp}{n k:Nat}{g:Operand->D}{op:Op}{d:D}{H':Hp}{p:Prop}(h:OQ tt H n k g op=some (d,H',p))(hl:∀e∈H,e.g<n):∀e∈H',e.g<n+1:=by
 unfold OQ at h
 (repeat' split at h)<;>try(cases h;done)
 ·cases h
  intro e he;rcases A8.1 he with rfl|he
  ·exact IM _
  ·exact Dd (hl e (W4 he))
 ·cases h
  intro e he;rcases A8.1 he with rfl|he
  ·exact IM _
  ·exact Dd (hl e he)
theorem e0J {tt:Nat->Option A7}(k:Nat)(htt:C5 C.P tt){d:D}{H':Hp}{p:Prop}(hw:CJ ops s.env o=some true)(he:OQ tt s.H s.n k (BG s.env) o.op=some (d,H',p))(hp:p)
  (h:BK C F ops os ⟨Bh s.env o.dst d,H',s.n+1⟩ K):BK C F ops (o::os) s K:=
 BK.step hw (λρ a w hs=>by
  obtain⟨v,ρ',w',h1,h2⟩:=ky htt hs.mem (λk=>hs.fresh k _ (Ar _)) (λe he=>Nat.ne_of_lt (hs.gen e he)) (Dh hs.env) he hp;exact⟨v,ρ',w',.inl h1,⟨h2.mem,h2.ext,λk g hg=>by rw[h2.far k g (by omega)];exact hs.fresh k g (by omega),h2.rep⟩,ox he hs.gen⟩) h
end
inductive XI where
 |map (key elem:Nat) (zero:Value)
 |strs (n:Nat)
def PC (P:Program):Nat->List Field->Bool
 |_,[]=>true
 |i,f::fs=>(f.name != "_")&&Nat.beq f.offset i&&(match P.underlying f.type with|some .string=>true|_=>false)&&PC P (i+1) fs
def Mu (P:Program)(t:Nat):Option XI:=match P.underlying t with
 |some (.map k e)=>match P.underlying k with
  |some .string=>match P.info? e with
   |some i=>match i.zero with
    |some z=>match Lg z i.size with
     |true=>some (.map k e z)
     |false=>none
    |none=>none
   |none=>none
  |_=>none
 |some (.struct fs)=>match P.stoodInHeld t||P.eqGuardType P.depth t with
  |false=>match PC P 0 fs.toList with
   |true=>some (.strs fs.size)
   |false=>none
  |true=>none
 |_=>none
def M0 (P:Program)(xt:Nat->Option XI):Prop:=∀t i,xt t=some i->Mu P t=some i
def Ig (s:ByteArray):List D->List D->Option (Option D)
 | [],[]=>some none
 | .prim (.string k)::ks,d::vs=>match BJ s k with
  |true=>some (some d)
  |false=>Ig s ks vs
 |_,_=>none
def HU:List D->List D->Option Bool
 | [],[]=>some true
 | .prim (.string a)::l,.prim (.string b)::l'=>match HU l l' with
  |some r=>some (BJ a b&&r)
  |none=>none
 |_,_=>none
def Iu (ok:Bool)(d:D)(b:Bool):D:=match ok with
 |true=>.tup [d,.prim (.bool b)]
 |false=>d
def fg:TI->Bool
 | .other | .ptr=>false
 |_=>true
def Gs (tt:Nat->Option A7)(xt:Nat->Option XI)(g:Operand->D):Op->Option (D×Prop)
 | .makeInterface t x=>match tt t with
  |some i=>match fg i.ti with
   |true=>some (.ifc t (g x),True)
   |false=>none
  |none=>none
 | .lookup t x ix ok=>match xt t with
  |some (.map _ _ z)=>match g x with
   | .mp ks vs=>match g ix with
    | .prim (.string s)=>match Ig s ks vs with
     |some (some d)=>some (Iu ok d true,True)
     |some none=>some (Iu ok (ofV z) false,True)
     |none=>none
    |_=>none
   |_=>none
  |_=>none
 | .binOp op t x y _=>match xt t with
  |some (.strs n)=>match g x with
   | .agg l=>match g y with
    | .agg l'=>match HU l l' with
     |some b=>match OW op b with
      |some c=>some (.prim (.bool c),Nat.beq l.length n=true)
      |none=>none
     |none=>none
    |_=>none
   |_=>none
  |_=>none
 |_=>none
section
variable {P:Program} {ρ:Lk} {O:Nat->Prop} {w:World}
theorem UV (a b:ByteArray):(a==b)=BJ a b:=beq_toListBytes a b
theorem YG {s:ByteArray}:∀ {ks vs:List D} {es:List MapEntry} {r:Option D} (i:Nat),Ig s ks vs=some r->es.length=ks.length->es.length=vs.length ->
  (∀(j:Nat) (d:D),ks[j]?=some d->AW ρ O w d (es.getD j default).key)->(∀(j:Nat) (d:D),vs[j]?=some d->AW ρ O w d (es.getD j default).val) ->
  (match r with
   |none=>Instr.findNow .string (.string s) es i=some none
   |some d=>∃j v,Instr.findNow .string (.string s) es i=some (some (j,v))/\AW ρ O w d v)
 | [],[],[],r,i,h,_,_,_,_=>by simp only[Ig,BP]at h;subst h;rfl
 |k::ks,v::vs,e::es,r,i,h,h1,h2,hk,hv=>by
  obtain⟨kb,rfl⟩:∃a,k=.prim (.string a):=by
   unfold Ig at h;split at h<;>try(cases h;done)
   ·simp at*
   ·rename_i h1 _;cases h1;exact⟨_,rfl⟩
  simp only[Ig]at h;have h0:e.key=.string kb:=by
   have:=hk 0 _ rfl
   simp at this;generalize e.key=q at this;cases this;rfl
  have h3:Instr.findNow .string (.string s) (e::es) i=(match Instr.sameNow .string (.string s) e.key with
    |some true=>some (some (i,e.val))|some false=>Instr.findNow .string (.string s) es (i+1)|none=>none):=rfl
  rw[h0]at h3;have h4:Instr.sameNow .string (.string s) (.string kb)=some (BJ s kb):=by
   show some (s==kb)=_;rw[UV]
  rw[h4]at h3;cases hb:BJ s kb with
  |true=>
   rw[hb]at h h3;simp only[BP]at h;subst h;exact⟨i,e.val,h3,by simpa using hv 0 v rfl⟩
  |false=>
   rw[hb]at h h3;dsimp only at h h3;rw[h3];exact YG (i+1) h (by simpa using h1) (by simpa using h2) (λj d hd=>by simpa using hk (j+1) d (by simpa using hd)) (λj d hd=>by simpa using hv (j+1) d (by simpa using hd))
 | [],_::_,_,_,_,h,_,_,_,_=>by simp[Ig]at h
 | [],[],_::_,_,_,_,h1,_,_,_=>by simp at h1
 |_::_,[],[],_,_,_,h1,_,_,_=>by simp at h1
 |_::_,[],_::_,_,_,_,_,h2,_,_=>by simp at h2
 |_::_,_::_,[],_,_,_,h1,_,_,_=>by simp at h1
theorem PF {t k e:Nat}{z:Value}(h:Mu P t=some (.map k e z)):P.underlying t=some (.map k e)/\P.underlying k=some .string/\(∃i,P.info? e=some i/\i.zero=some z) /\
  ∀(j:Nat) (x:Value),z.cells[j]?=some x->one x=true:=by
 unfold Mu at h;split at h<;>try(cases h;done)
 ·rename_i k' e' h1
  split at h<;>try(cases h;done)
  rename_i h2;split at h<;>try(cases h;done)
  rename_i i h3;split at h<;>try(cases h;done)
  rename_i z' h4;split at h<;>try(cases h;done)
  rename_i h5;cases h;exact⟨h1,h2,⟨i,h3,h4⟩,(O3 h5).2⟩
 ·(repeat' split at h)<;>cases h
theorem lk {t n:Nat}(h:Mu P t=some (.strs n)):∃fs:Array Field,P.underlying t=some (.struct fs)/\P.stoodInHeld t=false/\P.eqGuardType P.depth t=false/\PC P 0 fs.toList=true/\fs.size=n:=by
 unfold Mu at h;split at h<;>try(cases h;done)
 ·(repeat' split at h)<;>cases h
 ·rename_i fs h1
  split at h<;>try(cases h;done)
  rename_i h2;split at h<;>try(cases h;done)
  rename_i h3;cases h;simp only[Jw]at h2;exact⟨fs,h1,h2.1,h2.2,h3,rfl⟩
theorem Xx:∀ {l l':List D} {b:Bool},HU l l'=some b->l.length=l'.length
 | [],[],_,_=>rfl
 | [],_::_,_,h=>by simp[HU]at h
 |c::l,[],_,h=>by
  unfold HU at h;split at h
  ·simp at*
  ·simp at*
  ·cases h
 |c::l,c'::l',b,h=>by
  unfold HU at h;split at h
  ·simp at*
  ·rename_i h1 h2
   cases h1;cases h2;split at h
   ·rename_i hr;simp[Xx hr]
   ·cases h
  ·cases h
theorem XN (d:Nat){xs ys:Array Value}:∀(fs:List Field) (i:Nat) (l l':List D) (b:Bool),PC P i fs=true->HU l l'=some b->l.length=fs.length ->
  (∀(j:Nat) (c:D),l[j]?=some c->AW ρ O w c (xs.getD (i+j) undef))->(∀(j:Nat) (c:D),l'[j]?=some c->AW ρ O w c (ys.getD (i+j) undef)) ->
  (∀j,j<fs.length->i+j<xs.size/\i+j<ys.size)->(Op.eqFields (d+1) xs ys fs).run P w=.ok b w
 | [],i,[],l',b,_,h,_,_,_,_=>by
  cases l' with
  |nil=>simp only[HU,BP]at h;subst h;rfl
  |cons=>simp[HU]at h
 |f::fs,i,c::l,l',b,hf,h,hl,hx,hy,hin=>by
  cases l' with
  |nil=>simp[HU]at h
  |cons c' l'=>
   obtain⟨a,rfl⟩:∃a,c=.prim (.string a):=by
    unfold HU at h;split at h<;>try(cases h;done)
    ·simp at*
    ·rename_i h1 _;cases h1;exact⟨_,rfl⟩
   obtain⟨a',rfl⟩:∃a,c'=.prim (.string a):=by
    unfold HU at h;split at h<;>try(cases h;done)
    ·simp at*
    ·rename_i _ h1;cases h1;exact⟨_,rfl⟩
   simp only[HU]at h;cases hr:HU l l' with
   |none=>simp[hr]at h
   |some r=>
    simp only[hr,BP]at h;simp only[PC,BZ]at hf;obtain⟨⟨⟨f1,f2⟩,f3⟩,f4⟩:=hf;have f2:=CC f2;have f3:P.underlying f.type=some .string:=by split at f3<;>first|assumption|cases f3
    have hxa:xs[i]?=some (.string a):=by
     have:=hx 0 _ rfl
     rw[Dv]at this;have hlt:=(hin 0 (by simp)).1;rw[Dv]at hlt;rw[Av,B3 hlt,JT]at this;rw[B3 hlt];generalize xs[i]=q at this;cases this;rfl
    have hya:ys[i]?=some (.string a'):=by
     have:=hy 0 _ rfl
     rw[Dv]at this;have hlt:=(hin 0 (by simp)).2;rw[Dv]at hlt;rw[Av,B3 hlt,JT]at this;rw[B3 hlt];generalize ys[i]=q at this;cases this;rfl
    have ag:(isAgg f.type).run P w=.ok false w:=by
     unfold isAgg;rw[run_bind,C6 f3];rfl
    have part1:(part f.type xs f.offset).run P w=.ok (.string a) w:=by
     unfold part;rw[run_bind,ag];dsimp only;rw[AH (by simp),f2];simp only[hxa];rfl
    have part2:(part f.type ys f.offset).run P w=.ok (.string a') w:=by
     unfold part;rw[run_bind,ag];dsimp only;rw[AH (by simp),f2];simp only[hya];rfl
    have hne:f.name ≠ "_":=by simpa using f1
    simp only[Op.eqFields];rw[AI hne,run_bind,part1];dsimp only;rw[run_bind,part2];dsimp only;rw[run_bind,run_equalIn_string w d f.type a a' f3];dsimp only;have ih:=XN d fs (i+1) l l' r f4 hr (by simpa using hl) (λj c hc=>by have:=hx (j+1) c (by simpa using hc);rwa [show i+(j+1)=i+1+j from by omega]at this)
     (λj c hc=>by have:=hy (j+1) c (by simpa using hc);rwa [show i+(j+1)=i+1+j from by omega]at this) (λj hj=>by have:=hin (j+1) (by simp;omega);omega)
    subst h;cases hb:BJ a a' with
    |true=>
     unfold BJ at hb;rw[hb];simpa using ih
    |false=>
     unfold BJ at hb;rw[hb];rfl
 | [],_,_::_,_,_,_,_,h,_,_,_=>by simp at h
 |_::_,_,[],_,_,_,_,h,_,_,_=>by simp at h
theorem nu {t:Nat}{i:A7}(h:Ef P t=some i)(hc:fg i.ti=true):∃u,P.underlying t=some u/\∀ms,u≠.interface ms:=by
 cases hk:i.ti with
 |int k=>exact⟨_,Yn h hk,by simp⟩
 |bool=>exact⟨_,YU h hk,by simp⟩
 |string=>exact⟨_,MK h hk,by simp⟩
 |struct fs=>obtain⟨a,h1,_⟩:=Tn h hk;exact⟨_,h1,by simp⟩
 |slice e a b c=>exact⟨_,(FJ h hk).1,by simp⟩
 |arr n e a=>obtain⟨a,h1,_⟩:=UY h hk;exact⟨_,h1,by simp⟩
 |ptr=>rw[hk]at hc;cases hc
 |other=>rw[hk]at hc;cases hc
theorem bY {tt:Nat->Option A7}{xt:Nat->Option XI}{o:Oper}{g:Operand->D}{ev:Operand->Value}{d:D}{p:Prop}(htt:C5 P tt)(hxt:M0 P xt)(hg:∀x,AW ρ O w (g x) (ev x))
  (h:Gs tt xt g o.op=some (d,p)) (hp:p):∃v,(execOp ev o).run P w=.ok (.value v) w/\AW ρ O w d v:=by
 unfold execOp;unfold Gs at h;split at h<;>try(cases h;done)
 ·rename_i t x ho
  simp only[ho];split at h<;>try(cases h;done)
  rename_i i hi;split at h<;>try(cases h;done)
  rename_i hc;cases h;obtain⟨u,h1,h2⟩:=nu (htt _ _ hi) hc;refine⟨.iface t (ev x),?_,.ifc (hg x)⟩;rw[run_bind]
  have:(Instr.makeInterface t (ev x)).run P w=.ok (.iface t (ev x)) w:=by
   unfold Instr.makeInterface;rw[run_bind,C6 h1];dsimp only;split
   ·rename_i ms;exact Ak rfl (h2 ms)
   ·rfl
  rw[this];rfl
 ·rename_i t x ix ok ho
  simp only[ho];split at h<;>try(cases h;done)
  rename_i k e z hi;split at h<;>try(cases h;done)
  rename_i ks vs hgx;split at h<;>try(cases h;done)
  rename_i s hgi;obtain⟨a1,a2,⟨inf,a3,a4⟩,a5⟩:=PF (hxt _ _ hi);have hx:=hg x;have hy:=hg ix;rw[hgx]at hx;rw[hgi]at hy;generalize ev x=vx at hx;generalize ev ix=vi at hy;cases hy;cases hx with
  |mp hO hr hb h1 h2 hB hk hv=>
   rename_i r clock es;have hc:(Instr.checkKey es.isEmpty 10000 k (.string s)).run P w=.ok () w:=MapKept.run_checkKey (k:=.string s) a2 (by simp[MapKept.IsKey]) _ 9999;have hz:(zeroValue e).run P w=.ok z w:=Qr a3 a4 w;have find:∀q,Ig s ks vs=some q->_:=λq hq=>YG (ρ:=ρ) (O:=O) (w:=w) (es:=es.toList) 0 hq (by simpa using h1) (by simpa using h2) (λj d hd=>by simpa[Av]using hk j d hd) (λj d hd=>by simpa[Av]using hv j d hd)
   have okR:∀(d:D) (v:Value) (b:Bool),AW ρ O w d v->AW ρ O w (Iu ok d b) (if ok then .tuple #[v,.bool b]else v):=by
    intro d v b hr;cases ok with
    |false=>exact hr
    |true=>
     refine .tup rfl λi d' hd=>?_
     match i with
     | 0=>simp at hd;subst hd;exact hr
     | 1=>simp at hd;subst hd;exact .prim _
     |n+2=>simp at hd
   split at h<;>try(cases h;done)
   ·rename_i d' hq
    cases h;obtain⟨j,v,hf,hr'⟩:=find _ hq;refine⟨_,?_,okR _ v true hr'⟩;rw[run_bind]
    have:(Instr.lookup t (.map (some r)) (.string s) ok).run P w=.ok (if ok then .tuple #[v,.bool true]else v) w:=by
     simp[Instr.lookup,C6 a1,MapKept.run_getObj_map hb,hc,MapKept.run_findKey a2 hf,Result.andThen]
    rw[this];rfl
   ·rename_i hq
    cases h;have hf:=find _ hq;refine⟨_,?_,okR _ z false (.ofV λi x hx=>.inl (a5 i x hx))⟩;rw[run_bind]
    have:(Instr.lookup t (.map (some r)) (.string s) ok).run P w=.ok (if ok then .tuple #[z,.bool false]else z) w:=by
     simp[Instr.lookup,C6 a1,MapKept.run_getObj_map hb,hc,MapKept.run_findKey a2 hf,hz,Result.andThen]
    rw[this];rfl
 ·rename_i op t x y yt ho
  simp only[ho];split at h<;>try(cases h;done)
  rename_i n hi;split at h<;>try(cases h;done)
  rename_i l hgx;split at h<;>try(cases h;done)
  rename_i l' hgy;split at h<;>try(cases h;done)
  rename_i b hb;split at h<;>try(cases h;done)
  rename_i c hn;cases h;obtain⟨fs,a1,a2,a3,a4,a5⟩:=lk (hxt _ _ hi);have hx:=hg x;have hy:=hg y;rw[hgx]at hx;rw[hgy]at hy;generalize ev x=vx at hx;generalize ev y=vy at hy;have hp:=CC hp;have hl':=Xx hb;cases hx with
  |agg n1 o1 r1=>
   cases hy with
   |agg n2 o2 r2=>
    rename_i xs ys;have eqf:P.fieldsOf t=fs:=by unfold Program.fieldsOf;rw[a1]
    have run:(Op.equalIn 10000 t (.agg xs) (.agg ys)).run P w=.ok b w:=by
     rw[show(10000:Nat)=9998+1+1 from rfl,run_equalIn_struct w _ t xs ys (by rw[eqf];exact a1) a2,eqf];exact XN (ρ:=ρ) (O:=O) 9998 fs.toList 0 l l' b a4 hb (by simp;omega) (λj c hc=>by rw[BV];exact r1 j c hc) (λj c hc=>by rw[BV];exact r2 j c hc)
      (λj hj=>by simp at hj;omega)
    refine⟨.bool c,?_,.prim _⟩;have r3:(do eqGuard op t x y (.agg xs) (.agg ys);binOp op t (.agg xs) (.agg ys):Sem Value).run P w=.ok (.bool c) w:=by
     rw[run_bind,run_eqGuard_agg w op t x y xs ys a3];dsimp only;unfold OW at hn;cases op<;>simp only[BP,reduceCtorEq]at hn
     ·subst hn;rw[run_eql_struct,run];rfl
     ·subst hn;rw[run_neq_struct,run];rfl
    rw[run_bind,r3];rfl
end
def Kx (tt:Nat->Option A7)(n k:Nat)(g:Operand->D):Op->Option (D×At×Prop)
 | .makeSlice t l c=>match tt t with
  |some i=>match i.ti with
   | .slice e esz eby ez=>match g l with
    | .prim (.int _ a)=>match g c with
     | .prim (.int _ b)=>some (.osl k n esz 0 a.toNat,⟨k,n,e,esz,List.replicate a.toNat (ofV ez)⟩,0<=a/\a<=b/\(eby:Int)*b<=281474976710656/\b<=9223372036854775807)
     |_=>none
    |_=>none
   |_=>none
  |none=>none
 |_=>none
section
variable {C:BA} {F:Ad} {s:St} {ops:Array Oper} {o:Oper} {os:List Oper} {K:St->Prop} {ρ:Lk} {H:Hp} {w:World}
theorem Za {α:Type}{n i:Nat}{x d:α}(h:(List.replicate n x)[i]?=some d):i<n/\x=d:=by
 rw[List.getElem?_replicate]at h;split at h
 ·rename_i hi;exact⟨hi,GV h⟩
 ·cases h
theorem r9 {tt:Nat->Option A7}{g:Operand->D}{ev:Operand->Value}{n k:Nat}{d:D}{e':At}{p:Prop}(htt:C5 C.P tt)(m:Am C F ρ H w)(fr:∀k,ρ k n=none)(hlt:∀e∈H,e.g≠n)
  (hg:∀x,AW ρ (AN F.X ρ H) w (g x) (ev x)) (h:Kx tt n k g o.op=some (d,e',p)) (hp:p):
  ∃v ρ' w',(execOp ev o).run C.P w=.ok (.value v) w'/\Jq C F H ρ w n d (some e') v ρ' w':=by
 unfold Kx at h;split at h<;>try(cases h;done)
 rename_i t l c ho;split at h<;>try(cases h;done)
 rename_i i hi;split at h<;>try(cases h;done)
 rename_i e esz eby ez hk;split at h<;>try(cases h;done)
 rename_i kl a hl;split at h<;>try(cases h;done)
 rename_i kc b hc;cases h;obtain⟨h0,hab,hby,hmx⟩:=hp;obtain⟨k1,⟨inf,k2,rfl,rfl,k5⟩,k6,k7⟩:=FJ (htt _ _ hi) hk;have h1:=hg l;have h2:=hg c;rw[hl]at h1;rw[hc]at h2;generalize hvl:ev l=vl at h1;generalize hvc:ev c=vc at h2;cases h1;cases h2;have run:=run_make (P:=C.P) w t e inf ez k1 k2 k5 kl kc a b h0 hab hby hmx;have hcell:∀q,q<b.toNat*inf.size->(madeCells ez.cells (b.toNat*inf.size)).getD q undef=ez.cells.getD (q%inf.size) undef/\q%inf.size<ez.cells.size:=λq hq=>by
  have hpos:0<inf.size:=by
   rcases D7 inf.size with h|h
   ·rw[h]at hq;simp at hq
   ·exact h
  have hm:q%ez.cells.size<ez.cells.size:=B7 _ (by omega);rw[k6]at hm;refine⟨?_,by omega⟩;unfold madeCells;simp only[Av,Array.getElem?_map];rw[B3 (by simpa using hq)];simp only[Array.getElem_range,J3,JT];rw[k6,getElem!_pos ez.cells (q%inf.size) (by omega),HQ];rfl
 have hec:(ofV ez).cells.length=inf.size/\∀(j:Nat) (c:D),(ofV ez).cells[j]?=some c->c=.prim (ez.cells.getD j undef):=by
  cases ez
  case tuple vs=>
   have:=k7 0 (.tuple vs) rfl
   simp[Ide.one]at this
  case agg vs=>
   refine⟨by simp only[ofV,D.cells,Ab,Ip];exact k6,λj c hc=>?_⟩;simp only[ofV,D.cells,Ay,Jv,E4]at hc;obtain⟨x,hx,rfl⟩:=hc;show D.prim x=.prim (vs.getD j undef);rw[Av,hx];rfl
  all_goals
   refine⟨k6,λj c hc=>?_⟩
   match j with
   | 0=>simp only[ofV,D.cells,TR,BP]at hc;subst hc;rfl
   |j+1=>simp[ofV,D.cells]at hc
 have hle:a.toNat<=b.toNat:=by omega
 have ho':DX ρ (AN F.X ρ H) w ⟨k,n,e,inf.size,List.replicate a.toNat (ofV ez)⟩ (madeCells ez.cells (b.toNat*inf.size)):=by
  refine⟨by simp only[Hn,size_madeCells];exact CV _ hle,λq d hd=>?_,λq v hv=>?_,λq d j c hd hcj=>?_⟩
  ·obtain⟨_,rfl⟩:=Za hd
   exact hec.1
  ·have hq:q<b.toNat*inf.size:=by have:=(DB.1 hv).1;rw[size_madeCells]at this;exact this
   obtain⟨c1,c2⟩:=hcell q hq;rw[Av,hv,JT,Av,B3 c2,JT]at c1;rw[c1];exact k7 _ _ (B3 c2)
  ·obtain⟨hq,rfl⟩:=Za hd
   have hj:j<inf.size:=by rw[<-hec.1];exact(BS.1 hcj).1
   rw[hec.2 j c hcj];dsimp only;have hlt2:q*inf.size+j<b.toNat*inf.size:=by
    have:(q+1)*inf.size<=b.toNat*inf.size:=CV _ (by omega)
    rw[Bz]at this;omega
   rw[(hcell _ hlt2).1,Ba,Nat.mul_add_mod,Ft hj];exact .prim _
 obtain⟨m1,x1⟩:=m.alloc ⟨k,n,e,inf.size,List.replicate a.toNat (ofV ez)⟩ _ (fr k) (λe' he' h=>hlt e' he' h.2) ho';refine⟨.slice (some ⟨w.heap.size,0,none⟩) a.toNat b.toNat,ρ.put k n w.heap.size,_,?_,m1,x1,λk' g' hg=>by unfold Lk.put;rw[AH λh=>hg h.2],?_⟩
 ·unfold execOp
  simp only[ho,hvl,hvc];rw[run_bind,run];rfl
 ·exact QS (b:=w.heap.size) (T:=e) (fz:=(0,0)) (Es _ _ _ _) (by rw[El];exact AI rfl) hle (by rw[size_madeCells]) (by simp only[maxLen];omega)
theorem qO {tt:Nat->Option A7}{n k:Nat}{g:Operand->D}{op:Op}{d:D}{e:At}{p:Prop}(h:Kx tt n k g op=some (d,e,p)):e.g=n:=by
 unfold Kx at h
 (repeat' split at h)<;>first|(cases h;done)|(cases h;rfl)
theorem jG {tt:Nat->Option A7}(k:Nat)(htt:C5 C.P tt){d:D}{e':At}{p:Prop}(hw:CJ ops s.env o=some true)(he:Kx tt s.n k (BG s.env) o.op=some (d,e',p))(hp:p)
  (h:BK C F ops os ⟨Bh s.env o.dst d,e'::s.H,s.n+1⟩ K):BK C F ops (o::os) s K:=
 BK.step hw (λρ a w hs=>by
  obtain⟨v,ρ',w',h1,h2⟩:=r9 htt hs.mem (λk=>hs.fresh k _ (Ar _)) (λe he=>Nat.ne_of_lt (hs.gen e he)) (Dh hs.env) he hp;refine⟨v,ρ',w',.inl h1,⟨h2.mem,h2.ext,λk g hg=>by rw[h2.far k g (by omega)];exact hs.fresh k g (by omega),h2.rep⟩,λe he2=>?_⟩;rcases A8.1 he2 with rfl|he2
  ·have:=qO he;omega
  ·exact Dd (hs.gen e he2)) h
theorem BK.l' {tt:Nat->Option A7}(k:Nat)(htt:C5 C.P tt){d:D}{ne:Option At}{p:Prop}(hw:CJ ops s.env o=some true)(he:Ev tt s.H s.n k (BG s.env) o.op=some (d,ne,p))(hp:p)
  (h:BK C F ops os ⟨Bh s.env o.dst d,DF ne s.H,s.n+1⟩ K):BK C F ops (o::os) s K:=
 BK.step hw (λρ a w hs=>by
  obtain⟨v,ρ',w',h1,h2⟩:=bW (λ_ h=>h) htt hs.mem (λk=>hs.fresh k _ (Ar _)) (λe he=>Nat.ne_of_lt (hs.gen e he)) (Dh hs.env) he hp;refine⟨v,ρ',w',.inl h1,⟨h2.mem,h2.ext,λk g hg=>by rw[h2.far k g (by omega)];exact hs.fresh k g (by omega),h2.rep⟩,λe he'=>?_⟩;cases ne with
  |none=>exact Dd (hs.gen e he')
  |some e'=>
   rcases A8.1 he' with rfl|he'
   ·have:=aP he
    omega
   ·exact Dd (hs.gen e he')) h
theorem BK.q {tt:Nat->Option A7}{xt:Nat->Option XI}(htt:C5 C.P tt)(hxt:M0 C.P xt){d:D}{p:Prop}(hw:CJ ops s.env o=some true)(he:Gs tt xt (BG s.env) o.op=some (d,p))(hp:p)
  (h:BK C F ops os ⟨Bh s.env o.dst d,s.H,s.n+1⟩ K):BK C F ops (o::os) s K:=
 BK.step hw (λρ a w hs=>by
  obtain⟨v,h1,h2⟩:=bY htt hxt (Dh hs.env) he hp;exact⟨v,ρ,w,.inl h1,.pure hs h2,λe he=>Dd (hs.gen e he)⟩) h
theorem Xs {f t:Nat}{name:String}{d0:D}{r:Operand}{args:Array Operand}{tys:Array Nat}{a:Act}(ho:o.op=.call ⟨.invoke r name,args,tys⟩)(hr:BG s.env r=.ifc t d0)
  (hm:∀v w,(method (C.P.types.size+Made.depth) t v name).run C.P w=.ok (f,v) w) (hcall:KA C.P f) (hs:Br C F ρ s a w):
  ∃vs,(execOp a.eval o).run C.P w=.ok (.enter f vs) w/\vs.size=(d0::args.toList.map (BG s.env)).length /\
   ∀(i:Nat) (d:D),(d0::args.toList.map (BG s.env))[i]?=some d->AW ρ (AN F.X ρ s.H) w d (vs.getD i undef):=by
 have hrr:=Dh hs.env r;rw[hr]at hrr;generalize hv:a.eval r=v at hrr;cases hrr with
 |ifc h0=>
  rename_i v0;refine⟨#[v0]++args.map a.eval,?_,by simp;omega,λi d hd=>?_⟩
  ·unfold execOp
   simp only[ho];rw[run_bind]
   have:(resolve a.eval ⟨.invoke r name,args,tys⟩ o.type).run C.P w=.ok { target:=.fn (.method name) #[],args:=#[.iface t v0]++args.map a.eval } w:=by
    unfold resolve;simp only[hv];rfl
   rw[this];dsimp only;unfold invoke;have g0:(#[Value.iface t v0]++args.map a.eval)[0]?=some (.iface t v0):=by rw[HM (by simp)];rfl
   have g1:(#[Value.iface t v0]++args.map a.eval).extract 1 (#[Value.iface t v0]++args.map a.eval).size=args.map a.eval:=by
    apply Array.ext_getElem?;intro q;rw[Array.getElem?_extract];simp only[Jz,Kp,Bu,Hm,Array.size_map];rw[HL (by simp)];simp only[Kp,Bu,Hm];split
    ·congr 1;omega
    ·rw[QV (by simp;omega)]
   simp only[g0,g1];unfold callMethod;simp only[];rw[run_bind,Qx];dsimp only;rw[run_bind,hm];dsimp only;exact Tm hcall _ w
  ·cases i with
   |zero=>
    simp at hd;subst hd
    have:(#[v0]++args.map a.eval).getD 0 undef=v0:=by rw[Av,HM (by simp)];rfl
    rw[this];exact h0
   |succ i=>
    simp only[Kq,Ay,Jv,E4]at hd;obtain⟨x,hx,rfl⟩:=hd
    have:(#[v0]++args.map a.eval).getD (i+1) undef=a.eval x:=by
     simp only[Av];rw[HL (by simp)];simp[hx]
    rw[this];exact Dh hs.env x
theorem e0N {f t:Nat}{name:String}{d0:D}{ds:List D}{r:Operand}{args:Array Operand}{tys:Array Nat}{Φ:D->Hp->Nat->Prop}(hw:CJ ops s.env o=some true)(ho:o.op=.call ⟨.invoke r name,args,tys⟩)(hr:BG s.env r=.ifc t d0)
  (hm:∀v w,(method (C.P.types.size+Made.depth) t v name).run C.P w=.ok (f,v) w) (hds:d0::args.toList.map (BG s.env)=ds) (hc:CX C f ds s.H s.n Φ)
  (h:∀d H' n',Φ d H' n'->BK C F ops os ⟨Bh s.env o.dst d,H',n'⟩ K):BK C F ops (o::os) s K:=by
 intro hd l hl ρ a w hs;cases l with
 |nil=>simp at hl
 |cons i l=>
  simp only[Cx,Eu]at hl;simp only[GX,BZ]at hd;obtain⟨vs,h1,h2,h3⟩:=Xs ho hr hm hc.1 hs;rw[hds]at h2 h3;simp only[wpOps,hl.1];rw[AI (MT hs.env hw)];refine .inl ?_;unfold Oper.wp;rw[h1];refine(hc.2 F ρ w vs hs.mem hs.fresh hs.gen h2 h3).mono ?_;rintro e w' ⟨v,d,H',n',ρ',rfl,hΦ,m,x,fr,g,r⟩;exact h d H' n' hΦ hd.2 l hl.2 ρ' (a.put o.dst v) w' (hs.put m x fr g r hd.1)
structure tT (es:Array MapEntry)(clock:Nat)(ks vs:List D):Prop where
 hB:KS es clock
 h1:es.size=ks.length
 h2:es.size=vs.length
 hk:∀(i:Nat) (d:D),ks[i]?=some d->∀ρ O w,AW ρ O w d (es.getD i default).key
 hv:∀(i:Nat) (d:D),vs[i]?=some d->∀ρ O w,AW ρ O w d (es.getD i default).val
theorem KS.push {es:Array MapEntry}{clock:Nat}(h:KS es clock)(k v:Value):KS (es.push { key:=k,val:=v,born:=clock }) (clock+1):=by
 refine⟨λi e he=>?_,λi j e e' he he' hb=>?_⟩
 ·rw[Qa]at he
  split at he
  ·cases he;exact IM _
  ·exact Dd (h.1 i e he)
 ·rw[Qa]at he he'
  split at he<;>split at he'
  ·omega
  ·cases he
   have:=h.1 j e' he'
   simp only at hb;omega
  ·cases he'
   have:=h.1 i e he
   simp only at hb;omega
  ·exact h.2 i j e e' he he' hb
def XK (C:BA)(F:Ad)(ops:Array Oper)(os:List Oper)(m:Nat)(ks vs:List D)(s:St)(K:St->Prop):Prop:=
 os.all (DY F.nt)=true->∀(l:List Nat),l.map (ops[·]?)=os.map some->∀ρ a w es clock,Br C F ρ s a w->a.tmps.getD m undef=.map (some w.heap.size)->m<a.tmps.size->tT es clock ks vs ->
  wpOps C.P ops (K5 C F K) l a (w.alloc (.map es clock))
theorem XK.done {m:Nat}{ks vs:List D}(h:BK C F ops os ⟨Bh s.env (some m) (.mp ks vs),s.H,s.n⟩ K):XK C F ops os m ks vs s K:=by
 intro hds l hl ρ a w es clock hs hm hlt hr;have hO:¬AN F.X ρ s.H w.heap.size:=λh'=>Ak (hs.mem.own_lt h') (Nat.lt_irrefl _)
 have x:=BX.allocPure (ρ:=ρ) (F:=F) (H:=s.H) (w:=w) (.map es clock);refine h hds l hl ρ a _ ⟨hs.mem.allocPure _,hs.fresh,hs.gen,λt=>?_,hs.nt,hs.dfr⟩;show AW _ _ _ (Ap.get ((m,.mp ks vs)::s.env) t) _;rw[JM]
 by_cases ht:m=t
 ·subst ht
  rw[AI rfl,hm];exact .mp hO (by simp) (by rw[El,AI rfl]) hr.h1 hr.h2 hr.hB (λi d hd=>hr.hk i d hd _ _ _) (λi d hd=>hr.hv i d hd _ _ _)
 ·rw[AH ht];exact(hs.env t).mono x
def LJ (C:BA)(f:Nat)(ds:List D)(d:D):Prop:=∀(ρ:Lk) (O:Nat->Prop) (w:World) (vs:Array Value),vs.size=ds.length->(∀(i:Nat) (x:D),ds[i]?=some x->AW ρ O w x (vs.getD i undef)) ->
 ∃v,(callFunc f vs).run C.P w=.ok (.value v) w/\AW ρ O w d v
theorem Xa {f:Nat}{g:Operand->D}{O:Nat->Prop}{first captured:List D}{fop:Operand}{args:Array Operand}{tys:Array Nat}{ρ:Lk}{a:Act}{w:World}(ho:o.op=.call ⟨.value fop,args,tys⟩)
  (hf:g fop=.clo (.func f) first captured) (hg:∀x,AW ρ O w (g x) (a.eval x)):
  ∃vs,(execOp a.eval o).run C.P w=(callFunc f vs).run C.P w/\vs.size=(first++args.toList.map g++captured).length /\
   ∀(i:Nat) (d:D),(first++args.toList.map g++captured)[i]?=some d->AW ρ O w d (vs.getD i undef):=by
 have hfr:=hg fop;rw[hf]at hfr;generalize hv:a.eval fop=v at hfr;cases hfr with
 |clo hn hc h1 h2=>
  rename_i fs cs;refine⟨fs++args.map a.eval++cs,?_,by simp[hn,hc],λi d hd=>?_⟩
  ·unfold execOp
   simp only[ho];rw[run_bind]
   have:(resolve a.eval ⟨.value fop,args,tys⟩ o.type).run C.P w=.ok { target:=.fn (.func f) cs,args:=fs++args.map a.eval } w:=by
    unfold resolve;simp only[hv];rfl
   rw[this];dsimp only;unfold invoke;rfl
  ·rw[Du]at hd
   rcases BE i first.length with hi|hi
   ·rw[GW hi]at hd
    have:(fs++args.map a.eval++cs).getD i undef=fs.getD i undef:=by
     simp only[Av];rw[NB,HM (by omega)]
    rw[this];exact h1 i d hd
   ·rw[FC hi]at hd
    rcases BE (i-first.length) args.size with hj|hj
    ·rw[GW (by simpa using hj)]at hd
     simp at hd;obtain⟨x,hx,rfl⟩:=hd
     have:(fs++args.map a.eval++cs).getD i undef=a.eval x:=by
      simp only[Av];rw[NB,HL (by omega),HM (by simp;omega),hn];simp[hx]
     rw[this];exact hg x
    ·rw[FC (by simpa using hj)]at hd
     have:(fs++args.map a.eval++cs).getD i undef=cs.getD (i-first.length-args.size) undef:=by
      simp only[Av];rw[NB,HL (by omega),HL (by simp;omega),hn];simp
     rw[this];exact h2 _ d (by simpa using hd)
theorem BK.nat {f:Nat}{first captured ds:List D}{fop:Operand}{args:Array Operand}{tys:Array Nat}{d:D}(hw:CJ ops s.env o=some true)(ho:o.op=.call ⟨.value fop,args,tys⟩)
  (hf:BG s.env fop=.clo (.func f) first captured) (hds:first++args.toList.map (BG s.env)++captured=ds) (hc:LJ C f ds d)
  (h:BK C F ops os ⟨Bh s.env o.dst d,s.H,s.n+1⟩ K):BK C F ops (o::os) s K:=
 BK.step hw (λρ a w hs=>by
  obtain⟨vs,h1,h2,h3⟩:=Xa (C:=C) (a:=a) ho hf (Dh hs.env);rw[hds]at h2 h3;obtain⟨v,h4,h5⟩:=hc _ _ _ vs h2 h3;exact⟨v,ρ,w,.inl (h1.trans h4),.pure hs h5,λe he=>Dd (hs.gen e he)⟩) h
theorem B9.nat {H:Hp}{g f:Nat}{env:Ap}{first captured ds:List D}{fop:Operand}{args:Array Operand}{tys:Array Nat}{d:D}(hw:CJ ops env o=some true)(ho:o.op=.call ⟨.value fop,args,tys⟩)
  (hf:BG env fop=.clo (.func f) first captured) (hds:first++args.toList.map (BG env)++captured=ds) (hc:LJ C f ds d):B9 C F ops H g env o d none:=by
 refine⟨by simp,λHe ρ a w m hsub fr hne hr=>.inr ⟨Hx hr hw,.inl ?_⟩⟩;obtain⟨g',h1,h2⟩:=IW hr;have hfop:fop∈o.op.operands:=by rw[ho];simp[Op.operands,Call.operands]
 have harg:∀x∈args.toList,BG env x=g' x:=λx hx=>h1 x (by rw[ho];simp[Op.operands,Call.operands];right;simpa using hx)
 rw[h1 fop hfop]at hf;rw[MD harg]at hds;obtain⟨vs,q1,q2,q3⟩:=Xa (C:=C) (g:=g') ho hf h2;rw[hds]at q2 q3;obtain⟨v,h4,h5⟩:=hc _ _ _ vs q2 q3;exact⟨v,ρ,w,q1.trans h4,m,.refl _ _ _,λ_ _ _=>rfl,h5⟩
end
def iT (op:BinOp)(k k':IntKind)(b:Int):Bool:=match op with
 | .quo | .rem=>decide (k=k') && !(decide (b=0))
 | .shl | .shr=>decide (0<=b)
 |_=>decide (k=k')
def Td (op:BinOp)(x y:Value):Bool:=match x,y with
 | .int k _,.int k' b=>iT op k k' b
 | .string a,.string b=>match op with
  | .add=>Nat.ble (a.size+b.size) 9223372036854775807
  |_=>true
 |_,_=>true
theorem fX {op:BinOp}{x y v:Value}{p:Prop}(h:OP op x y=some (v,p))(hk:Td op x y=true):p:=by
 unfold OP at h;unfold Td at hk;split at h
 ·dsimp only at hk
  unfold iT at hk;cases op<;>simp only[BP,Bn]at h<;>obtain⟨_,rfl⟩:=h<;>simpa using hk
 ·cases op<;>simp only[BP,Bn,reduceCtorEq]at h<;>obtain⟨_,rfl⟩:=h<;>first|trivial|(dsimp only at hk;exact Dm hk)
 ·cases h
def XA (ti:TI)(x y:D):Bool:=match ti,x,y with
 | .slice ..,.sl false _ es,.prim (.slice none _ _)=>!es.isEmpty
 |_,_,_=>true
theorem xj {ti:TI}{x y:D}{b:Bool}{p:Prop}(h:NG ti x y=some (b,p))(hk:XA ti x y=true):p:=by
 unfold NG at h;split at h<;>try(cases h;done)
 all_goals(simp only[BP,Bn]at h;obtain⟨_,rfl⟩:=h)
 all_goals first
  |trivial
  |(simp only[XA]at hk;intro he;subst he;simp at hk)
def WU (tt:Nat->Option A7)(op:BinOp)(t:Nat)(x y:D):Bool:=match x,y with
 | .prim (.int k a),.prim (.int k' b)=>Td op (.int k a) (.int k' b)
 | .prim (.string a),.prim (.string b)=>Td op (.string a) (.string b)
 |x,y=>match tt t with
  |some i=>XA i.ti x y
  |none=>true
theorem o7 {tt:Nat->Option A7}{op:BinOp}{t:Nat}{x y d:D}{p:Prop}(h:QE tt op t x y=some (d,p))(hk:WU tt op t x y=true):p:=by
 unfold QE at h;unfold WU at hk;split at h
 ·dsimp only at hk
  split at h<;>try(cases h;done)
  rename_i hb;cases h;exact fX hb hk
 ·dsimp only at hk
  split at h<;>try(cases h;done)
  rename_i hb;cases h;exact fX hb hk
 ·rename_i h1 h2
  split at hk
  ·exact Ak rfl (h1 _ _ _ _ rfl)
  ·exact Ak rfl (h2 _ _ rfl)
  ·split at h<;>try(cases h;done)
   rename_i i hi;split at h<;>try(cases h;done)
   rename_i b q hb;split at h<;>try(cases h;done)
   cases h;rw[hi]at hk;exact xj hb hk
def OF (ag:Bool)(sz:Nat)(d:D):Bool:=match ag with
 |true=>match d with
  | .agg ds=>Nat.beq ds.length sz
  |_=>false
 |false=>Nat.beq sz 1&&d.one
theorem PH {ag:Bool}{sz:Nat}{d:D}(h:OF ag sz d=true):Eg ag sz d:=by
 unfold OF at h;split at h
 ·split at h
  ·rw[<-CC h];exact Eg.agg
  ·cases h
 ·simp only[BZ]at h
  rw[CC h.1];exact TK h.2
def SF (fs:List (Nat×Nat×Bool))(g:Operand->D):List (Nat×Operand)->List D->Bool
 | [],_=>true
 |(i,x)::r,cs=>match fs[i]? with
  |some (o,sz,ag)=>OF ag sz (g x)&&Nat.ble (o+sz) cs.length&&SF fs g r (Fm cs o (FX ag (g x)))
  |none=>true
theorem Yc {fs:List (Nat×Nat×Bool)}{g:Operand->D}:∀ {ps:List (Nat×Operand)} {cs cs':List D} {p:Prop},H9 fs g ps cs=some (cs',p)->SF fs g ps cs=true->p
 | [],cs,cs',p,h,_=>by simp only[H9,BP,Bn]at h;obtain⟨_,rfl⟩:=h;trivial
 |(i,x)::r,cs,cs',p,h,hk=>by
  simp only[H9]at h;simp only[SF]at hk;cases hf:fs[i]? with
  |none=>simp[hf]at h
  |some q=>
   obtain⟨o,sz,ag⟩:=q;simp only[hf]at h hk;cases hr:H9 fs g r (Fm cs o (FX ag (g x)))with
   |none=>simp[hr]at h
   |some q=>
    obtain⟨c2,p2⟩:=q;simp only[hr,BP,Bn]at h;obtain⟨_,rfl⟩:=h;simp only[BZ]at hk;exact⟨⟨PH hk.1.1,Dm hk.1.2⟩,Yc hr hk.2⟩
def QN (n:Nat):D->Bool
 | .prim (.int _ x)=>decide (0<=x)&&decide (x<=n)
 |_=>true
theorem R0 {n m:Nat}{d:D}{p:Prop}(h:Le n d=some (m,p))(hk:QN n d=true):p:=by
 unfold Le at h;split at h
 ·simp only[BP,Bn]at h;obtain⟨_,rfl⟩:=h
  simpa[QN]using hk
 ·cases h
def P1 (n:Nat)(lo hi:Option D):Bool:=match hi with
 |none=>match lo with
  |none=>true
  |some l=>QN n l
 |some h=>QN n h&&(match Le n h with
  |some (m,_)=>match lo with
   |none=>true
   |some l=>QN m l
  |none=>true)
theorem Uo {n a b:Nat}{lo hi:Option D}{p:Prop}(h:I7 n lo hi=some (a,b,p))(hk:P1 n lo hi=true):p:=by
 unfold I7 at h;unfold P1 at hk;cases hi with
 |none=>
  cases lo with
  |none=>simp only[BP,Bn]at h;obtain⟨_,_,rfl⟩:=h;trivial
  |some l=>
   dsimp only at h hk;split at h<;>try(cases h;done)
   rename_i hb;cases h;exact R0 hb hk
 |some hh=>
  dsimp only at h hk;simp only[BZ]at hk;split at h<;>try(cases h;done)
  rename_i m q hb;rw[hb]at hk;cases lo with
  |none=>cases h;exact R0 hb hk.1
  |some l=>
   dsimp only at h hk;split at h<;>try(cases h;done)
   rename_i hb2;cases h;exact⟨R0 hb hk.1,R0 hb2 hk.2⟩
def VK (tt:Nat->Option A7)(t:Nat)(x:D)(lo hi:Option D):Bool:=match tt t with
 |some i=>match i.ti,x with
  | .string,.prim (.string s)=>P1 s.size lo hi
  | .slice _ esz _ _,.sl _ sz es=>P1 es.length lo hi&&Nat.beq esz sz
  | .slice _ esz _ _,.osl _ _ sz _ len=>P1 len lo hi&&Nat.beq esz sz&&(match I7 len lo hi with
   |some (l,h,_)=>Nat.blt l h||Nat.beq l 0
   |none=>true)
  |_,_=>true
 |none=>true
theorem ko {tt:Nat->Option A7}{t:Nat}{x d:D}{lo hi:Option D}{p:Prop}(h:Po tt t x lo hi=some (d,p))(hk:VK tt t x lo hi=true):p:=by
 unfold Po at h;unfold VK at hk;cases hi':tt t with
 |none=>simp[hi']at h
 |some i=>
  simp only[hi']at h hk;split at h<;>try(cases h;done)
  ·rename_i hti
   simp only[hti]at hk;split at h<;>try(cases h;done)
   rename_i hb;cases h;exact Uo hb hk
  ·rename_i hti
   simp only[hti,BZ]at hk;split at h<;>try(cases h;done)
   rename_i hb;cases h;exact⟨Uo hb hk.1,CC hk.2⟩
  ·rename_i hti
   simp only[hti,BZ]at hk;split at h<;>try(cases h;done)
   rename_i l hh q hb;cases h;simp only[hb]at hk;refine⟨Uo hb hk.1.1,CC hk.1.2,?_⟩
   have:=hk.2
   simp only[Kr]at this;exact this.imp Nat.blt_eq.mp CC
theorem Yq {k:IntKind}:∀ {r:List D} {a:Int} {d:D} {p:Prop},LQ k a r=some (d,p)->p
 | [],a,d,p,h=>by simp only[LQ,BP,Bn]at h;obtain⟨_,rfl⟩:=h;trivial
 |x::r,a,d,p,h=>by
  unfold LQ at h;split at h
  ·rename_i h1;cases h1
  ·rename_i h1;cases h1;exact Yq h
  ·cases h
theorem Yp {k:IntKind}:∀ {r:List D} {a:Int} {d:D} {p:Prop},LP k a r=some (d,p)->p
 | [],a,d,p,h=>by simp only[LP,BP,Bn]at h;obtain⟨_,rfl⟩:=h;trivial
 |x::r,a,d,p,h=>by
  unfold LP at h;split at h
  ·rename_i h1;cases h1
  ·rename_i h1;cases h1;exact Yp h
  ·cases h
theorem kz {tt:Nat->Option A7}{b:Builtin}{tys:List Nat}{args:List D}{d:D}{p:Prop}(h:PG tt b tys args=some (d,p)):p:=by
 unfold PG at h
 (repeat' split at h)<;>first|(cases h;done)|(cases h;trivial)|exact Yq h|exact Yp h
def NI (tt:Nat->Option A7)(g:Operand->D):Op->Bool
 | .pick c a b=>match g c with
  | .prim (.bool true)=>(IB (g a)).2
  | .prim (.bool false)=>(IB (g b)).2
  |_=>true
 | .build t ps=>match tt t with
  |some i=>match R1 i.ti with
   |some fs=>SF fs g ps.toList (i.zero.cells.toList.map .prim)
   |none=>true
  |none=>true
 | .binOp op t x y _=>WU tt op t (g x) (g y)
 | .slice t x lo hi none=>VK tt t (g x) (lo.map g) (hi.map g)
 | .indexAddr t x ix=>match tt t with
  |some i=>match i.ti,g ix with
   | .arr n _ _,.prim (.int _ j)=>decide (0<=j)&&decide (j<n)
   | .slice _ esz _ _,.prim (.int _ j)=>match g x with
    | .osl _ _ sz _ len=>decide (0<=j)&&decide (j<len)&&Nat.beq esz sz
    |_=>true
   |_,_=>true
  |none=>true
 | .index t x ix=>match tt t with
  |some i=>match i.ti,g x,g ix with
   | .string,.prim (.string s),.prim (.int _ j)=>decide (0<=j)&&decide (j<s.size)
   |_,_,_=>true
  |none=>true
 |_=>true
theorem fU {tt:Nat->Option A7}{g:Operand->D}{op:Op}{d:D}{p:Prop}(h:HO tt g op=some (d,p))(hk:NI tt g op=true):p:=by
 unfold HO at h;split at h<;>try(cases h;done)
 ·cases h;trivial
 ·cases h;trivial
 ·rename_i c a b
  simp only[NI]at hk;split at h<;>try(cases h;done)
  rename_i t hc;rw[hc]at hk;cases h;cases t
  ·exact⟨λh=>(by cases h),λ_=>hk⟩
  ·exact⟨λ_=>hk,λh=>(by cases h)⟩
 ·rename_i t ps
  simp only[NI]at hk;unfold Pj at h;split at h<;>try(cases h;done)
  rename_i i hi;simp only[hi]at hk;split at h<;>try(cases h;done)
  rename_i fs hf;simp only[hf]at hk;split at h<;>try(cases h;done)
  rename_i hfl;cases h;exact Yc hfl hk
 ·split at h<;>first|(cases h;done)|(cases h;trivial)
 ·exact o7 h hk
 ·split at h<;>first|(cases h;done)|(cases h;trivial)
 ·split at h<;>try(cases h;done)
  split at h<;>first|(cases h;done)|(cases h;trivial)
 ·cases h;trivial
 ·exact ko h hk
 ·(repeat' split at h)<;>first|(cases h;done)|(cases h;trivial)
 ·(repeat' split at h)<;>first|(cases h;done)|(cases h;trivial)
 ·rename_i t x ix
  simp only[NI]at hk;split at h<;>try(cases h;done)
  rename_i i hi;simp only[hi]at hk;split at h<;>try(cases h;done)
  ·rename_i h1 h2
   simp only[h1,h2]at hk;split at h<;>try(cases h;done)
   cases h;simpa using hk
  ·rename_i h1 h2
   simp only[h1,h2]at hk;split at h<;>try(cases h;done)
   rename_i h3;cases h;simp only[h3,BZ,HJ]at hk;exact⟨hk.1.1,hk.1.2,CC hk.2⟩
 ·rename_i t x ix
  simp only[NI]at hk;split at h<;>try(cases h;done)
  rename_i i hi;simp only[hi]at hk;split at h<;>try(cases h;done)
  rename_i h1 h2 h3;simp only[h1,h2,h3]at hk;cases h;simpa using hk
 ·(repeat' split at h)<;>first|(cases h;done)|(cases h;trivial)
 ·exact kz h
def OH (ag:Bool)(sz:Nat):List D->Bool
 | []=>true
 |d::l=>OF ag sz d&&OH ag sz l
theorem ZQ {ag:Bool}{sz:Nat}:∀ {l:List D},OH ag sz l=true->SO ag sz l
 | [],_=>trivial
 | [d],h=>by simp only[OH,BZ]at h;exact PH h.1
 |d::d'::l,h=>by simp only[OH,BZ]at h;exact⟨PH h.1,ZQ (by simp only[OH,BZ];exact h.2)⟩
def K3 (tt:Nat->Option A7)(H:Hp)(g:Operand->D):Op->Bool
 | .load t x=>match tt t with
  |some i=>match g x with
   | .optr k gg sz j off=>match Hp.get H k with
    |some e=>match e.es[j]? with
     |some d=>Nat.beq gg e.g&&Nat.beq sz e.sz&&(bif i.ag then Nat.ble (off+i.sz) d.cells.length else true)
     |none=>true
    |none=>true
   | .pptr d=>match i.ag with
    |true=>match d with
     | .agg ds=>Nat.beq ds.length i.sz
     |_=>true
    |false=>KP d
   |_=>true
  |none=>true
 | .box t x=>match tt t with
  |some i=>OF i.ag i.sz (g x)
  |none=>true
 | .buildSlice t len ps=>match tt t with
  |some i=>match i.ti with
   | .slice e esz _ _=>match len with
    | 0=>true
    |len+1=>match tt e with
     |some ie=>match Ji g 0 ps.toList with
      |some es=>OH ie.ag esz es&&Nat.beq es.length (len+1)&&Nat.ble ((len+1)*esz) 16777216&&Nat.ble 1 esz
      |none=>true
     |none=>true
   |_=>true
  |none=>true
 |_=>true
theorem Vw {tt:Nat->Option A7}{H:Hp}{n k:Nat}{g:Operand->D}{op:Op}{d:D}{ne:Option At}{p:Prop}(h:Ev tt H n k g op=some (d,ne,p))(hk:K3 tt H g op=true):p:=by
 unfold Ev at h;split at h<;>try(cases h;done)
 ·simp only[K3]at hk
  split at h<;>try(cases h;done)
  rename_i i hi;simp only[hi]at hk;split at h<;>try(cases h;done)
  ·rename_i h1
   simp only[h1]at hk;split at h<;>try(cases h;done)
   rename_i e he;simp only[he]at hk;split at h<;>try(cases h;done)
   rename_i d1 hd;simp only[hd]at hk;split at h<;>try(cases h;done)
   cases h;simp only[BZ]at hk;exact⟨CC hk.1.1,CC hk.1.2,hk.2⟩
  ·rename_i h1
   simp only[h1]at hk;split at h
   ·rename_i ha
    simp only[ha]at hk;split at h<;>try(cases h;done)
    cases h;exact hk
   ·rename_i ha
    simp only[ha]at hk;cases h;exact hk
 ·split at h<;>first|(cases h;done)|(cases h;trivial)
 ·simp only[K3]at hk
  split at h<;>try(cases h;done)
  rename_i i hi;simp only[hi]at hk;cases h;exact PH hk
 ·simp only[K3]at hk
  split at h<;>try(cases h;done)
  rename_i i hi;simp only[hi]at hk;split at h<;>try(cases h;done)
  rename_i h1;simp only[h1]at hk;split at h
  ·split at h<;>first|(cases h;done)|(cases h;trivial)
  ·dsimp only at hk
   split at h<;>try(cases h;done)
   rename_i h2;simp only[h2]at hk;split at h<;>try(cases h;done)
   rename_i h3;simp only[h3,BZ]at hk;cases h;exact⟨ZQ hk.1.1.1,CC hk.1.1.2,hk.1.2,hk.2⟩
def Tc (tt:Nat->Option A7)(H:Hp)(g:Operand->D):Op->Bool
 | .store t x y=>match tt t with
  |some i=>match g x with
   | .optr k gg sz _ off=>match Hp.get H k with
    |some e=>OF i.ag i.sz (g y)&&Nat.beq gg e.g&&Nat.beq sz e.sz&&Nat.ble (off+i.sz) e.sz
    |none=>true
   |_=>true
  |none=>true
 |_=>true
theorem fW {tt:Nat->Option A7}{H:Hp}{g:Operand->D}{op:Op}{k:Nat}{e':At}{p:Prop}(h:Fu tt H g op=some (k,e',p))(hk:Tc tt H g op=true):p:=by
 unfold Fu at h;split at h<;>try(cases h;done)
 simp only[Tc]at hk;split at h<;>try(cases h;done)
 rename_i i hi;simp only[hi]at hk;split at h<;>try(cases h;done)
 rename_i h1;simp only[h1]at hk;split at h<;>try(cases h;done)
 rename_i h2;simp only[h2,BZ]at hk;split at h<;>try(cases h;done)
 cases h;exact⟨PH hk.1.1.1,CC hk.1.1.2,CC hk.1.2,hk.2⟩
def WV (H:Hp)(esz:Nat):D->Bool
 | .sl _ sz _=>Nat.beq sz esz
 | .osl k g sz i len=>match Hp.get H k with
  |some e=>Nat.beq g e.g&&Nat.beq sz e.sz&&Nat.beq sz esz&&Nat.ble (i+len) e.es.length
  |none=>true
 |_=>true
theorem ZR {H:Hp}{esz:Nat}{d:D}{es:List D}{p:Prop}(h:Ii H esz d=some (es,p))(hk:WV H esz d=true):p:=by
 unfold Ii at h;split at h<;>try(cases h;done)
 ·cases h;exact CC hk
 ·simp only[WV]at hk
  split at h<;>try(cases h;done)
  rename_i h1;simp only[h1,BZ]at hk;cases h;exact⟨CC hk.1.1.1,CC hk.1.1.2,CC hk.1.2,Dm hk.2⟩
 ·cases h;trivial
def Qh (tt:Nat->Option A7)(H:Hp)(g:Operand->D):Op->Bool
 | .call ⟨.builtin .append,args,tys⟩=>match args.toList with
  | [s,x]=>match tys.toList with
   | [t,_]=>match tt t with
    |some i=>match i.ti with
     | .slice e esz eby _=>WV H esz (g x)&&Nat.ble 1 eby&&Nat.ble 1 esz&&(match Ii H esz (g x)with
      |some (news,_)=>match g s with
       | .osl k1 g1 sz _ len=>match Hp.get H k1 with
        |some e1=>Nat.beq g1 e1.g&&Nat.beq sz e1.sz&&Nat.beq sz esz&&Nat.beq e1.T e&&Nat.ble len e1.es.length&&Nat.ble ((len+news.length)*eby) 140737488355328
        |none=>true
       |_=>Nat.ble (news.length*eby) 140737488355328
      |none=>true)
     |_=>true
    |none=>true
   |_=>true
  |_=>true
 |_=>true
theorem Vv {tt:Nat->Option A7}{H:Hp}{n k:Nat}{g:Operand->D}{op:Op}{d:D}{H':Hp}{p:Prop}(h:EY tt H n k g op=some (d,H',p))(hk:Qh tt H g op=true):p:=by
 unfold EY at h;split at h<;>try(cases h;done)
 simp only[Qh]at hk;split at h<;>try(cases h;done)
 rename_i h1;simp only[h1]at hk;split at h<;>try(cases h;done)
 rename_i h2;simp only[h2]at hk;split at h<;>try(cases h;done)
 split at h<;>try(cases h;done)
 rename_i h3;simp only[h3]at hk;split at h<;>try(cases h;done)
 rename_i h4;simp only[h4]at hk;split at h<;>try(cases h;done)
 rename_i h5;simp only[h5,BZ]at hk;obtain⟨⟨⟨k1,k2⟩,k3⟩,k4⟩:=hk;split at h<;>try(cases h;done)
 ·rename_i h6
  simp only[h6]at k4;split at h<;>try(cases h;done)
  rename_i h7;simp only[h7,BZ]at k4;cases h;exact⟨ZR h5 k1,CC k4.1.1.1.1.1,CC k4.1.1.1.1.2,CC k4.1.1.1.2,CC k4.1.1.2,Dm k4.1.2,Dm k4.2,
   Dm k2,Dm k3⟩
 ·rename_i h6
  simp only[h6]at k4;cases h;exact⟨ZR h5 k1,Dm k4,Dm k2,Dm k3⟩
def XB (tt:Nat->Option A7)(g:Operand->D):Op->Bool
 | .makeSlice t l c=>match tt t with
  |some i=>match i.ti with
   | .slice _ _ eby _=>match g l with
    | .prim (.int _ a)=>match g c with
     | .prim (.int _ b)=>decide (0<=a)&&decide (a<=b)&&decide ((eby:Int)*b<=281474976710656)&&decide (b<=9223372036854775807)
     |_=>true
    |_=>true
   |_=>true
  |none=>true
 |_=>true
theorem xk {tt:Nat->Option A7}{n k:Nat}{g:Operand->D}{op:Op}{d:D}{e:At}{p:Prop}(h:Kx tt n k g op=some (d,e,p))(hk:XB tt g op=true):p:=by
 unfold Kx at h;split at h<;>try(cases h;done)
 simp only[XB]at hk;split at h<;>try(cases h;done)
 rename_i h1;simp only[h1]at hk;split at h<;>try(cases h;done)
 rename_i h2;simp only[h2]at hk;split at h<;>try(cases h;done)
 rename_i h3;simp only[h3]at hk;split at h<;>try(cases h;done)
 rename_i h4;simp only[h4,BZ,HJ]at hk;cases h;exact⟨hk.1.1.1,hk.1.1.2,hk.1.2,hk.2⟩
def Tb (xt:Nat->Option XI)(g:Operand->D):Op->Bool
 | .binOp _ t x _ _=>match xt t with
  |some (.strs n)=>match g x with
   | .agg l=>Nat.beq l.length n
   |_=>true
  |_=>true
 |_=>true
theorem fV {tt:Nat->Option A7}{xt:Nat->Option XI}{g:Operand->D}{op:Op}{d:D}{p:Prop}(h:Gs tt xt g op=some (d,p))(hk:Tb xt g op=true):p:=by
 unfold Gs at h;split at h<;>try(cases h;done)
 ·(repeat' split at h)<;>first|(cases h;done)|(cases h;trivial)
 ·(repeat' split at h)<;>first|(cases h;done)|(cases h;trivial)
 ·simp only[Tb]at hk
  split at h<;>try(cases h;done)
  rename_i h1;simp only[h1]at hk;split at h<;>try(cases h;done)
  rename_i h2;simp only[h2]at hk;split at h<;>try(cases h;done)
  split at h<;>try(cases h;done)
  split at h<;>try(cases h;done)
  cases h;exact hk
def Hs {α:Type}(n:Nat)(k:Nat->α):α:=match n with
 | 0=>k 0
 |m+1=>k (m+1)
def jV {α:Type}(z:Int)(k:Int->α):α:=match z with
 | .ofNat n=>match n with
  | 0=>k (.ofNat 0)
  |m+1=>k (.ofNat (m+1))
 | .negSucc n=>match n with
  | 0=>k (.negSucc 0)
  |m+1=>k (.negSucc (m+1))
def TY {α:Type}:List UInt8->(List UInt8->α)->α
 | [],k=>k []
 |b::l,k=>Hs b.toNat λn=>TY l λl'=>k (UInt8.ofNat n::l')
def W6 {α:Type}(v:Value)(k:D->α):α:=match v with
 | .int kd z=>jV z λz'=>k (.prim (.int kd z'))
 | .bool b=>match b with
  |true=>k (.prim (.bool true))
  |false=>k (.prim (.bool false))
 | .string s=>TY s.data.toList λl=>k (.prim (.string ⟨l.toArray⟩))
 |v=>k (.prim v)
def L8 {α:Type}(d:D)(k:D->α):α:=match d with
 | .prim v=>W6 v k
 | .osl a g sz i len=>Hs a λa=>Hs g λg=>Hs i λi=>Hs len λlen=>k (.osl a g sz i len)
 | .optr a g sz i off=>Hs a λa=>Hs g λg=>Hs i λi=>Hs off λoff=>k (.optr a g sz i off)
 |d=>k d
def On {α:Type}:List D->(List D->α)->α
 | [],k=>k []
 |d::l,k=>L8 d λd'=>On l λl'=>k (d'::l')
def Om {α:Type}(d:D)(k:D->α):α:=match d with
 | .agg l=>On l λl'=>k (.agg l')
 | .tup l=>On l λl'=>k (.tup l')
 | .sl nn sz es=>On es λes'=>k (.sl nn sz es')
 |d=>L8 d k
theorem Mi {α:Type}(n:Nat)(k:Nat->α):Hs n k=k n:=by cases n<;>rfl
theorem xA {α:Type}(z:Int)(k:Int->α):jV z k=k z:=by
 cases z with
 |ofNat n=>cases n<;>rfl
 |negSucc n=>cases n<;>rfl
theorem fE {α:Type}:∀(l:List UInt8) (k:List UInt8->α),TY l k=k l
 | [],_=>rfl
 |b::l,k=>by simp only[TY,Mi,fE l];congr 2;exact UInt8.ofNat_toNat
theorem wz {α:Type}(v:Value)(k:D->α):W6 v k=k (.prim v):=by
 unfold W6;split
 ·exact xA _ _
 ·rename_i b;cases b<;>rfl
 ·rw[fE]
 ·rfl
theorem fC {α:Type}(d:D)(k:D->α):L8 d k=k d:=by
 unfold L8;split
 ·exact wz _ _
 ·simp only[Mi]
 ·simp only[Mi]
 ·rfl
theorem SS {α:Type}:∀(l:List D) (k:List D->α),On l k=k l
 | [],_=>rfl
 |d::l,k=>by simp only[On,fC,SS l]
theorem Nq {α:Type}(d:D)(k:D->α):Om d k=k d:=by
 unfold Om;split
 ·exact SS _ _
 ·exact SS _ _
 ·exact SS _ _
 ·exact fC _ _
def Ij (f:D->Bool):List D->Bool
 | []=>true
 |d::l=>f d&&Ij f l
def SA (f:D->Bool):D->Bool
 | .agg l=>Ij f l
 |d=>f d
def H7:Nat->D->Bool
 | 0,_=>false
 |n+1,d=>match d with
  | .any=>true
  | .prim _=>true
  | .agg l=>Ij (H7 n) l
  | .tup l=>Ij (H7 n) l
  | .sl _ _ es=>Ij (SA (H7 n)) es
  | .pptr e=>SA (H7 n) e
  | .clo _ a b=>Ij (H7 n) a&&Ij (H7 n) b
  | .mp a b=>Ij (H7 n) a&&Ij (H7 n) b
  | .ifc _ d=>H7 n d
  |_=>false
theorem Jh {f:D->Bool}:∀ {l:List D},Ij f l=true->∀d∈l,f d=true
 | [],_,_,h=>by simp at h
 |x::l,h,d,hd=>by
  simp only[Ij,BZ]at h;rcases A8.1 hd with rfl|hd
  ·exact h.1
  ·exact Jh h.2 d hd
theorem YW {f:D->Bool}{d:D}(h:SA f d=true):∀c∈d.cells,f c=true:=by
 unfold SA at h;split at h
 ·exact Jh h
 ·rename_i hne
  intro c hc;cases d<;>simp only[D.cells,EJ]at hc<;>first|(subst hc;exact h)|exact Ak rfl (hne _)
theorem H5:∀ {n:Nat} {d:D},H7 n d=true->CE d
 | 0,_,h=>by cases h
 |n+1,d,h=>by
  simp only[H7]at h;split at h
  ·exact .any
  ·exact .prim _
  ·exact .agg λd hd=>H5 (Jh h d hd)
  ·exact .tup λd hd=>H5 (Jh h d hd)
  ·exact .sl λe he c hc=>H5 (YW (Jh h e he) c hc)
  ·exact .pptr λc hc=>H5 (YW h c hc)
  ·simp only[BZ]at h
   exact .clo (λd hd=>H5 (Jh h.1 d hd)) (λd hd=>H5 (Jh h.2 d hd))
  ·simp only[BZ]at h
   exact .mp (λd hd=>H5 (Jh h.1 d hd)) (λd hd=>H5 (Jh h.2 d hd))
  ·exact .ifc (H5 h)
  ·cases h
def Kh {α β:Type}(f:α->Option β):List α->Option (List β)
 | []=>some []
 |x::l=>match f x with
  |some y=>match Kh f l with
   |some r=>some (y::r)
   |none=>none
  |none=>none
theorem Nm {α β:Type}{f:α->Option β}:∀ {l:List α} {r:List β},Kh f l=some r->l.length=r.length/\∀(i:Nat) (x:α) (y:β),l[i]?=some x->r[i]?=some y->f x=some y
 | [],r,h=>by simp only[Kh,BP]at h;subst h;simp
 |x::l,r,h=>by
  simp only[Kh]at h;split at h<;>try(cases h;done)
  rename_i y hy;split at h<;>try(cases h;done)
  rename_i r' hr;cases h;obtain⟨h1,h2⟩:=Nm hr;refine⟨by simp[h1],λi a b ha hb=>?_⟩;cases i with
  |zero=>simp at ha hb;subst ha hb;exact hy
  |succ i=>exact h2 i a b (by simpa using ha) (by simpa using hb)
theorem Rj {α β:Type}{f:α->Option β}{l:List α}{r:List β}(h:Kh f l=some r):∀y∈r,∃x∈l,f x=some y:=λy hy=>by
 obtain⟨h1,h2⟩:=Nm h;obtain⟨i,hi,rfl⟩:=Od hy;exact⟨l[i]'(by omega),List.getElem_mem _,h2 i _ _ (Ce) (Bs hi)⟩
def Vk (f:D->Option D)(d:D):Option D:=match d with
 | .agg cs=>match Kh f cs with
  |some cs'=>some (.agg cs')
  |none=>none
 |d=>match f d with
  |some d'=>match KP d' with
   |true=>some d'
   |false=>none
  |none=>none
def Oo:Nat->Hp->D->Option D
 | 0,_,_=>none
 |n+1,H,d=>match d with
  | .agg l=>match Kh (Oo n H) l with
   |some l'=>some (.agg l')
   |none=>none
  | .tup l=>match Kh (Oo n H) l with
   |some l'=>some (.tup l')
   |none=>none
  | .osl k g sz i len=>match Hp.get H k with
   |some e=>match Nat.beq g e.g&&Nat.beq sz e.sz&&Nat.ble (i+len) e.es.length with
    |true=>match Kh (Vk (Oo n H)) ((e.es.drop i).take len)with
     |some es'=>some (.sl false sz es')
     |none=>none
    |false=>none
   |none=>none
  |d=>match H7 20 d with
   |true=>some d
   |false=>none
theorem XV {d:D}(h:KP d=true):d.cells=[d]:=by cases d<;>first|rfl|cases h
theorem UO {H:Hp}{f:D->Option D}(hf:∀d d',f d=some d'->Fz H [] d d'/\CE d'){d d':D}(h:Vk f d=some d'):
  d'.cells.length=d.cells.length/\(∀(q:Nat) (c c':D),d.cells[q]?=some c->d'.cells[q]?=some c'->Fz H [] c c')/\∀c∈d'.cells,CE c:=by
 unfold Vk at h;split at h
 ·rename_i cs
  split at h<;>try(cases h;done)
  rename_i cs' hm;cases h;obtain⟨h1,h2⟩:=Nm hm;refine⟨h1.symm,λq c c' hc hc'=>(hf _ _ (h2 q c c' hc hc')).1,λc hc=>?_⟩;obtain⟨x,_,hx⟩:=Rj hm c hc;exact(hf _ _ hx).2
 ·rename_i hne
  split at h<;>try(cases h;done)
  rename_i d1 hd;split at h<;>try(cases h;done)
  rename_i hn;cases h;have hc:d.cells=[d]:=XV (by cases d<;>first|rfl|exact Ak rfl (hne _));rw[hc,XV hn];refine⟨rfl,λq c c' h1 h2=>?_,λc hc=>?_⟩
  ·cases q with
   |zero=>simp at h1 h2;subst h1 h2;exact(hf _ _ hd).1
   |succ q=>simp at h1
  ·simp at hc;subst hc;exact(hf _ _ hd).2
theorem LY {H:Hp}:∀ {n:Nat} {d d':D},Oo n H d=some d'->Fz H [] d d'/\CE d'
 | 0,_,_,h=>by cases h
 |n+1,d,d',h=>by
  simp only[Oo]at h;split at h
  ·split at h<;>try(cases h;done)
   rename_i hm;cases h;obtain⟨h1,h2⟩:=Nm hm;refine⟨.agg h1 λi a b ha hb=>(LY (h2 i a b ha hb)).1,.agg λc hc=>?_⟩;obtain⟨x,_,hx⟩:=Rj hm c hc;exact(LY hx).2
  ·split at h<;>try(cases h;done)
   rename_i hm;cases h;obtain⟨h1,h2⟩:=Nm hm;refine⟨.tup h1 λi a b ha hb=>(LY (h2 i a b ha hb)).1,.tup λc hc=>?_⟩;obtain⟨x,_,hx⟩:=Rj hm c hc;exact(LY hx).2
  ·split at h<;>try(cases h;done)
   rename_i k g sz i len _ e he;split at h<;>try(cases h;done)
   rename_i hb;split at h<;>try(cases h;done)
   rename_i es' hm;cases h;simp only[BZ]at hb;obtain⟨⟨b1,b2⟩,b3⟩:=hb;have b3:=Dm b3;obtain⟨h1,h2⟩:=Nm hm;have hget:∀(j:Nat) (x:D),j<len->e.es[i+j]?=some x->((e.es.drop i).take len)[j]?=some x:=λj x hj hx=>by
    rw[FT,AI hj,HI];exact hx
   have hlen:es'.length=len:=by rw[<-h1];simp;omega
   refine⟨.osl he rfl (CC b1) (CC b2) b3 hlen (λj x y hx hy=>?_) (λj x y q c c' hx hy hc hc'=>?_),.sl λe' he' c hc=>?_⟩
   ·have hj:j<len:=by rw[<-hlen];exact(BS.1 hy).1
    exact(UO (λ_ _ h=>LY h) (h2 j x y (hget j x hj hx) hy)).1
   ·have hj:j<len:=by rw[<-hlen];exact(BS.1 hy).1
    exact(UO (λ_ _ h=>LY h) (h2 j x y (hget j x hj hx) hy)).2.1 q c c' hc hc'
   ·obtain⟨x,_,hx⟩:=Rj hm e' he'
    exact(UO (λ_ _ h=>LY h) hx).2.2 c hc
  ·split at h<;>try(cases h;done)
   rename_i hp;cases h;exact⟨.refl _,H5 hp⟩
structure WR where
 iw:Nat
 ia:Option Nat
 e:At
 e':At
 R:Hp
def WR.tail (W:WR)(L:Array Bool):Hp:=if L.getD W.iw false=true then W.e'::W.R else match W.ia with
 |none=>W.e::W.R
 |some ia=>if L.getD ia false=true then W.e::W.R else W.R
def WR.start (W:WR):Hp:=match W.ia with
 |none=>W.e::W.R
 |some _=>W.R
theorem jR {W:WR}{L:Array Bool}(h:Ls L W.iw):W.tail L=W.e'::W.R:=AI h
section
variable {C:BA} {F:Ad} {ops:Array Oper}
def I1 (C:BA)(F:Ad)(ops:Array Oper)(W:WR)(g:Nat)(env:Ap)(o:Oper)(d:D):Prop:=
 ∀(He:Hp) (ρ:Lk) (a:Act) (w:World),Am C F ρ (W.e::He) w->(∀x∈W.R,x∈He)->(∀k,ρ k g=none)->(∀x∈W.e::He,x.g≠g) ->
  (∀t∈o.looksAt ops,AW ρ (AN F.X ρ (W.e::He)) w (env.get t) (a.tmps.getD t undef)) ->
  Region.wanted o (yielded ops a.tmps)=true/\∃v ρ' w',((execOp a.eval o).run C.P w=.ok (.value v) w'\/((execOp a.eval o).run C.P w=.ok .skip w'/\v=undef)) /\
   Am C F ρ' (W.e'::He) w'/\BX ρ (AN F.X ρ (W.e::He)) w ρ' (AN F.X ρ' (W.e'::He)) w'/\(∀k g',g'≠g->ρ' k g'=ρ k g')/\AW ρ' (AN F.X ρ' (W.e'::He)) w' d v
theorem sM {l:List B8}(hn:(l.map (·.i)).Nodup){a b:B8}(ha:a∈l)(hb:b∈l)(he:a.i=b.i):a=b:=by
 induction l with
 |nil=>simp at ha
 |cons x l ih=>
  rw[Cx,List.nodup_cons]at hn;rcases A8.1 ha with h1|h1
  ·rcases A8.1 hb with h2|h2
   ·rw[h1,h2]
   ·exact Ak (Bx.2 ⟨b,h2,by rw[<-he,h1]⟩) hn.1
  ·rcases A8.1 hb with h2|h2
   ·exact Ak (Bx.2 ⟨a,h1,by rw[he,h2]⟩) hn.1
   ·exact ih hn.2 h1 h2
def OO (C:BA)(F:Ad)(ops:Array Oper)(W:WR)(g:Nat)(env:Ap)(r:B8):Prop:=
 (r.i≠W.iw/\W.ia≠some r.i/\((W.ia=none/\Dw ops W.iw r.i/\B9 C F ops (W.e::W.R) g env r.o r.d r.ne)\/B9 C F ops W.R g env r.o r.d r.ne))\/(r.i=W.iw/\W.ia≠some r.i/\r.ne=none/\I1 C F ops W g env r.o r.d) \/
  (r.i≠W.iw/\W.ia=some r.i/\r.ne=none/\B9 C F ops W.R g env r.o r.d (some W.e))
theorem OO.gen {W:WR}{g:Nat}{env:Ap}{r:B8}(h:OO C F ops W g env r):∀e,r.ne=some e->e.g=g:=by
 rcases h with⟨_,_,⟨_,_,h⟩|h⟩|⟨_,_,h,_⟩|⟨_,_,h,_⟩
 ·exact h.1
 ·exact h.1
 ·intro e he;rw[h]at he;cases he
 ·intro e he;rw[h]at he;cases he
theorem DI.nextG {H H':Hp}{n:Nat}{env:Ap}{A B:List B8}{r:B8}{L:Array Bool}{a:Act}{w:World}{ρ:Lk}{He:Hp}(h:DI C F H n env (A++r::B) L a w ρ He)(hi:r.i<L.size)(hn:¬Ls L r.i)
  (hnd:((A++r::B).map (·.i)).Nodup) (hdst:(A++r::B).Pairwise (λr r'=>∀t,r.o.dst=some t->r'.o.dst≠some t)) (hok:DY F.nt r.o=true) {v:Value} {ρ':Lk} {w':World} {He':Hp}
  (pm:Am C F ρ' He' w') (px:BX ρ (AN F.X ρ He) w ρ' (AN F.X ρ' He') w') (pf:∀k g',g'≠n+r.i->ρ' k g'=ρ k g') (pr:AW ρ' (AN F.X ρ' He') w' r.d v)
  (pp:He'.Perm ((A++r::B).filterMap (λr'=>if(L.setIfInBounds r.i true).getD r'.i false then r'.ne else none)++H')):
  DI C F H' n env (A++r::B) (L.setIfInBounds r.i true) (a.put r.o.dst v) w' ρ' He':=by
 have hset:∀j,Ls (L.setIfInBounds r.i true) j↔j=r.i\/Ls L j:=λj=>Ls.set hi
 have hne:∀r'∈A++B,r'.i≠r.i:=by
  simp only[Cz,Cx]at hnd;intro r' hr' he;rw[EM,List.nodup_cons]at hnd;rcases Bp.1 hr' with hr'|hr'
  ·exact hnd.2.2 r'.i (Bx.2 ⟨r',hr',rfl⟩) r.i (by simp) he
  ·exact hnd.2.1.1 (Bx.2 ⟨r',hr',he⟩)
 have hput:∀t,(a.put r.o.dst v).tmps.getD t undef=if r.o.dst=some t then v else a.tmps.getD t undef:=by
  intro t;cases hd:r.o.dst with
  |none=>simp[Act.put]
  |some k=>
   have hk:k<a.tmps.size:=by
    rw[h.nt];unfold DY at hok;rw[hd]at hok;exact Nat.blt_eq.mp hok
   show(a.tmps.setIfInBounds k v).getD t undef=_;rw[Av,Iq]
   by_cases hkt:k=t
   ·subst hkt;simp[hk]
   ·rw[AH hkt,AH (by simpa using hkt),<-Av]
 refine⟨pm,pp,λr' hr' hl t ht=>?_,λt ht=>?_,λk g hg hk=>?_,?_,?_⟩
 ·rw[hput]
  by_cases hrr:r'=r
  ·subst hrr;rw[AI ht];exact pr
  ·have hr2:r'∈A++B:=by
    rcases Bp.1 hr' with h|h
    ·simp[h]
    ·rcases A8.1 h with h|h
     ·exact Ak h hrr
     ·simp[h]
   have hl2:=((hset r'.i).1 hl).resolve_left (hne r' hr2);rw[AH]
   ·exact(h.reps r' hr' hl2 t ht).mono px
   ·intro hrt
    rw[Jx,EL]at hdst;rcases Bp.1 hr2 with h|h
    ·exact hdst.2.2 r' h r (by simp) t ht hrt
    ·exact hdst.2.1.1 r' h t hrt ht
 ·rw[hput,AH (ht r (by simp) ((hset r.i).2 (.inl rfl)))]
  exact(h.old t λr' hr' hl=>ht r' hr' ((hset r'.i).2 (.inr hl))).mono px
 ·by_cases hgr:g=n+r.i
  ·exact⟨r,by simp,(hset r.i).2 (.inl rfl),hgr⟩
  ·rw[pf k g hgr]at hk
   obtain⟨r',h1,h2,h3⟩:=h.fresh k g hg hk;exact⟨r',h1,(hset r'.i).2 (.inr h2),h3⟩
 ·cases r.o.dst<;>simp[Act.put,h.nt]
 ·cases r.o.dst<;>simp[Act.put,h.dfr]
theorem kI {W:WR}{Q:Exit->Act->World->Prop}{n:Nat}{env:Ap}{rs:List B8}{suf:List Nat}(ho:Mq ops rs suf)(hiw:W.iw<ops.size)(hwg:W.e'.g=W.e.g\/W.e'.g=n+W.iw)(hgen:∀e∈W.R,e.g<n)(hge:W.ia=none->W.e.g<n)(hga:∀ia,W.ia=some ia->W.e.g=n+ia/\Dw ops W.iw ia)(hd:∀r∈rs,DY F.nt r.o=true)
  (hst:∀A r B,rs=A++r::B->ops[r.i]?=some r.o/\OO C F ops W (n+r.i) (Ez A env) r)
  (hend:∀(L:Array Bool) (a:Act) (w:World) (ρ:Lk) (He:Hp),L.size=ops.size->(∀r∈rs,Ls L r.i)->DI C F (W.e'::W.R) n env rs L a w ρ He->wpOps C.P ops Q suf a w):
  (hw:∀ {L:Array Bool},(∀r∈rs,Ls L r.i)->Ls L W.iw)->∀(fuel:Nat) (L:Array Bool) (a:Act) (w:World) (ρ:Lk) (He:Hp),L.size=ops.size->((rs.map (·.i)++suf).filter (λi=>!L.getD i false)).length<=fuel->Cl ops L->(∀i∈suf,¬Ls L i) ->
   DI C F (W.tail L) n env rs L a w ρ He->wpAny C.P .any ops Q fuel L a w:=by
 intro hw fuel
 induction fuel with
 |zero=>
  intro L a w ρ He hL hf hc hs hi;have h0:(rs.map (·.i)++suf).filter (λi=>!L.getD i false)=[]:=FB (by omega);have hall:∀r∈rs,Ls L r.i:=λr hr=>by
   have:=List.filter_eq_nil_iff.1 h0 r.i (by simp;exact .inl ⟨r,hr,rfl⟩)
   simpa[Ls]using this
  have hsuf:suf=[]:=by
   apply List.eq_nil_iff_forall_not_mem.2;intro i hi2
   have:=List.filter_eq_nil_iff.1 h0 i (by simp[hi2])
   exact hs i hi2 (by simpa[Ls]using this)
  subst hsuf;refine ME [] 0 L a w hL (Ar _) (λi hi2=>⟨λ_=>by simp,λ_=>?_⟩) .nil (λA i B h=>by cases A<;>simp at h) (by simp) hc (hend L a w ρ He hL hall (by have h0:=hi;rw[jR (hw hall)]at h0;exact h0))
  have:=ho.all i hi2
  simp at this;obtain⟨r,hr,rfl⟩:=this;exact hall r hr
 |succ fuel ih=>
  intro L a w ρ He hL hf hc hs hi
  by_cases hall:∀r∈rs,Ls L r.i
  ·refine ME suf (fuel+1) L a w hL ?_ (λi hi2=>?_) ?_ (λA i B hAB=>⟨λj hj=>?_,λj hj=>ho.suf A i B hAB j (by simp[hj])⟩) (λi hi2=>ho.lt i (by simp[hi2])) hc (hend L a w ρ He hL hall (by have h0:=hi;rw[jR (hw hall)]at h0;exact h0))
   ·refine BY ?_ hf
    rw[List.filter_append,Be];rw[(List.filter_eq_self (l:=suf)).2 λi hi2=>by have:=hs i hi2;unfold Ls at this;simpa using this];omega
   ·constructor
    ·intro h1 h2;exact hs i h2 h1
    ·intro h1
     have:=ho.all i hi2
     rcases Bp.1 this with h|h
     ·obtain⟨r,hr,rfl⟩:=Bx.1 h;exact hall r hr
     ·exact Ak h h1
   ·exact(EM.1 ho.nodup).2.1
   ·have hA:=ho.first (rs.map (·.i)++A) i B (by simp[hAB]) j hj
    refine⟨ho.lt j (by rw[hAB];rcases Bp.1 hA with h|h<;>simp[h]),λhB=>?_⟩;have hnd:=ho.nodup;rw[hAB,<-Du,EM]at hnd;exact hnd.2.2 j hA j hB rfl
  ·have hnot:∃r∈rs,¬Ls L r.i:=by
    apply DH;intro hn;exact hall λr hr=>DH λh=>hn ⟨r,hr,h⟩
   have hLt:∀j,j<ops.size->(L.getD j true=true↔Ls L j):=λj hj=>by
    unfold Ls;rw[Av,Av,HQ];simp
   have hsome:Region.ready .any ops L≠[]:=by
    obtain⟨r0,hr0,hn0⟩:=hnot
    have:∀X:List B8,∀Y,rs=X++Y->(∃r∈Y,¬Ls L r.i)->(∀r∈X,Ls L r.i)->∃A r B,rs=A++r::B/\¬Ls L r.i/\∀r∈A,Ls L r.i:=by
     intro X Y
     induction Y generalizing X with
     |nil=>rintro _ ⟨r,hr,_⟩ _;simp at hr
     |cons y Y ihY=>
      intro hXY hex hX
      by_cases hy:Ls L y.i
      ·obtain⟨r,hr,hrn⟩:=hex
       rcases A8.1 hr with rfl|hr
       ·exact Ak hy hrn
       ·exact ihY (X++[y]) (by simp[hXY]) ⟨r,hr,hrn⟩ (λr hr=>by
         rcases Bp.1 hr with h|h
         ·exact hX r h
         ·simp at h;subst h;exact hy)
      ·exact⟨X,y,Y,hXY,hy,hX⟩
    obtain⟨A,r,B,h1,h2,h3⟩:=this [] rs rfl ⟨r0,hr0,hn0⟩ (by simp);intro hnil;have hrlt:=ho.lt r.i (by rw[h1];simp)
    have:r.i∈Region.ready .any ops L:=by
     rw[FM];refine⟨hrlt,?_,λj hj=>?_⟩
     ·cases hb:L.getD r.i true with
      |false=>rfl
      |true=>exact Ak ((hLt r.i hrlt).1 hb) h2
     ·have:=ho.first (A.map (·.i)) r.i (B.map (·.i)++suf) (by rw[h1];simp) j hj
      obtain⟨r',hr',rfl⟩:=Bx.1 this;exact h3 r' hr'
    rw[hnil]at this;simp at this
   refine⟨λh0=>Ak h0 hsome,λi hir=>?_⟩;obtain⟨hilt,hin,hid⟩:=FM.1 hir;have hnL:¬Ls L i:=λh=>by rw[(hLt i hilt).2 h]at hin;cases hin
   have hpre:i∈rs.map (·.i):=by
    rcases Bp.1 (ho.all i hilt)with h|h
    ·exact h
    ·obtain⟨A,B,hAB⟩:=EW h
     obtain⟨r0,hr0,hn0⟩:=hnot
     have:=Fw hL hc (ho.suf A i B hAB r0.i (II _ (Bx.2 ⟨r0,hr0,rfl⟩))) hid
     exact Ak this hn0
   obtain⟨r,hr,rfl⟩:=Bx.1 hpre;obtain⟨A,B,hAB⟩:=EW hr;obtain⟨hor,hstr⟩:=hst A r B hAB;have hset:∀j,Ls (L.setIfInBounds r.i true) j↔j=r.i\/Ls L j:=λj=>Ls.set (by omega)
   have hndr:(rs.map (·.i)).Nodup:=(EM.1 ho.nodup).1;have hgt:∀e∈W.tail L,(e∈W.R\/(e=W.e/\∀ia,W.ia=some ia->Ls L ia)\/(e=W.e'/\Ls L W.iw)):=λe he=>by
    unfold WR.tail at he
    by_cases hwl:L.getD W.iw false=true
    ·rw[AI hwl]at he
     rcases A8.1 he with rfl|he
     ·exact .inr (.inr ⟨rfl,hwl⟩)
     ·exact .inl he
    ·rw[AH hwl]at he
     cases hia:W.ia with
     |none=>
      rw[hia]at he;rcases A8.1 he with rfl|he
      ·exact .inr (.inl ⟨rfl,by simp⟩)
      ·exact .inl he
     |some ia=>
      rw[hia]at he;dsimp only at he
      by_cases hal:L.getD ia false=true
      ·rw[AI hal]at he
       rcases A8.1 he with rfl|he
       ·exact .inr (.inl ⟨rfl,λj hj=>by cases hj;exact hal⟩)
       ·exact .inl he
      ·rw[AH hal]at he
       exact .inl he
   have hfr:∀k,ρ k (n+r.i)=none:=λk=>by
    apply DH;intro hk;obtain⟨r',h1,h2,h3⟩:=hi.fresh k (n+r.i) (by omega) hk
    have:r'.i=r.i:=by omega
    rw[this]at h2;exact hnL h2
   have hne:∀e∈He,e.g≠n+r.i:=λe he hg=>by
    rcases Bp.1 (hi.perm.mem_iff.1 he)with h|h
    ·obtain⟨r',h1,h2⟩:=List.mem_filterMap.1 h
     split at h2
     ·rename_i hl
      obtain⟨A',B',hAB'⟩:=EW h1
      have:=(hst A' r' B' hAB').2.gen e h2
      have:r'.i=r.i:=by omega
      rw[this]at hl;exact hnL hl
     ·cases h2
    ·have hE:(∀ia,W.ia=some ia->Ls L ia)->W.e.g≠n+r.i:=λhal hg=>by
      cases hia:W.ia with
      |none=>have:=hge hia;omega
      |some ia=>
       have h1:=(hga ia hia).1
       have:ia=r.i:=by omega
       rw[<-this]at hnL;exact hnL (hal ia hia)
     rcases hgt e h with h|⟨rfl,hal⟩|⟨rfl,hl⟩
     ·have:=hgen e h;omega
     ·exact hE hal hg
     ·rcases hwg with h'|h'
      ·refine hE (λia hia=>?_) (by omega)
       refine Fw hL hc (hga ia hia).2 λk hk=>?_
       have hwl':Ls L W.iw:=hl;exact hc W.iw ((hLt W.iw hiw).2 hwl') hiw k hk
      ·have:W.iw=r.i:=by omega
       rw[this]at hl;exact hnL hl
   have go:∀(a':Act) (w':World) (ρ':Lk) (He':Hp),DI C F (W.tail (L.setIfInBounds r.i true)) n env rs (L.setIfInBounds r.i true) a' w' ρ' He'->wpAny C.P .any ops Q fuel (L.setIfInBounds r.i true) a' w':=by
    intro a' w' ρ' He' hn';refine ih _ _ _ ρ' He' (by simp[hL]) ?_ ?_ (λj hj=>?_) hn'
    ·have:((rs.map (·.i)++suf).filter (λi=>!(L.setIfInBounds r.i true).getD i false)).length<((rs.map (·.i)++suf).filter (λi=>!L.getD i false)).length:=by
      have sub:(rs.map (·.i)++suf).filter (λi=>!(L.setIfInBounds r.i true).getD i false)=((rs.map (·.i)++suf).filter (λi=>!L.getD i false)).filter (λi=>!Nat.beq i r.i):=by
       rw[List.filter_filter];apply List.filter_congr;intro x hx;have h1:=hset x;unfold Ls at h1
       by_cases hxr:x=r.i
       ·subst hxr
        have:(L.setIfInBounds r.i true).getD r.i false=true:=h1.2 (.inl rfl)
        simp[this]
       ·have hb:Nat.beq x r.i=false:=by
         cases hb:Nat.beq x r.i with
         |false=>rfl
         |true=>exact Ak (CC hb) hxr
        rw[hb]
        by_cases hlx:L.getD x false=true
        ·rw[h1.2 (.inr hlx),hlx];rfl
        ·have:¬(L.setIfInBounds r.i true).getD x false=true:=λh=>hlx ((h1.1 h).resolve_left hxr)
         simp only[Bool.not_eq_true]at this hlx;rw[this,hlx];rfl
      rw[sub];apply List.length_filter_lt_length_iff_exists.2;exact⟨r.i,by rw[List.mem_filter];exact⟨by simp;exact .inl ⟨r,hr,rfl⟩,by unfold Ls at hnL;simpa using hnL⟩,by simp⟩
     omega
    ·intro k hk2 hks x hx
     have hk3:Ls (L.setIfInBounds r.i true) k:=by
      unfold Ls;rw[Av,B3 (by simp;omega)]at hk2⊢;simpa using hk2
     show Ls _ x;rw[hset];rcases(hset k).1 hk3 with rfl|hk3
     ·exact .inr (hid x hx)
     ·exact .inr (hc k ((hLt k hks).2 hk3) hks x hx)
    ·rw[hset]
     rintro(rfl|h)
     ·have hnd:=ho.nodup
      rw[EM]at hnd;exact hnd.2.2 r.i (Bx.2 ⟨r,hr,rfl⟩) r.i hj rfl
     ·exact hs j hj h
   have hdst:=ho.dst;rw[hAB]at hdst hndr;have keep:∀ {α:Type} (j:Nat) (x y:α),j≠r.i->(if(L.setIfInBounds r.i true).getD j false=true then x else y)=(if L.getD j false=true then x else y):=λj x y hj=>by
    have:=hset j
    unfold Ls at this
    by_cases hl:L.getD j false=true
    ·rw[AI hl,AI (this.2 (.inr hl))]
    ·rw[AH hl,AH λh=>hl ((this.1 h).resolve_left hj)]
   have wset:r.i≠W.iw->W.ia≠some r.i->W.tail (L.setIfInBounds r.i true)=W.tail L:=λhr hr2=>by
    unfold WR.tail;rw[keep W.iw _ _ (Ne.symm hr)];cases hia:W.ia with
    |none=>rfl
    |some ia=>
     dsimp only;rw[keep ia _ _ λh=>hr2 (by rw[hia,h])]
   have next:r.i≠W.iw->W.ia≠some r.i->∀v ρ' w',Jq C F He ρ w (n+r.i) r.d r.ne v ρ' w'->wpAny C.P .any ops Q fuel (L.setIfInBounds r.i true) (a.put r.o.dst v) w':=by
    intro hriw hria v ρ' w' p;have hi':=hi;rw[hAB]at hi';have hn':=DI.next hi' (by omega) hnL hndr hdst (hd r hr) p;rw[<-hAB,<-wset hriw hria]at hn';exact go _ _ _ _ hn'
   unfold wpOp;simp only[hor];have hR:∀e∈W.R,e∈He:=λe he=>hi.perm.mem_iff.2 (by
    refine List.mem_append_right _ ?_;unfold WR.tail;cases W.ia<;>dsimp only<;>(repeat' split)<;>simp[he])
   have samefm:r.ne=none->∀ {fm:List At},(A++r::B).filterMap (λr'=>if L.getD r'.i false then r'.ne else none)=fm ->
     (A++r::B).filterMap (λr'=>if(L.setIfInBounds r.i true).getD r'.i false then r'.ne else none)=fm:=λhnone fm hfm=>by
    rw[<-hfm];refine KE λr' hr'=>?_
    by_cases hrr:r'.i=r.i
    ·have:r'=r:=sM hndr hr' (by simp) hrr
     subst this;rw[hnone];simp
    ·exact keep r'.i _ _ hrr
   rcases hstr with⟨hriw,hria,hstd⟩|⟨hriw,hria,hnone,hstw⟩|⟨hriw,hria,hnone,hstd⟩
   ·have hgo:∀Hr:Hp,(∀e∈Hr,e∈He)->B9 C F ops Hr (n+r.i) (Ez A env) r.o r.d r.ne->_:=λHr hsub hs=>hs.2 He ρ a w hi.mem hsub hfr hne (hi.look ho hL hc hAB hir)
    have fin:_:=(show(Region.wanted r.o (yielded ops a.tmps)=false/\r.ne=none/\AW ρ (AN F.X ρ He) w r.d undef)\/(Region.wanted r.o (yielded ops a.tmps)=true/\iZ C F He ρ w (n+r.i) r.d r.ne r.o a)from by
     rcases hstd with⟨hia,hre,hs⟩|hs
     ·refine hgo _ (λe he=>hi.perm.mem_iff.2 ?_) hs
      have hnw:¬L.getD W.iw false=true:=λhwl=>hnL (by
       refine Fw hL hc hre λk hk=>?_
       have hwl':Ls L W.iw:=hwl;exact hc W.iw ((hLt W.iw hiw).2 hwl') hiw k hk)
      unfold WR.tail;rw[AH hnw,hia];rcases A8.1 he with rfl|he
      ·simp
      ·simp[he]
     ·exact hgo _ hR hs)
    rcases fin with⟨hw0,hn0,hrep⟩|⟨hw0,hout⟩
    ·rw[AH (by rw[hw0];simp)]
     exact next hriw hria undef ρ w ⟨by rw[hn0];exact hi.mem,by rw[hn0];exact .refl _ _ _,λ_ _ _=>rfl,by rw[hn0];exact hrep⟩
    ·rw[AI hw0]
     refine .inl ?_;unfold Oper.wp;rcases hout with⟨v,ρ',w',h1,h2⟩|⟨f,vs,h1,h2⟩
     ·rw[h1];exact next hriw hria v ρ' w' h2
     ·rw[h1]
      refine h2.mono ?_;rintro e w' ⟨v,rfl,ρ',h3⟩;exact next hriw hria v ρ' w' h3
   ·
    have hnw:¬L.getD W.iw false=true:=λh=>hnL (by rw[hriw];exact h)
    generalize hfm:rs.filterMap (λr'=>if L.getD r'.i false then r'.ne else none)=fm at*;have hperm:He.Perm (W.e::(fm++W.R)):=by
     have h0:=hi.perm;have htl:W.tail L=W.e::W.R:=by
      unfold WR.tail;rw[AH hnw];cases hia:W.ia with
      |none=>rfl
      |some ia=>
       dsimp only;have hre:=(hga ia hia).2;rw[<-hriw]at hre;exact AI (Fw hL hc hre hid)
     rw[htl,hfm]at h0;exact h0.trans Hl
    have m1:=hi.mem.perm hperm;have ho1:=AN.perm (X:=F.X) (ρ:=ρ) hperm;obtain⟨hw0,v,ρ',w',hrun,m2,x2,far2,rep2⟩:=hstw (fm++W.R) ρ a w m1 (λe he=>by simp[he]) hfr (λe he=>hne e (hperm.mem_iff.2 he)) (λt ht=>by
     rw[<-ho1];exact hi.look ho hL hc hAB hir t ht)
    rw[<-ho1]at x2;have hi':=hi;rw[hAB]at hi' hfm;have nx:=DI.nextG (H':=W.e'::W.R) hi' (by omega) hnL hndr hdst (hd r hr) (v:=v) m2 x2 far2 rep2 (by
     rw[samefm hnone hfm];exact Hl.symm)
    have hwt:W.tail (L.setIfInBounds r.i true)=W.e'::W.R:=by
     exact AI ((hset W.iw).2 (.inl hriw.symm))
    rw[<-hAB,<-hwt]at nx;rw[AI hw0];refine .inl ?_;unfold Oper.wp;rcases hrun with hrun|⟨hrun,rfl⟩
    ·rw[hrun];exact go _ _ _ _ nx
    ·rw[hrun];exact go _ _ _ _ nx
   ·
    have htl:W.tail L=W.R:=by
     have hnw:¬L.getD W.iw false=true:=λhwl=>hnL (by
      refine Fw hL hc (hga r.i hria).2 λk hk=>?_
      have hwl':Ls L W.iw:=hwl;exact hc W.iw ((hLt W.iw hiw).2 hwl') hiw k hk)
     unfold WR.tail;rw[AH hnw,hria];exact AH hnL
    have hwt:W.tail (L.setIfInBounds r.i true)=W.e::W.R:=by
     have hnw:¬(L.setIfInBounds r.i true).getD W.iw false=true:=λhwl=>by
      rcases(hset W.iw).1 hwl with h|h
      ·exact hriw h.symm
      ·exact hnL (by
        refine Fw hL hc (hga r.i hria).2 λk hk=>?_
        exact hc W.iw ((hLt W.iw hiw).2 h) hiw k hk)
     unfold WR.tail;rw[AH hnw,hria];exact AI ((hset r.i).2 (.inl rfl))
    have nxt:∀v ρ' w',Jq C F He ρ w (n+r.i) r.d (some W.e) v ρ' w'->wpAny C.P .any ops Q fuel (L.setIfInBounds r.i true) (a.put r.o.dst v) w':=λv ρ' w' p=>by
     have hi':=hi;rw[hAB]at hi';have nx:=DI.nextG (H':=W.e::W.R) hi' (by omega) hnL hndr hdst (hd r hr) (v:=v) p.mem p.ext p.far p.rep (by
      rw[samefm hnone rfl];have h0:=hi'.perm;rw[htl]at h0;exact(List.Perm.cons W.e h0).trans Hl.symm)
     rw[<-hAB,<-hwt]at nx;exact go _ _ _ _ nx
    rcases hstd.2 He ρ a w hi.mem hR hfr hne (hi.look ho hL hc hAB hir)with⟨hw0,hn0,hrep⟩|⟨hw0,hout⟩
    ·cases hn0
    ·rw[AI hw0]
     refine .inl ?_;unfold Oper.wp;rcases hout with⟨v,ρ',w',h1,h2⟩|⟨f,vs,h1,h2⟩
     ·rw[h1];exact nxt v ρ' w' h2
     ·rw[h1]
      refine h2.mono ?_;rintro e w' ⟨v,rfl,ρ',h3⟩;exact nxt v ρ' w' h3
inductive JG (C:BA)(F:Ad)(ops:Array Oper)(W:WR)(n:Nat):List Nat->Ap->Hp->Ap->Hp->Prop
 |nil (env:Ap) (N:Hp):JG C F ops W n [] env N env N
 |cons {i:Nat} {l:List Nat} {o:Oper} {d:D} {ne:Option At} {env env':Ap} {N N':Hp} (ho:ops[i]?=some o) (hs:OO C F ops W (n+i) env ⟨i,o,d,ne⟩)
   (h:JG C F ops W n l (Bh env o.dst d) (DF ne N) env' N'):JG C F ops W n (i::l) env N env' N'
theorem JG.recs {W:WR}{n:Nat}{l:List Nat}{env env':Ap}{N N':Hp}(h:JG C F ops W n l env N env' N'):
  ∃rs:List B8,rs.map (·.i)=l/\env'=Ez rs env/\N'=OG rs N /\
   ∀A r B,rs=A++r::B->ops[r.i]?=some r.o/\OO C F ops W (n+r.i) (Ez A env) r:=by
 induction h with
 |nil env N=>exact⟨[],rfl,rfl,rfl,λA r B h=>by cases A<;>simp at h⟩
 | @cons i l o d ne env env' N N' ho hs _ ih=>
  obtain⟨rs,h1,h2,h3,h4⟩:=ih;refine⟨⟨i,o,d,ne⟩::rs,by simp[h1],h2,h3,λA r B hr=>?_⟩;cases A with
  |nil=>
   simp only[Ei,Eu]at hr;obtain⟨rfl,rfl⟩:=hr;exact⟨ho,hs⟩
  |cons r0 A=>
   simp only[EU,Eu]at hr;obtain⟨rfl,rfl⟩:=hr;exact h4 A r B rfl
theorem jD {W:WR}{s:St}{Q:Exit->St->Prop}{pre suf:List Nat}{envF:Ap}{N:Hp}(hc:HZ ops pre suf=true)
  (hH:s.H.Perm W.start) (hga:∀ia,W.ia=some ia->W.e.g=s.n+ia/\Dw ops W.iw ia/\ia∈pre) (hiw:W.iw∈pre) (hwg:W.e'.g=W.e.g\/W.e'.g=s.n+W.iw)
  (hpre:JG C F ops W s.n pre s.env [] envF N)
  (h:BK C F ops (suf.map λj=>ops.getD j default) ⟨envF,N++W.e'::W.R,s.n+ops.size⟩ (Q .normal)) (hd:ops.toList.all (DY F.nt)=true) (ρ:Lk) (a:Act) (w:World) (hs:Br C F ρ s a w):
  wpAny C.P .any ops (K5 C F (Q .normal)) ops.size (Array.replicate ops.size false) a w.drew:=by
 obtain⟨rs,h1,h2,h3,h4⟩:=hpre.recs;have hor:∀r∈rs,ops[r.i]?=some r.o:=λr hr=>by
  obtain⟨A,B,hAB⟩:=EW hr;exact(h4 A r B hAB).1
 have ho:=RR h1 hor hc;have hds:∀r∈rs,DY F.nt r.o=true:=λr hr=>by
  refine CW.1 hd r.o ?_
  have:=hor r hr
  exact IH.2 (Io this)
 have hrep:∀j,(Array.replicate ops.size false).getD j false=false:=λj=>by
  rw[Av];rw[L0];split<;>rfl
 have hnL:∀j,¬Ls (Array.replicate ops.size false) j:=λj hj=>by unfold Ls at hj;rw[hrep]at hj;cases hj
 have hgen:∀e∈W.R,e.g<s.n:=λe he=>hs.gen e (hH.mem_iff.2 (by unfold WR.start;cases W.ia<;>simp[he]))
 have hge:W.ia=none->W.e.g<s.n:=λhia=>hs.gen _ (hH.mem_iff.2 (by unfold WR.start;rw[hia];simp))
 have hlw:=ho.lt W.iw (by rw[h1];simp[hiw]);have htl:W.tail (Array.replicate ops.size false)=W.start:=by
  unfold WR.tail WR.start;rw[AH (by rw[hrep];simp)];cases W.ia with
  |none=>rfl
  |some ia=>exact AH (by rw[hrep];simp)
 have hin:DI C F (W.tail (Array.replicate ops.size false)) s.n s.env rs (Array.replicate ops.size false) a w.drew ρ s.H:=by
  refine⟨hs.mem.drew,?_,λr _ hl=>Ak hl (hnL _),λt _=>(hs.env t).mono (.drew _ _ _),λk g hg hk=>Ak (hs.fresh k g hg) hk,hs.nt,hs.dfr⟩
  have:rs.filterMap (λr=>if(Array.replicate ops.size false).getD r.i false then r.ne else none)=[]:=by
   rw[TO];intro r _;rw[hrep];rfl
  rw[this,htl];exact hH
 refine kI ho hlw hwg hgen hge (λia h=>⟨(hga ia h).1,(hga ia h).2.1⟩) hds h4 ?_ (λhall=>by
  rw[<-h1]at hiw;obtain⟨r,hr,he⟩:=Bx.1 hiw;rw[<-he];exact hall r hr) ops.size _ a w.drew ρ s.H (by simp) ?_ ?_ (λj _=>hnL j) hin
 ·intro L a' w' ρ' He hL hall hi
  have hN:He.Perm (N++W.e'::W.R):=by
   refine hi.perm.trans (List.Perm.append_right _ ?_);have e:rs.filterMap (λr=>if L.getD r.i false then r.ne else none)=rs.filterMap (·.ne):=KE λr hr=>by
    have:=hall r hr;unfold Ls at this;rw[this];rfl
   rw[e,h3]
   have:=MH rs []
   rw[De]at this;exact this.symm
  refine h ?_ suf ?_ ρ' a' w' ⟨hi.mem.perm hN,?_,?_,λt=>?_,hi.nt,hi.dfr⟩
  ·rw[CW]
   intro o' ho';obtain⟨j,hj,rfl⟩:=Bx.1 ho';have hlt:=ho.lt j (by simp[hj]);refine CW.1 hd _ ?_;rw[Av,B3 hlt];simp
  ·rw[List.map_map]
   refine Qc λj hj=>?_
   have hlt:=ho.lt j (by simp[hj]);simp[Av,B3 hlt]
  ·intro k g hg
   apply DH;intro hk;obtain⟨r,hr,_,he⟩:=hi.fresh k g (by simp at hg;omega) hk
   have:=ho.lt r.i (by simp;exact .inl ⟨r,hr,rfl⟩)
   simp at hg;omega
  ·intro e he
   rcases Bp.1 he with he|he
   ·rw[h3]at he
    have he:=(MH rs []).mem_iff.1 he;rw[De]at he;obtain⟨r,hr,hre⟩:=List.mem_filterMap.1 he;obtain⟨A,B,hAB⟩:=EW hr
    have:=(h4 A r B hAB).2.gen e hre
    have:=ho.lt r.i (by simp;exact .inl ⟨r,hr,rfl⟩)
    show e.g<s.n+ops.size;omega
   ·show e.g<s.n+ops.size
    rcases A8.1 he with rfl|he
    ·have hE:W.e.g<s.n+ops.size:=by
      cases hia:W.ia with
      |none=>have:=hge hia;omega
      |some ia=>
       obtain⟨q1,_,q3⟩:=hga ia hia
       have:=ho.lt ia (by rw[h1];simp[q3])
       omega
     rcases hwg with h|h<;>omega
    ·have:=hgen e he
     omega
  ·show AW ρ' (AN F.X ρ' (N++W.e'::W.R)) w' (envF.get t) _
   rw[<-AN.perm hN,h2]
   by_cases hw:∃r∈rs,r.o.dst=some t
   ·obtain⟨r,hr,hrd⟩:=hw
    rw[MX rs s.env t ho.dst r hr hrd];exact hi.reps r hr (hall r hr) t hrd
   ·rw[Jb rs s.env t λr hr hrd=>hw ⟨r,hr,hrd⟩]
    exact hi.old t λr hr _ hrd=>hw ⟨r,hr,hrd⟩
 ·refine BY (List.length_filter_le _ _) ?_
  have hsub:∀(l:List Nat) (n:Nat),l.Nodup->(∀x∈l,x<n)->l.length<=n:=by
   intro l n
   induction n generalizing l with
   |zero=>intro _ h;cases l with
    |nil=>simp
    |cons x l=>exact Ak (h x (by simp)) (by omega)
   |succ n ihn=>
    intro hnd hlt;have h1:=ihn (l.erase n) (hnd.erase n) λx hx=>by
     have:=hlt x (List.mem_of_mem_erase hx)
     have:x≠n:=λh=>by subst h;exact(TQ hnd) hx
     omega
    have:=List.length_erase (a:=n) (l:=l)
    split at this<;>omega
  exact hsub _ _ ho.nodup ho.lt
 ·intro k hk
  have:k<ops.size\/¬k<ops.size:=by omega
  rcases this with hlt|hlt
  ·rw[Av,L0,AI hlt]at hk;cases hk
  ·intro h;exact Ak h hlt
theorem oC {P:Program}{o:Oper}{a:Act}{R R':Exit->Act->World->Prop}{K K':Act->World->Prop}(hk:∀a w,K a w->K' a w)(h:∀e a w,R e a w->R' e a w):∀r,o.upon P a K R r->o.upon P a K' R' r:=λr hr=>by
 unfold Oper.upon at hr⊢;split at hr
 ·exact hk _ _ hr
 ·exact hk _ _ hr
 ·exact hk _ _ hr
 ·refine hr.mono ?_
  intro e w'' q;cases e with
  |returned v=>exact hk _ _ q
  |panicked c=>exact h _ _ _ q
  |outgrown=>obtain⟨a,w,q⟩:=q;exact⟨a,w,h _ _ _ q⟩
 ·exact λc cs=>by
   obtain⟨v,w',h1,h2⟩:=hr c cs;exact⟨v,w',hk _ _ h1,h2⟩
 ·exact h _ _ _ hr
 ·exact hr.elim
theorem Q3 {P:Program}{R R':Exit->Act->World->Prop}(h:∀e a w,R e a w->R' e a w):∀(fuel:Nat) (L:Array Bool) (a:Act) (w:World),wpAny P .any ops R fuel L a w->wpAny P .any ops R' fuel L a w
 | 0,L,a,w,hh=>⟨hh.1,h _ _ _ hh.2⟩
 |fuel+1,L,a,w,hh=>⟨λh0=>h _ _ _ (hh.1 h0),λi hi=>by
   have hq:=hh.2 i hi;unfold wpOp at hq⊢;split
   ·rename_i ho;simp only[ho]at hq;exact Q3 h _ _ _ _ hq
   ·rename_i o ho
    simp only[ho]at hq;split
    ·rename_i hw
     rw[AI hw]at hq;rcases hq with hq|⟨h1,a,w,h2⟩
     ·exact .inl (oC (λa w=>Q3 h _ _ a w) h _ hq)
     ·exact .inr ⟨h1,a,w,h _ _ _ h2⟩
    ·rename_i hw
     rw[AH hw]at hq;exact Q3 h _ _ _ _ hq⟩
theorem e0F {W:WR}{i:Nat}{s:St}{Q:Exit->St->Prop}{pre suf:List Nat}{envF:Ap}{N:Hp}(hm:C.P.follows .mixedOrders=true)(hc:HZ ops pre suf=true)
  (hH:s.H.Perm W.start) (hga:∀ia,W.ia=some ia->W.e.g=s.n+ia/\Dw ops W.iw ia/\ia∈pre) (hiw:W.iw∈pre) (hwg:W.e'.g=W.e.g\/W.e'.g=s.n+W.iw)
  (hpre:JG C F ops W s.n pre s.env [] envF N)
  (h:BK C F ops (suf.map λj=>ops.getD j default) ⟨envF,N++W.e'::W.R,s.n+ops.size⟩ (Q .normal)):Ok C F (.region i ops true) s Q:=λhd ρ a w hs=>by
 refine wp_region_any hm (Q3 (λe a w h=>?_) _ _ _ _ (jD hc hH hga hiw hwg hpre h hd ρ a w hs));obtain⟨rfl,s',ρ',h1,h2⟩:=h;exact⟨s',ρ',h1,h2⟩
theorem mP {tt:Nat->Option A7}{H:Hp}{g g':Operand->D}{op:Op}(h:∀x∈op.operands,g x=g' x):Fu tt H g op=Fu tt H g' op:=by
 cases op<;>simp only[Op.operands]at h<;>try rfl
 case store t x y=>simp only[Fu];rw[h x (by simp),h y (by simp)]
theorem oy {tt:Nat->Option A7}{e:At}{He:Hp}{g:Operand->D}{op:Op}{k:Nat}{e':At}{p:Prop}(h:Fu tt [e] g op=some (k,e',p)):
  Fu tt (e::He) g op=some (k,e',p)/\Hp.set (e::He) k e'=e'::He/\e'.g=e.g:=by
 unfold Fu at h;split at h<;>try(cases h;done)
 rename_i t x y;simp only[Fu];split at h<;>try(cases h;done)
 rename_i i hi
 try simp only[hi]
 split at h<;>try(cases h;done)
 rename_i h1
 try simp only[h1]
 split at h<;>try(cases h;done)
 rename_i e1 h2;have hb:Nat.beq e.k k=true/\e1=e:=by
  split at h<;>try(cases h;done)
  cases h;simp only[Hp.get]at h2;split at h2
  ·rename_i hb;cases h2;exact⟨hb,rfl⟩
  ·cases h2
 have hget:∀k0,Hp.get [e] k0=some e1->Hp.get (e::He) k0=some e1:=λk0 hk=>by
  simp only[Hp.get]at hk⊢;split at hk
  ·exact hk
  ·cases hk
 try rw[hget _ h2]
 split at h<;>try(cases h;done)
 rename_i h3;cases h;refine⟨by first|rfl|simp only[h3],?_,by rw[hb.2]⟩;simp only[Hp.set,hb.1]
theorem I1.store {W:WR}{g:Nat}{env:Ap}{o:Oper}{tt:Nat->Option A7}(htt:C5 C.P tt){k:Nat}{p:Prop}(hw:CJ ops env o=some true)(he:Fu tt [W.e] (BG env) o.op=some (k,W.e',p))(hp:p):
  I1 C F ops W g env o (.prim (.tuple #[])):=λHe ρ a w m _ _ _ hr=>by
 refine⟨Hx hr hw,?_⟩;obtain⟨g',h1,h2⟩:=IW hr;rw[mP h1]at he;obtain⟨q1,q2,_⟩:=oy (He:=He) he;obtain⟨w',r1,r2,r3,_⟩:=Ym (s:=⟨[],W.e::He,0⟩) htt m h2 q1 hp;simp only[q2]at r2 r3;exact⟨undef,ρ,w',.inr ⟨r1,rfl⟩,r2,r3,λ_ _ _=>rfl,.prim _⟩
theorem UM {tt:Nat->Option A7}{H:Hp}{n k:Nat}{g g':Operand->D}{op:Op}(h:∀x∈op.operands,g x=g' x):EY tt H n k g op=EY tt H n k g' op:=by
 unfold EY;split
 ·rename_i args tys
  cases hargs:args.toList with
  |nil=>rfl
  |cons s r=>
   cases r with
   |nil=>rfl
   |cons x r=>
    cases r with
    |nil=>
     have hs:s∈args.toList:=by rw[hargs];simp
     have hx:x∈args.toList:=by rw[hargs];simp
     dsimp only;rw[h s (by simp[Op.operands,Call.operands];simpa using hs),h x (by simp[Op.operands,Call.operands];simpa using hx)]
    |cons=>rfl
 ·rfl
theorem aF {e e1:At}{k:Nat}{He:Hp}(h:Hp.get [e] k=some e1):e1=e/\Hp.get (e::He) k=some e/\Hp.del (e::He) k=He/\Hp.del [e] k=[]:=by
 simp only[Hp.get]at h;split at h
 ·rename_i hb
  cases h;refine⟨rfl,?_,?_,?_⟩
  ·simp only[Hp.get,hb]
  ·simp only[Hp.del,hb]
  ·simp only[Hp.del,hb]
 ·cases h
theorem nE {e:At}{He:Hp}{esz:Nat}{d:D}{r:List D×Prop}(h:Ii [e] esz d=some r):Ii (e::He) esz d=some r:=by
 unfold Ii at h⊢;split at h<;>try exact h
 split at h<;>try(cases h;done)
 rename_i h1;obtain⟨rfl,h2,_,_⟩:=aF (He:=He) h1;rw[h2];exact h
theorem Ue {tt:Nat->Option A7}{e e':At}{He:Hp}{n k:Nat}{g:Operand->D}{op:Op}{d:D}{p:Prop}(h:EY tt [e] n k g op=some (d,[e'],p)):
  EY tt (e::He) n k g op=some (d,e'::He,p)/\e'.g=n:=by
 unfold EY at h⊢;split at h<;>try(cases h;done)
 split at h<;>try(cases h;done)
 rename_i h1
 try rw[h1]
 try dsimp only
 split at h<;>try(cases h;done)
 rename_i h2
 try rw[h2]
 try dsimp only
 split at h<;>try(cases h;done)
 rename_i h3
 try rw[h3]
 try dsimp only
 split at h<;>try(cases h;done)
 rename_i h4
 try rw[h4]
 try dsimp only
 split at h<;>try(cases h;done)
 rename_i h5
 try rw[h5]
 try dsimp only
 split at h<;>try(cases h;done)
 rename_i h6
 try rw[nE h6]
 try dsimp only
 split at h<;>try(cases h;done)
 ·rename_i h7
  try rw[h7]
  try dsimp only
  split at h<;>try(cases h;done)
  rename_i h8;obtain⟨rfl,a1,a2,a3⟩:=aF (He:=He) h8
  try rw[a1]
  try dsimp only
  rw[a3]at h;rw[a2];cases h;exact⟨rfl,rfl⟩
theorem I1.app {W:WR}{g:Nat}{env:Ap}{o:Oper}{tt:Nat->Option A7}(k:Nat)(htt:C5 C.P tt){d:D}{p:Prop}(hw:CJ ops env o=some true)(he:EY tt [W.e] g k (BG env) o.op=some (d,[W.e'],p))(hp:p):
  I1 C F ops W g env o d:=λHe ρ a w m _ fr hne hr=>by
 refine⟨Hx hr hw,?_⟩;obtain⟨g',h1,h2⟩:=IW hr;rw[UM h1]at he;obtain⟨q1,_⟩:=Ue (He:=He) he;obtain⟨v,ρ',w',r1,r2⟩:=RK htt m fr hne h2 q1 hp;exact⟨v,ρ',w',.inl r1,r2.mem,r2.ext,r2.far,r2.rep⟩
theorem Zf {tt:Nat->Option A7}{e':At}{He:Hp}{n k:Nat}{g:Operand->D}{op:Op}{d:D}{p:Prop}(h:EY tt [] n k g op=some (d,[e'],p)):
  EY tt He n k g op=some (d,e'::He,p)/\e'.g=n:=by
 have src:∀ {esz:Nat} {x:D} {r:List D×Prop},Ii [] esz x=some r->Ii He esz x=some r:=λ{esz x r} h=>by
  unfold Ii at h⊢;split at h<;>try exact h
  split at h<;>try(cases h;done)
  rename_i h1;cases h1
 unfold EY at h⊢;split at h<;>try(cases h;done)
 split at h<;>try(cases h;done)
 rename_i h1
 try rw[h1]
 try dsimp only
 split at h<;>try(cases h;done)
 rename_i h2
 try rw[h2]
 try dsimp only
 split at h<;>try(cases h;done)
 rename_i h3
 try rw[h3]
 try dsimp only
 split at h<;>try(cases h;done)
 rename_i h4
 try rw[h4]
 try dsimp only
 split at h<;>try(cases h;done)
 rename_i h5
 try rw[h5]
 try dsimp only
 split at h<;>try(cases h;done)
 rename_i h6
 try rw[src h6]
 try dsimp only
 split at h<;>try(cases h;done)
 cases h;exact⟨rfl,rfl⟩
theorem jS {H:Hp}{g:Nat}{env:Ap}{o:Oper}{e:At}{tt:Nat->Option A7}(k:Nat)(htt:C5 C.P tt){d:D}{p:Prop}(hw:CJ ops env o=some true)(he:EY tt [] g k (BG env) o.op=some (d,[e],p))(hp:p):
  B9 C F ops H g env o d (some e):=by
 refine⟨λe' h=>by cases h;exact(Zf (He:=[]) he).2,λHe ρ a w m _ fr hne hr=>.inr ⟨Hx hr hw,.inl ?_⟩⟩;obtain⟨g',h1,h2⟩:=IW hr;rw[UM h1]at he;obtain⟨q1,_⟩:=Zf (He:=He) he;obtain⟨v,ρ',w',r1,r2⟩:=RK htt m fr hne h2 q1 hp;exact⟨v,ρ',w',r1,r2.mem,r2.ext,r2.far,r2.rep⟩
end
noncomputable section
structure FI where
 nt:Nat
 res:List ResultVar
 code:Code
structure EV where
 tt:Nat->Option A7
 xt:Nat->Option XI
 ft:Nat->Option FI
 np:Nat->Bool
 orc:Nat->List D->Option D
 mt:Nat->String->Option Nat
 nat:Nat->List D->Option D
structure Fk (C:BA)(X:EV):Prop where
 tt:C5 C.P X.tt
 xt:M0 C.P X.xt
 ft:∀f i,X.ft f=some i->∃fn,C.P.funcs[f]?=some fn/\fn.body=some i.code/\(fn.name == "runtime.NumGoroutine")=false/\Di fn.ntmps i.code=true/\fn.ntmps=i.nt/\fn.results.toList=i.res
 orc:∀f ds d,X.orc f ds=some d->AL C f ds d/\Ai ds
 mixed:C.P.follows .mixedOrders=true
 mt:∀t name f,X.mt t name=some f->∀v w,(method (C.P.types.size+Made.depth) t v name).run C.P w=.ok (f,v) w
 nat:∀f ds d,X.nat f ds=some d->LJ C f ds d
noncomputable def Wm (env:Ap)(t:Nat):D:=List.rec (motive:=λ_=>D) .any (λp _ ih=>Bool.rec (motive:=λ_=>D) ih p.2 (Nat.beq p.1 t)) env
theorem aE (t:Nat):∀env:Ap,Wm env t=env.get t
 | []=>rfl
 |(k,d)::r=>by
  show Bool.rec (motive:=λ_=>D) (Wm r t) d (Nat.beq k t)=_;rw[aE t r];simp only[Ap.get];cases Nat.beq k t<;>rfl
noncomputable def OU (env:Ap)(x:Operand):D:=match x with
 | .tmp t=>Wm env t
 | .const v=>LX v
 | .global g=>.prim (.pointer (some ⟨g,0,none⟩))
 | .func f=>.clo (.func f) [] []
theorem Pd (env:Ap):OU env=BG env:=by
 funext x
 cases x<;>first|rfl|exact aE _ _
noncomputable def Sy (i:Nat)(l:List Nat):Bool:=List.rec (motive:=λ_=>Bool) false (λj _ ih=>Bool.rec (motive:=λ_=>Bool) ih true (Nat.beq i j)) l
theorem af (i:Nat):∀l:List Nat,Sy i l=Cq i l
 | []=>rfl
 |j::l=>by
  show Bool.rec (motive:=λ_=>Bool) (Sy i l) true (Nat.beq i j)=_;rw[af i l];simp only[Cq];cases Nat.beq i j<;>rfl
abbrev JA:=Nat->List D->Hp->Nat->Option (D×Hp×Nat)
abbrev Ic:=Nat->List D->Option D
def Kj (b:Bool)(r:D×Hp×Nat):Option (D×Hp×Nat):=match b with
 |true=>some r
 |false=>none
def TG (tt:Nat->Option A7)(g:Operand->D)(t:Nat)(x ix:Operand):Option D:=match tt t with
 |some i=>match i.ti with
  | .slice _ esz _ _=>match g ix with
   | .prim (.int _ j)=>match g x with
    | .sl _ sz es=>match Nat.beq sz esz&&decide (0<=j)with
     |true=>match es[j.toNat]? with
      |some d=>some (.pptr d)
      |none=>none
     |false=>none
    |_=>none
   |_=>none
  |_=>none
 |none=>none
def QF (X:EV)(g:Operand->D)(H:Hp)(n:Nat)(op:Op):Option (D×Hp×Nat):=match HO X.tt g op with
 |some (d,_)=>Kj (NI X.tt g op) (d,H,n+1)
 |none=>none
def TF (X:EV)(g:Operand->D)(H:Hp)(n:Nat)(op:Op):Option (D×Hp×Nat):=match Gs X.tt X.xt g op with
 |some (d,_)=>Kj (Tb X.xt g op) (d,H,n+1)
 |none=>none
def LT {α:Type}(a:Option α)(b:Option α):Option α:=match a with
 |some x=>some x
 |none=>b
def ig (X:EV)(cl:JA)(g:Operand->D)(H:Hp)(n:Nat)(op:Op):Option (D×Hp×Nat):=match op with
 | .call ⟨.value fop,args,_⟩=>match g fop with
  | .clo (.func f) first captured=>match X.nat f (first++args.toList.map g++captured)with
   |some d=>some (d,H,n+1)
   |none=>cl f (first++args.toList.map g++captured) H n
  |_=>none
 | .call ⟨.invoke r name,args,_⟩=>match g r with
  | .ifc t d0=>match X.mt t name with
   |some f=>cl f (d0::args.toList.map g) H n
   |none=>none
  |_=>none
 | .call ⟨.builtin .append,_,_⟩=>match EY X.tt H n n g op with
  |some (d,H',_)=>Kj (Qh X.tt H g op) (d,H',n+1)
  |none=>none
 | .makeSlice _ _ _=>match Kx X.tt n n g op with
  |some (d,e,_)=>Kj (XB X.tt g op) (d,e::H,n+1)
  |none=>none
 | .store _ _ _=>match Fu X.tt H g op with
  |some (k,e,_)=>Kj (Tc X.tt H g op) (.prim (.tuple #[]),Hp.set H k e,n+1)
  |none=>none
 | .load _ _ | .alloc _ | .box _ _ | .buildSlice _ _ _=>match Ev X.tt H n n g op with
  |some (d,ne,_)=>Kj (K3 X.tt H g op) (d,DF ne H,n+1)
  |none=>none
 | .indexAddr t x ix=>LT (QF X g H n op) (match TG X.tt g t x ix with
  |some d=>some (d,H,n+1)
  |none=>none)
 | .makeInterface _ _ | .lookup _ _ _ _=>TF X g H n op
 | .binOp _ _ _ _ _=>LT (QF X g H n op) (TF X g H n op)
 |_=>QF X g H n op
def Vp (X:EV)(cl:JA)(ops:Array Oper)(s:St)(o:Oper):Option (D×Hp×Nat):=match CJ ops s.env o with
 |some true=>ig X cl (OU s.env) s.H s.n o.op
 |some false=>some (.prim (.tuple #[]),s.H,s.n+1)
 |none=>none
def Mn (X:EV)(cl:JA)(ops:Array Oper):List Oper->St->Option St
 | [],s=>some s
 |o::os,s=>match Vp X cl ops s o with
  |some (d,H',n')=>Om d λd=>Hs n' λn'=>Mn X cl ops os ⟨Bh s.env o.dst d,H',n'⟩
  |none=>none
def TZ (d:D)(H:Hp)(n:Nat):D->Hp->Nat->Prop:=λd1 H1 n1=>d1=d/\H1=H/\n1=n
def Ni (C:BA)(cl:JA):Prop:=∀f ds H n d H' n',cl f ds H n=some (d,H',n')->CX C f ds H n (TZ d H' n')
def Mb (C:BA)(cp:Ic):Prop:=∀f ds d,cp f ds=some d->AL C f ds d/\Ai ds
section
variable {C:BA} {F:Ad} {X:EV} {cl:JA} {cp:Ic} {ops:Array Oper}
theorem MO {b:Bool}{r r':D×Hp×Nat}(h:Kj b r=some r'):b=true/\r=r':=by
 cases b
 ·cases h
 ·cases h;exact⟨rfl,rfl⟩
theorem Yt {tt:Nat->Option A7}{g:Operand->D}{t:Nat}{x ix:Operand}{d:D}(h:TG tt g t x ix=some d):∃i e esz eby ez kk j nn es d',tt t=some i/\i.ti=.slice e esz eby ez/\g ix=.prim (.int kk j) /\
  g x=.sl nn esz es/\0<=j/\es[j.toNat]?=some d'/\d=.pptr d':=by
 unfold TG at h;split at h<;>try(cases h;done)
 rename_i i h1;split at h<;>try(cases h;done)
 rename_i e esz eby ez h2;split at h<;>try(cases h;done)
 rename_i kk j h3;split at h<;>try(cases h;done)
 rename_i nn sz es h4;split at h<;>try(cases h;done)
 rename_i h5;split at h<;>try(cases h;done)
 rename_i d' h6;cases h;simp only[BZ,HJ]at h5;obtain rfl:=CC h5.1;exact⟨i,e,sz,eby,ez,kk,j,nn,es,d',h1,h2,h3,h4,h5.2,h6,rfl⟩
theorem mQ (hX:Fk C X)(hcl:Ni C cl){s:St}{o:Oper}{os:List Oper}{K:St->Prop}{d:D}{H':Hp}{n':Nat}(h:Vp X cl ops s o=some (d,H',n'))
  (hk:BK C F ops os ⟨Bh s.env o.dst d,H',n'⟩ K):BK C F ops (o::os) s K:=by
 unfold Vp at h;rw[Pd]at h;split at h<;>try(cases h;done)
 ·rename_i hw
  have pe:QF X (BG s.env) s.H s.n o.op=some (d,H',n')->BK C F ops (o::os) s K:=λh=>by
   unfold QF at h;split at h<;>try(cases h;done)
   rename_i hp;obtain⟨hb,hr⟩:=MO h;cases hr;exact BK.p hX.tt hw hp (fU hp hb) hk
  have qe:TF X (BG s.env) s.H s.n o.op=some (d,H',n')->BK C F ops (o::os) s K:=λh=>by
   unfold TF at h;split at h<;>try(cases h;done)
   rename_i hp;obtain⟨hb,hr⟩:=MO h;cases hr;exact BK.q hX.tt hX.xt hw hp (fV hp hb) hk
  have le:∀r,(match Ev X.tt s.H s.n s.n (BG s.env) o.op with
    |some (d,ne,_)=>Kj (K3 X.tt s.H (BG s.env) o.op) (d,DF ne s.H,s.n+1)
    |none=>none)=some r->r=(d,H',n')->BK C F ops (o::os) s K:=λr h hr=>by
   split at h<;>try(cases h;done)
   rename_i hp;obtain⟨hb,hr'⟩:=MO h;rw[<-hr']at hr;cases hr;exact BK.l' s.n hX.tt hw hp (Vw hp hb) hk
  unfold ig at h;split at h
  ·rename_i fop args tys ho
   split at h<;>try(cases h;done)
   rename_i f first captured hf
   split at h
   ·rename_i hn
    cases h;exact BK.nat hw ho hf rfl (hX.nat _ _ _ hn) hk
   refine e0K hw ho hf rfl (hcl _ _ _ _ _ _ _ h) λd1 H1 n1 hΦ=>?_
   obtain⟨rfl,rfl,rfl⟩:=hΦ;exact hk
  ·rename_i r name args tys ho
   split at h<;>try(cases h;done)
   rename_i t d0 hr;split at h<;>try(cases h;done)
   rename_i f hf;refine e0N hw ho hr (hX.mt _ _ _ hf) rfl (hcl _ _ _ _ _ _ _ h) λd1 H1 n1 hΦ=>?_
   obtain⟨rfl,rfl,rfl⟩:=hΦ;exact hk
  ·split at h<;>try(cases h;done)
   rename_i hp;obtain⟨hb,hr⟩:=MO h;cases hr;exact jE s.n hX.tt hw hp (Vv hp hb) hk
  ·split at h<;>try(cases h;done)
   rename_i hp;obtain⟨hb,hr⟩:=MO h;cases hr;exact jG s.n hX.tt hw hp (xk hp hb) hk
  ·split at h<;>try(cases h;done)
   rename_i hp;obtain⟨hb,hr⟩:=MO h;cases hr;exact BK.store hX.tt hw hp (fW hp hb) hk
  ·exact le _ h rfl
  ·exact le _ h rfl
  ·exact le _ h rfl
  ·exact le _ h rfl
  ·rename_i t x ix ho
   unfold LT at h;split at h
   ·rename_i hr;cases h;exact pe hr
   ·split at h<;>try(cases h;done)
    rename_i hi;cases h;obtain⟨i,e,esz,eby,ez,kk,j,nn,es,d',a1,a2,a3,a4,a5,a6,rfl⟩:=Yt hi;exact BK.idx hX.tt hw ho a1 a2 a3 a4 a5 a6 hk
  ·exact qe h
  ·exact qe h
  ·unfold LT at h
   split at h
   ·rename_i hr;cases h;exact pe hr
   ·exact qe h
  ·exact pe h
 ·rename_i hw
  cases h;exact BK.skip hw hk
theorem Rf (hX:Fk C X)(hcl:Ni C cl){K:St->Prop}:∀ {os:List Oper} {s s':St},Mn X cl ops os s=some s'->K s'->BK C F ops os s K
 | [],s,s',h,hk=>by
  simp only[Mn,BP]at h;subst h;exact BK.nil hk
 |o::os,s,s',h,hk=>by
  simp only[Mn]at h;split at h<;>try(cases h;done)
  rename_i hs;rw[Nq,Mi]at h;exact mQ hX hcl hs (Rf hX hcl h hk)
theorem B9.l' {H:Hp}{g:Nat}{env:Ap}{o:Oper}{tt:Nat->Option A7}(k:Nat)(htt:C5 C.P tt){d:D}{ne:Option At}{p:Prop}(hw:CJ ops env o=some true)(he:Ev tt H g k (BG env) o.op=some (d,ne,p))(hp:p):B9 C F ops H g env o d ne:=by
 refine⟨λe h=>by subst h;exact aP he,λHe ρ a w m hsub fr hne hr=>.inr ⟨Hx hr hw,.inl ?_⟩⟩;obtain⟨g',h1,h2⟩:=IW hr;obtain⟨v,ρ',w',r1,r2⟩:=bW (g:=g') hsub htt m fr hne h2 (by rw[<-mM h1];exact he) hp;exact⟨v,ρ',w',r1,r2⟩
theorem mO {tt:Nat->Option A7}{xt:Nat->Option XI}{g g':Operand->D}{op:Op}(h:∀x∈op.operands,g x=g' x):Gs tt xt g op=Gs tt xt g' op:=by
 cases op<;>simp only[Op.operands]at h<;>try rfl
 case binOp op t x y yt=>simp only[Gs];rw[h x (by simp),h y (by simp)]
 case makeInterface t x=>simp only[Gs];rw[h x (by simp)]
 case lookup t x ix ok=>simp only[Gs];rw[h x (by simp),h ix (by simp)]
theorem B9.q {H:Hp}{g:Nat}{env:Ap}{o:Oper}{tt:Nat->Option A7}{xt:Nat->Option XI}(htt:C5 C.P tt)(hxt:M0 C.P xt){d:D}{p:Prop}(hw:CJ ops env o=some true)(he:Gs tt xt (BG env) o.op=some (d,p))(hp:p):
  B9 C F ops H g env o d none:=by
 refine⟨by simp,λHe ρ a w m _ _ _ hr=>.inr ⟨Hx hr hw,.inl ?_⟩⟩;obtain⟨g',h1,h2⟩:=IW hr;obtain⟨v,r1,r2⟩:=bY (g:=g') htt hxt h2 (by rw[<-mO h1];exact he) hp;exact⟨v,ρ,w,r1,m,.refl _ _ _,λ_ _ _=>rfl,r2⟩
def OV (b:Bool)(r:D×Option At):Option (D×Option At):=match b with
 |true=>some r
 |false=>none
theorem RA {b:Bool}{r r':D×Option At}(h:OV b r=some r'):b=true/\r=r':=by
 cases b
 ·cases h
 ·cases h;exact⟨rfl,rfl⟩
def Qi (X:EV)(g:Operand->D)(op:Op):Option (D×Option At):=match HO X.tt g op with
 |some (d,_)=>OV (NI X.tt g op) (d,none)
 |none=>none
def Tf (X:EV)(g:Operand->D)(op:Op):Option (D×Option At):=match Gs X.tt X.xt g op with
 |some (d,_)=>OV (Tb X.xt g op) (d,none)
 |none=>none
def iv (X:EV)(cp:Ic)(g:Operand->D)(H:Hp)(n:Nat)(op:Op):Option (D×Option At):=match op with
 | .call ⟨.value fop,args,_⟩=>match g fop with
  | .clo (.func f) first captured=>match X.nat f (first++args.toList.map g++captured)with
   |some d=>some (d,none)
   |none=>match cp f (first++args.toList.map g++captured)with
    |some d=>some (d,none)
    |none=>none
  |_=>none
 | .call ⟨.builtin .append,_,_⟩=>match EY X.tt [] n n g op with
  |some (d,[e],_)=>OV (Qh X.tt [] g op) (d,some e)
  |_=>none
 | .load _ _ | .alloc _ | .box _ _ | .buildSlice _ _ _=>match Ev X.tt H n n g op with
  |some (d,ne,_)=>OV (K3 X.tt H g op) (d,ne)
  |none=>none
 | .indexAddr t x ix=>LT (Qi X g op) (match TG X.tt g t x ix with
  |some d=>some (d,none)
  |none=>none)
 | .makeInterface _ _ | .lookup _ _ _ _=>Tf X g op
 | .binOp _ _ _ _ _=>LT (Qi X g op) (Tf X g op)
 |_=>Qi X g op
def Pp (X:EV)(cp:Ic)(ops:Array Oper)(H:Hp)(n:Nat)(env:Ap)(o:Oper):Option (D×Option At):=match CJ ops env o with
 |some true=>iv X cp (OU env) H n o.op
 |some false=>some (.prim (.tuple #[]),none)
 |none=>none
theorem UL (hX:Fk C X)(hcp:Mb C cp){H:Hp}{n:Nat}{env:Ap}{o:Oper}{d:D}{ne:Option At}(h:Pp X cp ops H n env o=some (d,ne)):B9 C F ops H n env o d ne:=by
 unfold Pp at h;rw[Pd]at h;split at h<;>try(cases h;done)
 ·rename_i hw
  have pe:Qi X (BG env) o.op=some (d,ne)->B9 C F ops H n env o d ne:=λh=>by
   unfold Qi at h;split at h<;>try(cases h;done)
   rename_i hp;obtain⟨hb,hr⟩:=RA h;cases hr;exact B9.p hX.tt hw hp (fU hp hb)
  have qe:Tf X (BG env) o.op=some (d,ne)->B9 C F ops H n env o d ne:=λh=>by
   unfold Tf at h;split at h<;>try(cases h;done)
   rename_i hp;obtain⟨hb,hr⟩:=RA h;cases hr;exact B9.q hX.tt hX.xt hw hp (fV hp hb)
  have le:∀r,(match Ev X.tt H n n (BG env) o.op with
    |some (d,ne,_)=>OV (K3 X.tt H (BG env) o.op) (d,ne)
    |none=>none)=some r->r=(d,ne)->B9 C F ops H n env o d ne:=λr h hr=>by
   split at h<;>try(cases h;done)
   rename_i hp;obtain⟨hb,hr'⟩:=RA h;rw[<-hr']at hr;cases hr;exact B9.l' n hX.tt hw hp (Vw hp hb)
  unfold iv at h;split at h
  ·rename_i fop args tys ho
   split at h<;>try(cases h;done)
   rename_i f first captured hf
   split at h
   ·rename_i hn
    cases h;exact B9.nat hw ho hf rfl (hX.nat _ _ _ hn)
   split at h<;>try(cases h;done)
   rename_i hc;cases h;obtain⟨c1,c2⟩:=hcp _ _ _ hc;exact B9.call hw ho hf rfl c1 c2
  ·split at h<;>try(cases h;done)
   rename_i hp;obtain⟨hb,hr⟩:=RA h;cases hr;exact jS n hX.tt hw hp (Vv hp hb)
  ·exact le _ h rfl
  ·exact le _ h rfl
  ·exact le _ h rfl
  ·exact le _ h rfl
  ·rename_i t x ix ho
   unfold LT at h;split at h
   ·rename_i hr;cases h;exact pe hr
   ·split at h<;>try(cases h;done)
    rename_i hi;cases h;obtain⟨i,e,esz,eby,ez,kk,j,nn,es,d',a1,a2,a3,a4,a5,a6,rfl⟩:=Yt hi;exact B9.idx hX.tt hw ho a1 a2 a3 a4 a5 a6
  ·exact qe h
  ·exact qe h
  ·unfold LT at h
   split at h
   ·rename_i hr;cases h;exact pe hr
   ·exact qe h
  ·exact pe h
 ·rename_i hw
  cases h;exact B9.skip hw
def OA (X:EV)(cp:Ic)(ops:Array Oper)(H:Hp)(n:Nat):List Nat->Ap->Hp->Option (Ap×Hp)
 | [],env,N=>some (env,N)
 |i::l,env,N=>match ops[i]? with
  |some o=>match Pp X cp ops H (n+i) env o with
   |some (d,ne)=>Om d λd=>OA X cp ops H n l (Bh env o.dst d) (DF ne N)
   |none=>none
  |none=>none
theorem Zg (hX:Fk C X)(hcp:Mb C cp){H:Hp}{n:Nat}:∀ {l:List Nat} {env env':Ap} {N N':Hp},OA X cp ops H n l env N=some (env',N')->JX C F ops H n l env N env' N'
 | [],env,env',N,N',h=>by
  simp only[OA,BP,Bn]at h;obtain⟨rfl,rfl⟩:=h;exact .nil _ _
 |i::l,env,env',N,N',h=>by
  simp only[OA]at h;split at h<;>try(cases h;done)
  rename_i o ho;split at h<;>try(cases h;done)
  rename_i d ne hs;rw[Nq]at h;exact .cons ho (UL hX hcp hs) (Zg hX hcp h)
def Yd (ops:Array Oper)(done:List Nat):List Nat->Option (Nat×List Nat)
 | []=>none
 |i::r=>match Jl (G1 ops i) done with
  |true=>some (i,r)
  |false=>match Yd ops done r with
   |some (j,r')=>some (j,i::r')
   |none=>none
def Wt (ops:Array Oper):Nat->List Nat->List Nat->List Nat
 | 0,done,rest=>done.reverse++rest
 |f+1,done,rest=>match Yd ops done rest with
  |some (i,rest')=>Wt ops f (i::done) rest'
  |none=>done.reverse++rest
def V2 (clo:List (Nat×List Nat)):List Nat->List Nat->List Nat->List Nat->List Nat×List Nat
 |_,[],pre,cur=>(pre.reverse,cur.reverse)
 |done,i::l,pre,cur=>match Jl done (F9 clo i)with
  |true=>V2 clo (i::done) l pre (i::cur)
  |false=>V2 clo (i::done) l (i::(cur++pre)) []
def zt (ops:Array Oper):List Nat×List Nat:=
 V2 (JH ops (Wt ops ops.size [] (List.range ops.size)) []) [] (Wt ops ops.size [] (List.range ops.size)) [] []
def d9H:Op->Bool
 | .store _ _ _=>true
 | .call ⟨.builtin .append,_,_⟩=>true
 |_=>false
def fo (ops:Array Oper):List Nat->Option Nat
 | []=>none
 |i::l=>match ops[i]? with
  |some o=>match d9H o.op with
   |true=>some i
   |false=>fo ops l
  |none=>none
def jB (i:Nat):List Nat->List Nat
 | []=>[]
 |j::l=>match Nat.beq i j with
  |true=>[]
  |false=>j::jB i l
def zj (g:Operand->D):Op->Option Nat
 | .store _ x _=>match g x with
  | .optr k _ _ _ _=>some k
  |_=>none
 | .call ⟨.builtin .append,args,_⟩=>match args.toList with
  | [s,_]=>match g s with
   | .osl k _ _ _ _=>some k
   |_=>none
  |_=>none
 |_=>none
def Wo (X:EV)(e:At)(n:Nat)(g:Operand->D)(op:Op):Option (D×At):=match op with
 | .store _ _ _=>match Fu X.tt [e] g op with
  |some (_,e',_)=>match Tc X.tt [e] g op with
   |true=>some (.prim (.tuple #[]),e')
   |false=>none
  |none=>none
 |_=>match EY X.tt [e] n n g op with
  |some (d,[e'],_)=>match Qh X.tt [e] g op with
   |true=>some (d,e')
   |false=>none
  |_=>none
def JJ (ia:Option Nat)(i:Nat):Bool:=match ia with
 |some j=>Nat.beq i j
 |none=>false
def If (ia:Option Nat)(accE:Option At)(R:Hp)(b:Bool):Hp:=match ia with
 |none=>match accE with
  |some e=>match b with
   |true=>e::R
   |false=>R
  |none=>R
 |some _=>R
def Jo (X:EV)(cp:Ic)(ops:Array Oper)(iw:Nat)(ia:Option Nat)(R:Hp)(clo:List Nat)(n:Nat):List Nat->Ap->Hp->Option At->Option At->Option (Ap×Hp×At×At)
 | [],env,N,accE,acc=>match accE with
  |some e=>match acc with
   |some e'=>some (env,N,e,e')
   |none=>none
  |none=>none
 |i::l,env,N,accE,acc=>match ops[i]? with
  |some o=>match Nat.beq i iw with
   |true=>match acc with
    |some _=>none
    |none=>match accE with
     |some e=>match CJ ops env o with
      |some true=>match Wo X e (n+i) (OU env) o.op with
       |some (d,e')=>Jo X cp ops iw ia R clo n l (Bh env o.dst d) N accE (some e')
       |none=>none
      |_=>none
     |none=>none
   |false=>match JJ ia i with
    |true=>match accE with
     |some _=>none
     |none=>match Pp X cp ops R (n+i) env o with
      |some (d,some e)=>Om d λd=>Jo X cp ops iw ia R clo n l (Bh env o.dst d) N (some e) acc
      |_=>none
    |false=>match Pp X cp ops (If ia accE R (Cq i clo)) (n+i) env o with
     |some (d,ne)=>Om d λd=>Jo X cp ops iw ia R clo n l (Bh env o.dst d) (DF ne N) accE acc
     |none=>none
  |none=>none
theorem MG {iw:Nat}{ia:Option Nat}{R:Hp}{clo:List Nat}{n:Nat}:∀ {l:List Nat} {env env':Ap} {N N':Hp} {accE acc:Option At} {e e':At},Jo X cp ops iw ia R clo n l env N accE acc=some (env',N',e,e') ->
  (∀a,accE=some a->e=a)/\(∀a,acc=some a->e'=a)
 | [],_,_,_,_,_,_,_,_,h=>by
  simp only[Jo]at h;split at h<;>try(cases h;done)
  split at h<;>try(cases h;done)
  simp only[BP,Bn]at h;exact⟨λa ha=>by cases ha;exact h.2.2.1.symm,λa ha=>by cases ha;exact h.2.2.2.symm⟩
 |i::l,_,_,_,_,_,_,_,_,h=>by
  simp only[Jo]at h;split at h<;>try(cases h;done)
  split at h
  ·split at h<;>try(cases h;done)
   split at h<;>try(cases h;done)
   split at h<;>try(cases h;done)
   split at h<;>try(cases h;done)
   exact⟨(MG h).1,by simp⟩
  ·split at h
   ·split at h<;>try(cases h;done)
    split at h<;>try(cases h;done)
    rw[Nq]at h;exact⟨by simp,(MG h).2⟩
   ·split at h<;>try(cases h;done)
    rw[Nq]at h;exact MG h
theorem qP (hX:Fk C X){W:WR}{n:Nat}{env:Ap}{o:Oper}{d:D}(hw:CJ ops env o=some true)(h:Wo X W.e n (BG env) o.op=some (d,W.e')):I1 C F ops W n env o d:=by
 unfold Wo at h;split at h
 ·split at h<;>try(cases h;done)
  rename_i he;split at h<;>try(cases h;done)
  rename_i hk;simp only[BP,Bn]at h;obtain⟨rfl,h2⟩:=h;rw[h2]at he;exact I1.store hX.tt hw he (fW he hk)
 ·split at h<;>try(cases h;done)
  rename_i he;split at h<;>try(cases h;done)
  rename_i hk;simp only[BP,Bn]at h;obtain⟨rfl,h2⟩:=h;rw[h2]at he;exact I1.app n hX.tt hw he (Vv he hk)
theorem Rh {ia:Option Nat}{i:Nat}:JJ ia i=true↔ia=some i:=by
 cases ia with
 |none=>simp[JJ]
 |some j=>
  simp only[JJ,BP];exact⟨λh=>(CC h).symm,λh=>by rw[h];exact L5 _⟩
theorem Q8 (hX:Fk C X)(hcp:Mb C cp){W:WR}(hwa:W.ia≠some W.iw){clo:List Nat}(hclo:∀j∈clo,Dw ops W.iw j){n:Nat}:∀ {l:List Nat} {env env':Ap} {N N':Hp} {accE acc:Option At},
  Jo X cp ops W.iw W.ia W.R clo n l env N accE acc=some (env',N',W.e,W.e')->JG C F ops W n l env N env' N'
 | [],env,env',N,N',accE,acc,h=>by
  simp only[Jo]at h;split at h<;>try(cases h;done)
  split at h<;>try(cases h;done)
  simp only[BP,Bn]at h;obtain⟨rfl,rfl,_⟩:=h;exact .nil _ _
 |i::l,env,env',N,N',accE,acc,h=>by
  simp only[Jo,Pd]at h;split at h<;>try(cases h;done)
  rename_i o ho;split at h
  ·rename_i hb
   have hb:=CC hb;split at h<;>try(cases h;done)
   split at h<;>try(cases h;done)
   rename_i e0;split at h<;>try(cases h;done)
   rename_i hw;split at h<;>try(cases h;done)
   rename_i d e1 he;obtain⟨h1,h2⟩:=MG h;rw[<-h1 _ rfl,<-h2 _ rfl]at he;exact .cons (ne:=none) ho (.inr (.inl ⟨hb,by rw[hb];exact hwa,rfl,qP hX hw he⟩)) (Q8 hX hcp hwa hclo h)
  ·rename_i hb
   have hne:i≠W.iw:=λhi=>by rw[hi,L5]at hb;cases hb
   split at h
   ·rename_i hi
    have hi:=Rh.1 hi;split at h<;>try(cases h;done)
    split at h<;>try(cases h;done)
    rename_i d e0 hs;rw[Nq]at h;have h1:=(MG h).1 _ rfl;rw[<-h1]at hs;exact .cons (ne:=none) ho (.inr (.inr ⟨hne,hi,rfl,UL (F:=F) hX hcp hs⟩)) (Q8 hX hcp hwa hclo h)
   ·rename_i hi
    have hi:W.ia≠some i:=λh=>by rw[Rh.2 h]at hi;cases hi
    split at h<;>try(cases h;done)
    rename_i d ne hs;rw[Nq]at h;have hacc:=(MG h).1;refine .cons ho (.inl ⟨hne,hi,?_⟩) (Q8 hX hcp hwa hclo h);have hst:=UL (F:=F) hX hcp hs;unfold If at hst;cases hia:W.ia with
    |none=>
     rw[hia]at hst;cases accE with
     |none=>exact .inr hst
     |some a=>
      have:=hacc a rfl
      subst this;dsimp only at hst;cases hm:Cq i clo with
      |true=>rw[hm]at hst;exact .inl ⟨rfl,hclo i (H4.1 hm),hst⟩
      |false=>rw[hm]at hst;exact .inr hst
    |some ia=>rw[hia]at hst;exact .inr hst
def fY (s:St)(N1:Hp)(k:Nat):Option (Option Nat×Option At×Hp):=match Hp.get s.H k with
 |some e=>some (none,some e,Hp.del s.H k)
 |none=>match Hp.get N1 k with
  |some e=>some (some (e.g-s.n),none,s.H)
  |none=>none
def io (n:Nat)(pre clo:List Nat)(e:At)(iw:Nat):Option Nat->Bool
 |none=>true
 |some ia=>Nat.beq e.g (n+ia)&&Cq ia clo&&Cq ia pre && !(Nat.beq ia iw)
def aO (X:EV)(cl:JA)(cp:Ic)(ops:Array Oper)(pre suf:List Nat)(iw:Nat)(s:St):Option St:=match OA X cp ops s.H s.n (jB iw pre) s.env []with
 |some (env1,N1)=>match zj (OU env1) (ops.getD iw default).op with
  |some k=>match fY s N1 k with
   |some (ia,accE,R)=>match Cq iw pre with
    |true=>match Jo X cp ops iw ia R (F9 (JH ops (pre++suf) []) iw) s.n pre s.env [] accE none with
     |some (env,N,e,e')=>match (Nat.beq e'.g e.g||Nat.beq e'.g (s.n+iw))&&io s.n pre (F9 (JH ops (pre++suf) []) iw) e iw ia with
      |true=>Hs (s.n+ops.size) λn=>Mn X cl ops (suf.map λj=>ops.getD j default) ⟨env,N++e'::R,n⟩
      |false=>none
     |none=>none
    |false=>none
   |none=>none
  |none=>none
 |none=>none
def Vo (X:EV)(cl:JA)(cp:Ic)(ops:Array Oper)(s:St):Option St:=match zt ops with
 |(pre,suf)=>match HZ ops pre suf with
  |true=>match (match fo ops pre with
    |some iw=>aO X cl cp ops pre suf iw s
    |none=>none)with
   |some s'=>some s'
   |none=>match OA X cp ops s.H s.n pre s.env []with
    |some (env,N)=>Hs (s.n+ops.size) λn=>Mn X cl ops (suf.map λj=>ops.getD j default) ⟨env,N++s.H,n⟩
    |none=>none
  |false=>none
noncomputable def dd (e:Ap):List Nat->Ap:=List.rec (motive:=λ_=>List Nat->Ap) (λ_=>[]) (λp _ ih seen=>Bool.rec (motive:=λ_=>Ap) (p::ih (p.1::seen)) (ih seen) (Sy p.1 seen)) e
theorem qI (k:Nat)(d:D)(r:Ap)(seen:List Nat):dd ((k,d)::r) seen=match Cq k seen with
  |true=>dd r seen
  |false=>(k,d)::dd r (k::seen):=by
 show Bool.rec (motive:=λ_=>Ap) _ _ (Sy k seen)=_;rw[af];cases Cq k seen<;>rfl
theorem Va:∀(e:Ap) (seen:List Nat) (t:Nat),t∉seen->(dd e seen).get t=e.get t
 | [],_,_,_=>rfl
 |(k,d)::r,seen,t,h=>by
  rw[qI];cases hb:Cq k seen with
  |true=>
   dsimp only;have hk:k≠t:=λhk=>h (hk ▸ H4.1 hb)
   rw[Va r seen t h,JM,AH hk]
  |false=>
   dsimp only;rw[JM,JM]
   by_cases hk:k=t
   ·rw[AI hk,AI hk]
   ·rw[AH hk,AH hk,Va r (k::seen) t (by simp;exact⟨λh=>hk h.symm,h⟩)]
def OY (f:D->List Nat->List Nat):List D->List Nat->List Nat
 | [],acc=>acc
 |d::l,acc=>OY f l (f d acc)
def Km:Nat->D->List Nat->List Nat
 | 0,_,acc=>acc
 |n+1,d,acc=>match d with
  | .osl k _ _ _ _=>k::acc
  | .optr k _ _ _ _=>k::acc
  | .agg l=>OY (Km n) l acc
  | .tup l=>OY (Km n) l acc
  | .clo _ a b=>OY (Km n) a (OY (Km n) b acc)
  | .gd _ d=>Km n d acc
  | .ifc _ d=>Km n d acc
  |_=>acc
def dm:Ap->List Nat->List Nat
 | [],acc=>acc
 |(_,d)::r,acc=>dm r (Km 5 d acc)
def Ss:Hp->List Nat->List Nat
 | [],acc=>acc
 |e::r,acc=>Ss r (OY (Km 5) e.es acc)
def Lh (p:At->Bool):Hp->Hp
 | []=>[]
 |e::r=>match p e with
  |true=>e::Lh p r
  |false=>Lh p r
theorem RC (p:At->Bool):∀H:Hp,(Lh p H).Sublist H
 | []=>.slnil
 |e::r=>by
  simp only[Lh];split
  ·exact(RC p r).cons_cons e
  ·exact(RC p r).cons e
def OT {α:Type}:List Nat->(List Nat->α)->α
 | [],k=>k []
 |n::l,k=>Hs n λn=>OT l λl=>k (n::l)
theorem Rq {α:Type}:∀(l:List Nat) (k:List Nat->α),OT l k=k l
 | [],_=>rfl
 |n::l,k=>by simp only[OT,Mi,Rq l]
def QH {α:Type}:Hp->(Hp->α)->α
 | [],k=>k []
 |e::l,k=>QH l λl=>k (e::l)
theorem U8 {α:Type}:∀(l:Hp) (k:Hp->α),QH l k=k l
 | [],_=>rfl
 |e::l,k=>by simp only[QH,U8 l]
def W7 {α:Type}(n:Nat)(env:Ap)(H:Hp)(k:Hp->α):α:=OT (Ss H (dm env [])) λks=>QH (Lh (λe=>match Nat.blt e.g n with
  |true=>true
  |false=>Cq e.k ks) H) k
theorem xC {α:Type}(n:Nat)(env:Ap)(H:Hp)(k:Hp->α):∃H':Hp,H'.Sublist H/\W7 n env H k=k H':=⟨_,RC _ _,by unfold W7;rw[Rq,U8]⟩
def W8 {α:Type}(n:Nat)(d:D)(H:Hp)(k:Hp->α):α:=
 OT (Ss (Lh (λe=>Nat.blt e.g n) H) (Km 5 d [])) λks=>OT (Ss (Lh (λe=>Cq e.k ks) H) ks) λks=>QH (Lh (λe=>match Nat.blt e.g n with
  |true=>true
  |false=>Cq e.k ks) H) k
theorem xE {α:Type}(n:Nat)(d:D)(H:Hp)(k:Hp->α):∃H':Hp,H'.Sublist H/\W8 n d H k=k H':=⟨_,RC _ _,by unfold W8;rw[Rq,Rq,U8]⟩
def P4 (f:St->Option (Exit×St))(n0:Nat):Nat->St->Option (Exit×St)
 | 0,_=>none
 |k+1,s=>W7 n0 s.env s.H λH=>match f ⟨dd s.env [],H,s.n⟩with
  |some (.normal,s')=>P4 f n0 k s'
  |r=>r
def EO (X:EV)(cl:JA)(cp:Ic)(lf:Nat):Code->St->Option (Exit×St)
 | .skip,s=>some (.normal,s)
 | .region _ ops draw,s=>match draw with
  |true=>match Vo X cl cp ops s with
   |some s'=>some (.normal,s')
   |none=>none
  |false=>match Mn X cl ops ops.toList s with
   |some s'=>some (.normal,s')
   |none=>none
 | .seq a b,s=>match EO X cl cp lf a s with
  |some (.normal,s')=>EO X cl cp lf b s'
  |r=>r
 | .cond c a b,s=>match OU s.env c with
  | .prim (.bool true)=>EO X cl cp lf a s
  | .prim (.bool false)=>EO X cl cp lf b s
  |_=>none
 | .block i b,s=>match EO X cl cp lf b s with
  |some (.exit j,s')=>match Nat.beq j i with
   |true=>some (.normal,s')
   |false=>some (.exit j,s')
  |r=>r
 | .loop b,s=>P4 (EO X cl cp lf b) (lf/1048576) (lf%1048576) s
 | .exit i,s=>some (.exit i,s)
 | .ret,s=>some (.ret,s)
 |_,_=>none
def isS (e:Exit)(s:St):Exit->St->Prop:=λe1 s1=>e1=e/\s1=s
theorem e0H {c:Code}{s s2:St}{Q:Exit->St->Prop}(he:∀t,s2.env.get t=s.env.get t)(hH:s2.H=s.H)(hn:s2.n=s.n)(h:Ok C F c s2 Q):Ok C F c s Q:=
 λhd ρ a w hs=>h hd ρ a w ⟨by rw[hH];exact hs.mem,by rw[hn];exact hs.fresh,by rw[hH,hn];exact hs.gen,λt=>by rw[he,hH];exact hs.env t,hs.nt,hs.dfr⟩
theorem Ok.subH {c:Code}{env:Ap}{H H':Hp}{n:Nat}{Q:Exit->St->Prop}(hs:H'.Sublist H)(h:Ok C F c ⟨env,H',n⟩ Q):Ok C F c ⟨env,H,n⟩ Q:=
 λhd ρ a w hS=>by
  obtain⟨m,hO⟩:=hS.mem.sub hs;exact h hd ρ a w ⟨m,hS.fresh,λe he=>hS.gen e (hs.subset he),λt=>(hS.env t).anti hO,hS.nt,hS.dfr⟩
theorem CX.subH {f:Nat}{ds:List D}{H H1 H2:Hp}{n n':Nat}{d:D}(hs:H2.Sublist H1)(h:CX C f ds H n (TZ d H1 n')):CX C f ds H n (TZ d H2 n'):=by
 refine⟨h.1,λF ρ w vs m hfr hg hvs hr=>(h.2 F ρ w vs m hfr hg hvs hr).mono ?_⟩;rintro e w' ⟨v,d',H',n2,ρ',rfl,⟨rfl,rfl,rfl⟩,m',x,fr,gn,rep⟩;obtain⟨m2,hO⟩:=m'.sub hs;exact⟨v,_,_,_,ρ',rfl,⟨rfl,rfl,rfl⟩,m2,⟨x.size,x.link,λb hb hb'=>⟨λh=>(x.pure b hb hb').1 (hO b h),(x.pure b hb hb').2⟩,x.shape⟩,fr,λe he=>gn e (hs.subset he),rep.anti hO⟩
theorem mL (hX:Fk C X)(hcl:Ni C cl)(hcp:Mb C cp){i:Nat}{s s':St}(h:Vo X cl cp ops s=some s'):Ok C F (.region i ops true) s (isS .normal s'):=by
 unfold Vo at h;split at h;rename_i pre suf ho;split at h<;>try(cases h;done)
 rename_i hc;split at h
 ·rename_i s1 hh
  cases h
  revert hh
  intro h;split at h<;>try(cases h;done)
  rename_i iw _;unfold aO at h;simp only[Pd]at h;split at h<;>try(cases h;done)
  split at h<;>try(cases h;done)
  split at h<;>try(cases h;done)
  rename_i k _ ia accE R hwb;split at h<;>try(cases h;done)
  rename_i hm;split at h<;>try(cases h;done)
  rename_i env N e e' hp;split at h<;>try(cases h;done)
  rename_i hg;rw[Mi]at h;simp only[BZ,Kr]at hg;obtain⟨hg1,hg2⟩:=hg;have hreach:∀j∈F9 (JH ops (pre++suf) []) iw,Dw ops iw j:=λj hj=>Oz (Oy _ _ (by simp)) _ _ hj
  have hia:∀j,ia=some j->e.g=s.n+j/\Dw ops iw j/\j∈pre/\j≠iw:=λj hj=>by
   subst hj;simp only[io,BZ,Bq]at hg2;exact⟨CC hg2.1.1.1,hreach j (H4.1 hg2.1.1.2),H4.1 hg2.1.2,λh=>by rw[h,L5]at hg2;cases hg2.2⟩
  have hacc:=(MG hp).1;have hst:s.H.Perm (WR.start ⟨iw,ia,e,e',R⟩):=by
   unfold fY at hwb;split at hwb
   ·rename_i e0 he
    cases hwb;obtain⟨H1,H2,q1,_,q3⟩:=M8 e0 he;rw[q3,hacc e0 rfl];unfold WR.start;rw[q1];exact Hl
   ·split at hwb<;>try(cases hwb;done)
    cases hwb;exact List.Perm.refl _
  exact e0F (W:=⟨iw,ia,e,e',R⟩) hX.mixed hc hst (λj hj=>⟨(hia j hj).1,(hia j hj).2.1,(hia j hj).2.2.1⟩) (H4.1 hm) (hg1.imp CC CC)
   (Q8 (W:=⟨iw,ia,e,e',R⟩) hX hcp (λh=>(hia iw h).2.2.2 rfl) hreach hp) (Rf hX hcl h ⟨rfl,rfl⟩)
 ·split at h<;>try(cases h;done)
  rename_i env N hp;rw[Mi]at h;exact e0D hX.mixed hc (Zg hX hcp hp) (Rf hX hcl h ⟨rfl,rfl⟩)
theorem Ix (hX:Fk C X)(hcl:Ni C cl)(hcp:Mb C cp){lf:Nat}:∀ {c:Code} {s s':St} {e:Exit},EO X cl cp lf c s=some (e,s')->Ok C F c s (isS e s')
 | .skip,s,s',e,h=>by simp only[EO,BP,Bn]at h;obtain⟨rfl,rfl⟩:=h;exact Ok.skip ⟨rfl,rfl⟩
 | .region i ops draw,s,s',e,h=>by
  simp only[EO]at h;split at h
  ·split at h<;>try(cases h;done)
   rename_i hd;cases h;exact mL hX hcl hcp hd
  ·split at h<;>try(cases h;done)
   rename_i hd;cases h;exact Ok.region (Rf hX hcl hd ⟨rfl,rfl⟩)
 | .seq a b,s,s',e,h=>by
  simp only[EO]at h;refine Ok.seq ?_;split at h
  ·rename_i s1 h1
   refine(Ix hX hcl hcp h1).mono ?_;rintro _ _ ⟨rfl,rfl⟩;exact Ix hX hcl hcp h
  ·rename_i hne
   refine(Ix hX hcl hcp h).mono ?_;rintro e1 s1 ⟨h1,h2⟩;rw[h1,h2];cases e with
   |normal=>exact Ak h (hne _)
   |_=>exact⟨rfl,rfl⟩
 | .cond c a b,s,s',e,h=>by
  simp only[EO,Pd]at h;have hr:∀x,BG s.env c=.prim (.bool x)->∀ρ a w,Br C F ρ s a w->a.eval c=.bool x:=λx hx ρ a w hs=>by
   have:=Dh hs.env c
   rw[hx]at this;generalize a.eval c=v at this;cases this;rfl
  split at h
  ·rename_i hx
   exact Ok.cond true (hr _ hx) (λ_=>Ix hX hcl hcp h) (λh=>by cases h)
  ·rename_i hx
   exact Ok.cond false (hr _ hx) (λh=>by cases h) (λ_=>Ix hX hcl hcp h)
  ·cases h
 | .block i b,s,s',e,h=>by
  simp only[EO]at h;refine Ok.block ?_;split at h
  ·rename_i j s1 h1
   refine(Ix hX hcl hcp h1).mono ?_;rintro _ _ ⟨rfl,rfl⟩;dsimp only;split at h
   ·rename_i hb
    cases h;rw[AI (CC hb)];exact⟨rfl,rfl⟩
   ·rename_i hb
    cases h;rw[AH (λhj=>by rw[hj,L5]at hb;cases hb)];exact⟨rfl,rfl⟩
  ·rename_i hne
   refine(Ix hX hcl hcp h).mono ?_;rintro e1 s1 ⟨h1,h2⟩;rw[h1,h2];cases e with
   |exit j=>exact Ak h (hne _ _)
   |_=>exact⟨rfl,rfl⟩
 | .loop b,s,s',e,h=>by
  simp only[EO]at h;refine Ok.loop (λm s=>P4 (EO X cl cp lf b) (lf/1048576) m s=some (e,s')) h λm s1 hI=>?_
  cases m with
  |zero=>cases hI
  |succ m=>
   simp only[P4]at hI;obtain⟨H2,hsub,hgc⟩:=xC (α:=Option (Exit×St)) (lf/1048576) s1.env s1.H (λH=>match EO X cl cp lf b ⟨dd s1.env [],H,s1.n⟩with
    |some (.normal,s')=>P4 (EO X cl cp lf b) (lf/1048576) m s'
    |r=>r)
   rw[hgc]at hI;refine e0H (s2:=⟨dd s1.env [],s1.H,s1.n⟩) (λt=>Va _ _ _ (by simp)) rfl rfl ?_;refine Ok.subH hsub ?_;split at hI
   ·rename_i s2 h2
    refine(Ix hX hcl hcp h2).mono ?_;rintro _ _ ⟨rfl,rfl⟩;exact⟨m,IM m,hI⟩
   ·rename_i hne
    refine(Ix hX hcl hcp hI).mono ?_;rintro e1 s1 ⟨h1,h2⟩;rw[h1,h2];cases e with
    |normal=>exact Ak hI (hne _)
    |_=>exact⟨rfl,rfl⟩
 | .exit i,s,s',e,h=>by simp only[EO,BP,Bn]at h;obtain⟨rfl,rfl⟩:=h;exact Ok.exit ⟨rfl,rfl⟩
 | .ret,s,s',e,h=>by simp only[EO,BP,Bn]at h;obtain⟨rfl,rfl⟩:=h;exact Ok.ret ⟨rfl,rfl⟩
 | .rangeFunc ..,_,_,_,h=>by simp[EO]at h
 | .scope _,_,_,_,h=>by simp[EO]at h
 | .label _,_,_,_,h=>by simp[EO]at h
 | .goto _,_,_,_,h=>by simp[EO]at h
 | .refuse _,_,_,_,h=>by simp[EO]at h
def okR (tt:Nat->Option A7)(s:St):List ResultVar->Bool
 | []=>true
 | .tmp _::r=>okR tt s r
 | .cell a t::r=>K3 tt s.H (λ_=>s.env.get a) (.load t (.tmp 0))&&okR tt s r
theorem SG {tt:Nat->Option A7}{s:St}:∀ {rs:List ResultVar} {l:List D} {p:Prop},KR tt s rs=some (l,p)->okR tt s rs=true->p
 | [],_,_,h,_=>by simp only[KR,BP,Bn]at h;obtain⟨_,rfl⟩:=h;trivial
 |r::rs,l,p,h,hk=>by
  simp only[KR]at h;split at h<;>try(cases h;done)
  rename_i d q h1;split at h<;>try(cases h;done)
  rename_i l' q' h2;cases h;cases r with
  |tmp t=>
   simp only[N0,BP,Bn]at h1;obtain⟨_,rfl⟩:=h1;exact⟨trivial,SG h2 hk⟩
  |cell a t=>
   simp only[okR,BZ]at hk;simp only[N0]at h1;split at h1<;>try(cases h1;done)
   rename_i he;cases h1;exact⟨Vw he hk.1,SG h2 hk.2⟩
def Sp (tt:Nat->Option A7)(s:St)(rs:List ResultVar):Option (D×Hp×Nat):=match JL tt s rs with
 |some (d,_)=>Kj (okR tt s rs) (d,s.H,s.n)
 |none=>none
theorem Zh {tt:Nat->Option A7}{s:St}{rs:List ResultVar}{d:D}{H:Hp}{n:Nat}(h:Sp tt s rs=some (d,H,n)):∃p,JL tt s rs=some (d,p)/\p/\H=s.H/\n=s.n:=by
 unfold Sp at h;split at h<;>try(cases h;done)
 rename_i d' p hr;obtain⟨hb,he⟩:=MO h;cases he;refine⟨p,hr,?_,rfl,rfl⟩;unfold JL at hr;split at hr<;>try(cases hr;done)
 ·rename_i ha;cases hr;exact SG ha hb
 ·rename_i ha;cases hr;exact SG ha hb
def Sv (X:EV)(cl:JA)(cp:Ic)(lf f:Nat)(ds:List D)(H:Hp)(n:Nat):Option (D×Hp×Nat):=match X.ft f with
 |some i=>match Nat.ble ds.length i.nt with
  |true=>match EO X cl cp (lf+n*1048576) i.code ⟨Dj 0 ds,H,n⟩with
   |some (.normal,s)=>Sp X.tt s i.res
   |some (.ret,s)=>Sp X.tt s i.res
   |_=>none
  |false=>none
 |none=>none
def SH (X:EV)(cl:JA)(cp:Ic)(lf f:Nat)(ds:List D):Option D:=match X.orc f ds with
 |some d=>some d
 |none=>match X.np f with
  |true=>none
  |false=>match Ij (H7 20) ds with
   |true=>match Sv X cl cp lf f ds [] 0 with
    |some (d,H,_)=>Oo 20 H d
    |none=>none
   |false=>none
def Gr (X:EV)(lf:Nat):Nat->Ic×JA
 | 0=>(λ_ _=>none,λ_ _ _ _=>none)
 |fu+1=>(SH X (Gr X lf fu).2 (Gr X lf fu).1 lf,λf ds H n=>match SH X (Gr X lf fu).2 (Gr X lf fu).1 lf f ds with
  |some d=>some (d,H,n+1)
  |none=>match Sv X (Gr X lf fu).2 (Gr X lf fu).1 lf f ds H n with
   |some (d,H',n')=>W8 n d H' λH2=>some (d,H2,n')
   |none=>none)
theorem Zb (hX:Fk C X){lf f:Nat}{ds:List D}{H H':Hp}{n n':Nat}{d:D}(h:Sv X cl cp lf f ds H n=some (d,H',n')):
  ∃fn i e s p,X.ft f=some i/\C.P.funcs[f]?=some fn/\fn.body=some i.code/\(fn.name == "runtime.NumGoroutine")=false/\Di fn.ntmps i.code=true/\Nat.ble ds.length fn.ntmps=true /\
   (e=.normal\/e=.ret)/\EO X cl cp (lf+n*1048576) i.code ⟨Dj 0 ds,H,n⟩=some (e,s)/\JL X.tt s fn.results.toList=some (d,p)/\p/\H'=s.H/\n'=s.n:=by
 unfold Sv at h;split at h<;>try(cases h;done)
 rename_i i hi;obtain⟨fn,a1,a2,a3,a4,a5,a6⟩:=hX.ft f i hi;split at h<;>try(cases h;done)
 rename_i hb;split at h<;>try(cases h;done)
 ·rename_i s hc
  obtain⟨p,b1,b2,b3,b4⟩:=Zh h;exact⟨fn,i,.normal,s,p,hi,a1,a2,a3,a4,by rw[a5];exact hb,.inl rfl,hc,by rw[a6];exact b1,b2,b3,b4⟩
 ·rename_i s hc
  obtain⟨p,b1,b2,b3,b4⟩:=Zh h;exact⟨fn,i,.ret,s,p,hi,a1,a2,a3,a4,by rw[a5];exact hb,.inr rfl,hc,by rw[a6];exact b1,b2,b3,b4⟩
theorem Ye (hX:Fk C X)(hcl:Ni C cl)(hcp:Mb C cp){lf f:Nat}{ds:List D}{d:D}(h:SH X cl cp lf f ds=some d):AL C f ds d/\Ai ds:=by
 unfold SH at h;split at h
 ·rename_i ho;cases h;exact hX.orc _ _ _ ho
 ·split at h<;>try(cases h;done)
  split at h<;>try(cases h;done)
  rename_i hp;split at h<;>try(cases h;done)
  rename_i d0 H0 n0 hr;obtain⟨fn,i,e,s,p,_,a1,a2,a3,a4,a5,a6,a7,a8,a9,rfl,rfl⟩:=Zb hX hr;obtain⟨z1,z2⟩:=LY h;refine⟨Af.intro hX.tt a1 a2 a3 a4 a5 λF=>(Ix hX hcl hcp a7).mono ?_,⟨λx hx=>H5 (Jh hp x hx)⟩⟩;rintro _ _ ⟨rfl,rfl⟩;exact⟨a6,d0,p,a8,a9,d,z1,z2,rfl⟩
theorem CX.ofPure {f:Nat}{ds:List D}{d:D}{H:Hp}{n:Nat}(h:AL C f ds d)(hp:Ai ds):CX C f ds H n (TZ d H (n+1)):=by
 refine⟨h.1,λF ρ w vs m hfr hg hvs hr=>(h.2 (AN F.X ρ H) w vs m.g (BY m.gn m.size) (λb hb=>m.own_lt hb) hvs λi x hx=>hp.out x (Ax hx) _ _ _ _ _ (hr i x hx)).mono ?_⟩;rintro e w' ⟨v,d',rfl,hb,rfl,hrep⟩;have x:BX ρ (AN F.X ρ H) w ρ (AN F.X ρ H) w':=⟨hb.size,λ_ _ _ h=>h,λb hb' hO=>⟨hO,hb.block b hb'⟩,λb cs T fz hh=>⟨cs,_,by
  rw[hb.block b (DB.1 hh).1];exact hh,rfl⟩⟩
 exact⟨v,_,_,_,ρ,rfl,⟨rfl,rfl,rfl⟩,m.same x hb.os hb.tape hb.output hb.block,x,λk g hg=>hfr k g (by omega),λe he=>Dd (hg e he),hrep.nol⟩
theorem bV (hX:Fk C X)(lf:Nat):∀fu,Mb C (Gr X lf fu).1/\Ni C (Gr X lf fu).2
 | 0=>⟨λ_ _ _ h=>by simp[Gr]at h,λ_ _ _ _ _ _ _ h=>by simp[Gr]at h⟩
 |fu+1=>by
  obtain⟨hcp,hcl⟩:=bV hX lf fu;refine⟨λf ds d h=>Ye hX hcl hcp h,λf ds H n d H' n' h=>?_⟩;simp only[Gr]at h;split at h
  ·rename_i d0 hp
   cases h;obtain⟨h1,h2⟩:=Ye hX hcl hcp hp;exact .ofPure h1 h2
  ·split at h<;>try(cases h;done)
   rename_i d1 H1 n1 hrun;obtain⟨H2,hsub,hgc⟩:=xE (α:=Option (D×Hp×Nat)) n d1 H1 (λH2=>some (d1,H2,n1));rw[hgc]at h;cases h;refine CX.subH hsub ?_;obtain⟨fn,i,e,s,p,_,a1,a2,a3,a4,a5,a6,a7,a8,a9,rfl,rfl⟩:=Zb hX hrun;refine CX.intro hX.tt a1 a2 a3 a4 a5 λF _=>(Ix hX hcl hcp a7).mono ?_
   rintro _ _ ⟨rfl,rfl⟩;exact⟨a6,d,p,a8,a9,rfl,rfl,rfl⟩
theorem QP (hX:Fk C X)(lf fu:Nat){f:Nat}{ds:List D}{d:D}(h:(Gr X lf fu).1 f ds=some d):AL C f ds d:=((bV hX lf fu).1 f ds d h).1
end
end
inductive Bt (α:Type) where
 |nil
 |node (k:Nat) (v:α) (l r:Bt α)
def Bt.get {α:Type}:Bt α->Nat->Option α
 | .nil,_=>none
 | .node k v l r,t=>match Nat.beq t k with
  |true=>some v
  |false=>match Nat.ble t k with
   |true=>l.get t
   |false=>r.get t
def Bt.toL {α:Type}:Bt α->List (Nat×α)
 | .nil=>[]
 | .node k v l r=>(k,v)::(l.toL++r.toL)
theorem Bt.get_mem {α:Type}:∀ {b:Bt α} {t:Nat} {v:α},b.get t=some v->(t,v)∈b.toL
 | .nil,_,_,h=>by cases h
 | .node k v l r,t,u,h=>by
  simp only[Bt.get]at h;split at h
  ·rename_i hb;cases h;rw[CC hb];exact CF ..
  ·split at h
   ·exact CL _ (II _ (Bt.get_mem h))
   ·exact CL _ (List.mem_append_right _ (Bt.get_mem h))
theorem e0r {P:Program}{b:Bt A7}(h:b.toL.map (λp=>Ef P p.1)=b.toL.map (λp=>some p.2)):C5 P b.get:=λt i hi=>by
 have hm:=Bt.get_mem hi;obtain⟨j,hj,he⟩:=Od hm
 have:=congrArg (λl=>l[j]?) h
 simp only[Ay,Bs hj,he,J3,BP]at this;exact this
theorem e0s {P:Program}{b:Bt XI}(h:b.toL.map (λp=>Mu P p.1)=b.toL.map (λp=>some p.2)):M0 P b.get:=λt i hi=>by
 have hm:=Bt.get_mem hi;obtain⟨j,hj,he⟩:=Od hm
 have:=congrArg (λl=>l[j]?) h
 simp only[Ay,Bs hj,he,J3,BP]at this;exact this
def J5 (P:Program) (f:Nat) (i:FI):Prop:=∃fn,P.funcs[f]?=some fn/\fn.body=some i.code/\(fn.name == "runtime.NumGoroutine")=false/\Di fn.ntmps i.code=true/\fn.ntmps=i.nt/\fn.results.toList=i.res
def QC (P:Program):Bt FI->Prop
 | .nil=>True
 | .node k v l r=>J5 P k v/\QC P l/\QC P r
theorem W3 {P:Program}:∀ {b:Bt FI},QC P b->∀f i,b.get f=some i->J5 P f i
 | .nil,_,_,_,h=>by cases h
 | .node k v l r,h,f,i,hi=>by
  simp only[Bt.get]at hi;split at hi
  ·rename_i hb;cases hi;rw[CC hb];exact h.1
  ·split at hi
   ·exact W3 h.2.1 f i hi
   ·exact W3 h.2.2 f i hi
def Lp (f:Func):FI:=⟨f.ntmps,f.results.toList,f.body.getD .skip⟩
def fw (rd:Option Nat):Fence:={ Fence.wide with round:=rd }
theorem LG {rd:Option Nat}{n:Nat}{P:Program}{f:FuncId}{args:Array Value}{w:World}{R:Ending->World->Prop}:CallsIn (fw rd) n P f args w R↔Calls P f args w R:=
 (show CallsIn (fw rd) n P f args w R↔CallsIn Fence.wide n P f args w R from Iff.rfl).trans callsIn_wide
theorem MY {rd:Option Nat}{n:Nat}:(fw rd).depth.isSome=true->1<=n:=λh=>by cases h
theorem RH {P:Program}{ρ:Operand->Value}{o:Oper}{w w':World}{x:Next}(h:(execOp ρ o).run P w=.ok x w')(hx:∀d,x≠.defer d):∀c,o.op≠.defer c:=λc hc=>by
 unfold execOp at h;simp only[hc]at h;rw[run_bind]at h;split at h
 ·cases h;exact hx _ rfl
 ·cases h
section
variable {C:BA} {F:Ad} {ops:Array Oper} {rd:Option Nat} {Q:Exit->Act->World->Prop}
theorem O6 {P:Program}{o:Oper}{a:Act}{w w':World}{v:Value}{K:Act->World->Prop}(h:(execOp a.eval o).run P w=.ok (.value v) w')(hk:K (a.put o.dst v) w'):o.wpIn (fw rd) 0 P a w K Q:=by
 refine⟨λ_ _=>trivial,?_⟩;rw[Oper.semAt_eq _ _ _ (RH h (by simp)),h];exact hk
theorem lh {P:Program}{o:Oper}{a:Act}{w w':World}{K:Act->World->Prop}(h:(execOp a.eval o).run P w=.ok .skip w')(hk:K (a.put o.dst undef) w'):o.wpIn (fw rd) 0 P a w K Q:=by
 refine⟨λ_ _=>trivial,?_⟩;rw[Oper.semAt_eq _ _ _ (RH h (by simp)),h];exact hk
theorem lc {P:Program}{o:Oper}{a:Act}{w w':World}{f:Nat}{vs:Array Value}{K:Act->World->Prop}(h:(execOp a.eval o).run P w=.ok (.enter f vs) w')
  (hc:Calls P f vs w' λe w''=>∃v,e=.returned v/\K (a.put o.dst v) w''):o.wpIn (fw rd) 0 P a w K Q:=by
 refine⟨λ_ _=>trivial,?_⟩;rw[Oper.semAt_eq _ _ _ (RH h (by simp)),h];refine⟨MY,LG.2 (hc.mono ?_)⟩;rintro e w'' ⟨v,rfl,hk⟩;exact hk
theorem lg {P:Program}{o:Oper}{a:Act}{w w':World}{l f:Nat}{tmps:Array Value}{as bd:Code}{K:Act->World->Prop}(h:(execOp a.eval o).run P w=.ok (.round l f tmps as bd) w')
  (hc:RoundIn (fw rd) 0 P l f tmps as bd w' λe w''=>∃v,e=.returned v/\K (a.put o.dst v) w''):o.wpIn (fw rd) 0 P a w K Q:=by
 refine⟨λ_ _=>trivial,?_⟩;rw[Oper.semAt_eq _ _ _ (RH h (by simp)),h];refine⟨MY,hc.mono ?_⟩;rintro e w'' ⟨v,rfl,hk⟩;exact hk
theorem GN {R:Exit->Act->World->Prop}{l2:List Nat}(hR:∀e a w,R e a w->e=.normal/\wpOpsIn (fw rd) 0 C.P ops Q l2 a w)(hnd:∀(i:Nat) (o:Oper),ops[i]?=some o->∀c,o.op≠.defer c):
  ∀(l:List Nat) (a:Act) (w:World),wpOps C.P ops R l a w->wpOpsIn (fw rd) 0 C.P ops Q (l++l2) a w
 | [],a,w,h=>(hR _ _ _ h).2
 |i::l,a,w,h=>by
  have hlet:¬LetsOut R:=λ⟨a,w,h⟩=>by have:=(hR _ _ _ h).1;cases this
  simp only[wpOps]at h;simp only[EU,wpOpsIn];cases ho:ops[i]? with
  |none=>simp only[ho]at h;exact GN hR hnd l a w h
  |some o=>
   simp only[ho]at h;dsimp only;split
   ·rename_i hw
    rw[AI hw]at h;rcases h with h|⟨_,h⟩
    ·unfold Oper.wp at h
     refine⟨λ_ _=>trivial,?_⟩;rw[Oper.semAt_eq _ _ _ (hnd i o ho)]
     revert h
     generalize(execOp a.eval o).run C.P w=r;intro h;unfold Oper.upon at h;unfold Oper.uponIn;split at h
     ·exact GN hR hnd l _ _ h
     ·exact GN hR hnd l _ _ h
     ·exact GN hR hnd l _ _ h
     ·refine⟨MY,LG.2 (h.mono ?_)⟩
      intro e w'' h;cases e with
      |returned v=>exact GN hR hnd l _ _ h
      |panicked c=>have:=(hR _ _ _ h).1;cases this
      |outgrown=>exact Ak h hlet
     ·exact⟨MY,λc cs hr=>by
       obtain⟨v,w',h1,h2⟩:=h c cs;exact⟨v,w',GN hR hnd l _ _ h1,stepsIn_wide.2 h2⟩⟩
     ·have:=(hR _ _ _ h).1;cases this
     ·exact h.elim
    ·exact Ak h hlet
   ·rename_i hw
    rw[AH hw]at h;exact⟨λ_ _=>trivial,GN hR hnd l _ _ h⟩
theorem To {Q:Exit->Act->World->Prop}:∀(l:List Nat) (fuel:Nat) (L:Array Bool) (a:Act) (w:World),L.size=ops.size->l.length<=fuel->(∀i,i<ops.size->(Ls L i↔i∉l))->l.Nodup ->
  (∀A i B,l=A++i::B->(∀j∈G1 ops i,j<ops.size/\j∉i::B)/\∀j∈A,Dw ops i j)->(∀i∈l,i<ops.size)->Cl ops L ->
  wpOpsIn (fw rd) 0 C.P ops Q l a w->wpAnyIn (fw rd) 0 C.P .any ops Q fuel L a w
 | [],fuel,L,a,w,hs,_,hl,_,_,_,_,h=>by
  have hr:Region.ready .any ops L=[]:=by
   apply List.eq_nil_iff_forall_not_mem.2;intro i hi;obtain⟨h1,h2,_⟩:=FM.1 hi
   have:=(hl i h1).2 (by simp)
   unfold Ls at this;rw[Av,HQ]at this h2;simp at this h2;rw[this]at h2;cases h2
  cases fuel with
  |zero=>exact⟨hr,h⟩
  |succ fuel=>exact⟨λ_=>h,λi hi=>by rw[hr]at hi;simp at hi⟩
 |i::l,0,_,_,_,_,hf,_,_,_,_,_,_=>by simp at hf
 |i::l,fuel+1,L,a,w,hs,hf,hl,hnd,hd,hlt,hcl,h=>by
  have hil:=hlt i (by simp);have hLi:∀j,j<ops.size->(L.getD j true=true↔Ls L j):=λj hj=>by
   unfold Ls;rw[Av,Av,HQ];simp
  have hready:∀j,j∈Region.ready .any ops L↔j=i:=by
   intro j;rw[FM];constructor
   ·rintro⟨h1,h2,h3⟩
    have hj:j∈i::l:=by
     apply DH;intro hn
     have:=(hLi j h1).2 ((hl j h1).2 hn)
     rw[h2]at this;cases this
    apply DH;intro hne;have hjl:j∈l:=by simpa[hne]using hj
    obtain⟨A,B,rfl⟩:=EW hjl;have hreach:=(hd (i::A) j B (by simp)).2 i (by simp)
    have:=Fw hs hcl hreach h3
    exact Ak ((hl i hil).1 this) (by simp)
   ·rintro rfl
    refine⟨hil,?_,λk hk=>?_⟩
    ·cases hb:L.getD j true with
     |false=>rfl
     |true=>exact Ak ((hl j hil).1 ((hLi j hil).1 hb)) (by simp)
    ·have hk2:=(hd [] j l rfl).1 k hk
     exact(hl k hk2.1).2 hk2.2
  have hset:∀j,Ls (L.setIfInBounds i true) j↔j=i\/Ls L j:=λj=>Ls.set (by omega)
  refine⟨λh0=>?_,λj hj=>?_⟩
  ·have:=(hready i).2 rfl
   rw[h0]at this;simp at this
  ·obtain rfl:=(hready j).1 hj
   rw[wpOpsIn_cons]at h;obtain⟨n1,n2⟩:=List.nodup_cons.1 hnd;refine wpOpIn_mono (λa w hk=>?_) h;refine To l fuel _ a w (by simp[hs]) (by simp at hf;omega) (λk hk2=>?_) n2 (λA k B hAB=>?_) (λk hk2=>hlt k (by simp[hk2])) ?_ hk
   ·rw[hset,hl k hk2]
    by_cases hkj:k=j
    ·subst hkj;simp[n1]
    ·simp[hkj]
   ·obtain⟨q1,q2⟩:=hd (j::A) k B (by simp[hAB])
    exact⟨q1,λx hx=>q2 x (by simp[hx])⟩
   ·intro k hk2 hks x hx
    have hk3:Ls (L.setIfInBounds j true) k:=by
     unfold Ls;rw[Av,B3 (by simp;omega)]at hk2⊢;simpa using hk2
    show Ls _ x;rw[hset];rcases(hset k).1 hk3 with rfl|hk3
    ·exact .inr ((FM.1 hj).2.2 x hx)
    ·exact .inr (hcl k ((hLi k hks).2 hk3) hks x hx)
theorem kG {Q:Exit->Act->World->Prop}{H:Hp}{n:Nat}{env:Ap}{rs:List B8}{suf:List Nat}(ho:Mq ops rs suf)(hgen:∀e∈H,e.g<n)(hd:∀r∈rs,DY F.nt r.o=true)
  (hst:∀A r B,rs=A++r::B->ops[r.i]?=some r.o/\B9 C F ops H (n+r.i) (Ez A env) r.o r.d r.ne)
  (hend:∀(L:Array Bool) (a:Act) (w:World) (ρ:Lk) (He:Hp),L.size=ops.size->(∀r∈rs,Ls L r.i)->DI C F H n env rs L a w ρ He->wpOpsIn (fw rd) 0 C.P ops Q suf a w):
  ∀(fuel:Nat) (L:Array Bool) (a:Act) (w:World) (ρ:Lk) (He:Hp),L.size=ops.size->((rs.map (·.i)++suf).filter (λi=>!L.getD i false)).length<=fuel->Cl ops L->(∀i∈suf,¬Ls L i) ->
   DI C F H n env rs L a w ρ He->wpAnyIn (fw rd) 0 C.P .any ops Q fuel L a w:=by
 intro fuel
 induction fuel with
 |zero=>
  intro L a w ρ He hL hf hc hs hi;have h0:(rs.map (·.i)++suf).filter (λi=>!L.getD i false)=[]:=FB (by omega);have hall:∀r∈rs,Ls L r.i:=λr hr=>by
   have:=List.filter_eq_nil_iff.1 h0 r.i (by simp;exact .inl ⟨r,hr,rfl⟩)
   simpa[Ls]using this
  have hsuf:suf=[]:=by
   apply List.eq_nil_iff_forall_not_mem.2;intro i hi2
   have:=List.filter_eq_nil_iff.1 h0 i (by simp[hi2])
   exact hs i hi2 (by simpa[Ls]using this)
  subst hsuf;refine To [] 0 L a w hL (Ar _) (λi hi2=>⟨λ_=>by simp,λ_=>?_⟩) .nil (λA i B h=>by cases A<;>simp at h) (by simp) hc (hend L a w ρ He hL hall hi)
  have:=ho.all i hi2
  simp at this;obtain⟨r,hr,rfl⟩:=this;exact hall r hr
 |succ fuel ih=>
  intro L a w ρ He hL hf hc hs hi
  by_cases hall:∀r∈rs,Ls L r.i
  ·refine To suf (fuel+1) L a w hL ?_ (λi hi2=>?_) ?_ (λA i B hAB=>⟨λj hj=>?_,λj hj=>ho.suf A i B hAB j (by simp[hj])⟩) (λi hi2=>ho.lt i (by simp[hi2])) hc (hend L a w ρ He hL hall hi)
   ·refine BY ?_ hf
    rw[List.filter_append,Be];rw[(List.filter_eq_self (l:=suf)).2 λi hi2=>by have:=hs i hi2;unfold Ls at this;simpa using this];omega
   ·constructor
    ·intro h1 h2;exact hs i h2 h1
    ·intro h1
     have:=ho.all i hi2
     rcases Bp.1 this with h|h
     ·obtain⟨r,hr,rfl⟩:=Bx.1 h;exact hall r hr
     ·exact Ak h h1
   ·exact(EM.1 ho.nodup).2.1
   ·have hA:=ho.first (rs.map (·.i)++A) i B (by simp[hAB]) j hj
    refine⟨ho.lt j (by rw[hAB];rcases Bp.1 hA with h|h<;>simp[h]),λhB=>?_⟩;have hnd:=ho.nodup;rw[hAB,<-Du,EM]at hnd;exact hnd.2.2 j hA j hB rfl
  ·have hnot:∃r∈rs,¬Ls L r.i:=by
    apply DH;intro hn;exact hall λr hr=>DH λh=>hn ⟨r,hr,h⟩
   have hLt:∀j,j<ops.size->(L.getD j true=true↔Ls L j):=λj hj=>by
    unfold Ls;rw[Av,Av,HQ];simp
   have hsome:Region.ready .any ops L≠[]:=by
    obtain⟨r0,hr0,hn0⟩:=hnot
    have:∀X:List B8,∀Y,rs=X++Y->(∃r∈Y,¬Ls L r.i)->(∀r∈X,Ls L r.i)->∃A r B,rs=A++r::B/\¬Ls L r.i/\∀r∈A,Ls L r.i:=by
     intro X Y
     induction Y generalizing X with
     |nil=>rintro _ ⟨r,hr,_⟩ _;simp at hr
     |cons y Y ihY=>
      intro hXY hex hX
      by_cases hy:Ls L y.i
      ·obtain⟨r,hr,hrn⟩:=hex
       rcases A8.1 hr with rfl|hr
       ·exact Ak hy hrn
       ·exact ihY (X++[y]) (by simp[hXY]) ⟨r,hr,hrn⟩ (λr hr=>by
         rcases Bp.1 hr with h|h
         ·exact hX r h
         ·simp at h;subst h;exact hy)
      ·exact⟨X,y,Y,hXY,hy,hX⟩
    obtain⟨A,r,B,h1,h2,h3⟩:=this [] rs rfl ⟨r0,hr0,hn0⟩ (by simp);intro hnil;have hrlt:=ho.lt r.i (by rw[h1];simp)
    have:r.i∈Region.ready .any ops L:=by
     rw[FM];refine⟨hrlt,?_,λj hj=>?_⟩
     ·cases hb:L.getD r.i true with
      |false=>rfl
      |true=>exact Ak ((hLt r.i hrlt).1 hb) h2
     ·have:=ho.first (A.map (·.i)) r.i (B.map (·.i)++suf) (by rw[h1];simp) j hj
      obtain⟨r',hr',rfl⟩:=Bx.1 this;exact h3 r' hr'
    rw[hnil]at this;simp at this
   refine⟨λh0=>Ak h0 hsome,λi hir=>?_⟩;obtain⟨hilt,hin,hid⟩:=FM.1 hir;have hnL:¬Ls L i:=λh=>by rw[(hLt i hilt).2 h]at hin;cases hin
   have hpre:i∈rs.map (·.i):=by
    rcases Bp.1 (ho.all i hilt)with h|h
    ·exact h
    ·obtain⟨A,B,hAB⟩:=EW h
     obtain⟨r0,hr0,hn0⟩:=hnot
     have:=Fw hL hc (ho.suf A i B hAB r0.i (II _ (Bx.2 ⟨r0,hr0,rfl⟩))) hid
     exact Ak this hn0
   obtain⟨r,hr,rfl⟩:=Bx.1 hpre;obtain⟨A,B,hAB⟩:=EW hr;obtain⟨hor,hgen2,hsteady⟩:=hst A r B hAB;have hset:∀j,Ls (L.setIfInBounds r.i true) j↔j=r.i\/Ls L j:=λj=>Ls.set (by omega)
   have hndr:(rs.map (·.i)).Nodup:=(EM.1 ho.nodup).1;have hsub:∀e∈H,e∈He:=λe he=>hi.perm.mem_iff.2 (by simp[he])
   have hfr:∀k,ρ k (n+r.i)=none:=λk=>by
    apply DH;intro hk;obtain⟨r',h1,h2,h3⟩:=hi.fresh k (n+r.i) (by omega) hk
    have:r'.i=r.i:=by omega
    rw[this]at h2;exact hnL h2
   have hne:∀e∈He,e.g≠n+r.i:=λe he hg=>by
    rcases Bp.1 (hi.perm.mem_iff.1 he)with h|h
    ·obtain⟨r',h1,h2⟩:=List.mem_filterMap.1 h
     split at h2
     ·rename_i hl
      obtain⟨A',B',hAB'⟩:=EW h1
      have:=(hst A' r' B' hAB').2.1 e h2
      have:r'.i=r.i:=by omega
      rw[this]at hl;exact hnL hl
     ·cases h2
    ·have:=hgen e h;omega
   have next:∀v ρ' w',Jq C F He ρ w (n+r.i) r.d r.ne v ρ' w'->wpAnyIn (fw rd) 0 C.P .any ops Q fuel (L.setIfInBounds r.i true) (a.put r.o.dst v) w':=by
    intro v ρ' w' p;have hi':=hi;rw[hAB]at hi' hndr;have hdst:=ho.dst;rw[hAB]at hdst;have hn':=DI.next hi' (by omega) hnL hndr hdst (hd r hr) p;rw[<-hAB]at hn';refine ih _ _ _ ρ' (DF r.ne He) (by simp[hL]) ?_ ?_ (λj hj=>?_) hn'
    ·have:((rs.map (·.i)++suf).filter (λi=>!(L.setIfInBounds r.i true).getD i false)).length<((rs.map (·.i)++suf).filter (λi=>!L.getD i false)).length:=by
      have sub:(rs.map (·.i)++suf).filter (λi=>!(L.setIfInBounds r.i true).getD i false)=((rs.map (·.i)++suf).filter (λi=>!L.getD i false)).filter (λi=>!Nat.beq i r.i):=by
       rw[List.filter_filter];apply List.filter_congr;intro x hx;have h1:=hset x;unfold Ls at h1
       by_cases hxr:x=r.i
       ·subst hxr
        have:(L.setIfInBounds r.i true).getD r.i false=true:=h1.2 (.inl rfl)
        simp[this]
       ·have hb:Nat.beq x r.i=false:=by
         cases hb:Nat.beq x r.i with
         |false=>rfl
         |true=>exact Ak (CC hb) hxr
        rw[hb]
        by_cases hlx:L.getD x false=true
        ·rw[h1.2 (.inr hlx),hlx];rfl
        ·have:¬(L.setIfInBounds r.i true).getD x false=true:=λh=>hlx ((h1.1 h).resolve_left hxr)
         simp only[Bool.not_eq_true]at this hlx;rw[this,hlx];rfl
      rw[sub];apply List.length_filter_lt_length_iff_exists.2;exact⟨r.i,by rw[List.mem_filter];exact⟨by simp;exact .inl ⟨r,hr,rfl⟩,by unfold Ls at hnL;simpa using hnL⟩,by simp⟩
     omega
    ·intro k hk2 hks x hx
     have hk3:Ls (L.setIfInBounds r.i true) k:=by
      unfold Ls;rw[Av,B3 (by simp;omega)]at hk2⊢;simpa using hk2
     show Ls _ x;rw[hset];rcases(hset k).1 hk3 with rfl|hk3
     ·exact .inr (hid x hx)
     ·exact .inr (hc k ((hLt k hks).2 hk3) hks x hx)
    ·rw[hset]
     rintro(rfl|h)
     ·have hnd:=ho.nodup
      rw[EM]at hnd;exact hnd.2.2 r.i (Bx.2 ⟨r,hr,rfl⟩) r.i hj rfl
     ·exact hs j hj h
   unfold wpOpIn;simp only[hor];rcases hsteady He ρ a w hi.mem hsub hfr hne (hi.look ho hL hc hAB hir)with⟨hw,hn0,hrep⟩|⟨hw,hout⟩
   ·rw[AH (by rw[hw];simp)]
    exact⟨λ_ _=>trivial,next undef ρ w ⟨by rw[hn0];exact hi.mem,by rw[hn0];exact .refl _ _ _,λ_ _ _=>rfl,by rw[hn0];exact hrep⟩⟩
   ·rw[AI hw]
    rcases hout with⟨v,ρ',w',h1,h2⟩|⟨f,vs,h1,h2⟩
    ·exact O6 h1 (next v ρ' w' h2)
    ·refine lc h1 (h2.mono ?_)
     rintro e w' ⟨v,rfl,ρ',h3⟩;exact⟨v,rfl,next v ρ' w' h3⟩
theorem zF {R:Exit->Act->World->Prop}{i:Nat}{s:St}{pre suf:List Nat}{envF:Ap}{N:Hp}(hm:C.P.follows .mixedOrders=true)(hc:HZ ops pre suf=true)
  (hpre:JX C F ops s.H s.n pre s.env [] envF N)
  (h:(∀j∈suf,j<ops.size)->∀(ρ:Lk) (a:Act) (w:World),Br C F ρ ⟨envF,N++s.H,s.n+ops.size⟩ a w->wpOpsIn (fw rd) 0 C.P ops R suf a w) (hd:ops.toList.all (DY F.nt)=true) (ρ:Lk) (a:Act) (w:World) (hs:Br C F ρ s a w):
  (Code.region i ops true).wpIn (fw rd) 0 C.P R a w:=by
 obtain⟨rs,h1,h2,h3,h4⟩:=hpre.recs;have hor:∀r∈rs,ops[r.i]?=some r.o:=λr hr=>by
  obtain⟨A,B,hAB⟩:=EW hr;exact(h4 A r B hAB).1
 have ho:=RR h1 hor hc;have hds:∀r∈rs,DY F.nt r.o=true:=λr hr=>by
  refine CW.1 hd r.o ?_
  have:=hor r hr
  exact IH.2 (Io this)
 have hrep:∀j,(Array.replicate ops.size false).getD j false=false:=λj=>by
  rw[Av];rw[L0];split<;>rfl
 have hnL:∀j,¬Ls (Array.replicate ops.size false) j:=λj hj=>by unfold Ls at hj;rw[hrep]at hj;cases hj
 refine wpIn_region_any hm ?_;have hin:DI C F s.H s.n s.env rs (Array.replicate ops.size false) a w.drew ρ s.H:=by
  refine⟨hs.mem.drew,?_,λr _ hl=>Ak hl (hnL _),λt _=>(hs.env t).mono (.drew _ _ _),λk g hg hk=>Ak (hs.fresh k g hg) hk,hs.nt,hs.dfr⟩
  have:rs.filterMap (λr=>if(Array.replicate ops.size false).getD r.i false then r.ne else none)=[]:=by
   rw[TO];intro r _;rw[hrep];rfl
  rw[this];exact List.Perm.refl _
 refine kG ho hs.gen hds h4 ?_ ops.size _ a w.drew ρ s.H (by simp) ?_ ?_ (λj _=>hnL j) hin
 ·intro L a' w' ρ' He hL hall hi
  have hN:He.Perm (N++s.H):=by
   refine hi.perm.trans (List.Perm.append_right _ ?_);have e:rs.filterMap (λr=>if L.getD r.i false then r.ne else none)=rs.filterMap (·.ne):=KE λr hr=>by
    have:=hall r hr;unfold Ls at this;rw[this];rfl
   rw[e,h3]
   have:=MH rs []
   rw[De]at this;exact this.symm
  refine h (λj hj=>ho.lt j (by simp[hj])) ρ' a' w' ⟨hi.mem.perm hN,?_,?_,λt=>?_,hi.nt,hi.dfr⟩
  ·intro k g hg
   apply DH;intro hk;obtain⟨r,hr,_,he⟩:=hi.fresh k g (by simp at hg;omega) hk
   have:=ho.lt r.i (by simp;exact .inl ⟨r,hr,rfl⟩)
   simp at hg;omega
  ·intro e he
   rcases Bp.1 he with he|he
   ·rw[h3]at he
    have he:=(MH rs []).mem_iff.1 he;rw[De]at he;obtain⟨r,hr,hre⟩:=List.mem_filterMap.1 he;obtain⟨A,B,hAB⟩:=EW hr
    have:=(h4 A r B hAB).2.1 e hre
    have:=ho.lt r.i (by simp;exact .inl ⟨r,hr,rfl⟩)
    show e.g<s.n+ops.size;omega
   ·have:=hs.gen e he
    show e.g<s.n+ops.size;omega
  ·show AW ρ' (AN F.X ρ' (N++s.H)) w' (envF.get t) _
   rw[<-AN.perm hN,h2]
   by_cases hw:∃r∈rs,r.o.dst=some t
   ·obtain⟨r,hr,hrd⟩:=hw
    rw[MX rs s.env t ho.dst r hr hrd];exact hi.reps r hr (hall r hr) t hrd
   ·rw[Jb rs s.env t λr hr hrd=>hw ⟨r,hr,hrd⟩]
    exact hi.old t λr hr _ hrd=>hw ⟨r,hr,hrd⟩
 ·refine BY (List.length_filter_le _ _) ?_
  have hsub:∀(l:List Nat) (n:Nat),l.Nodup->(∀x∈l,x<n)->l.length<=n:=by
   intro l n
   induction n generalizing l with
   |zero=>intro _ h;cases l with
    |nil=>simp
    |cons x l=>exact Ak (h x (by simp)) (by omega)
   |succ n ihn=>
    intro hnd hlt;have h1:=ihn (l.erase n) (hnd.erase n) λx hx=>by
     have:=hlt x (List.mem_of_mem_erase hx)
     have:x≠n:=λh=>by subst h;exact(TQ hnd) hx
     omega
    have:=List.length_erase (a:=n) (l:=l)
    split at this<;>omega
  exact hsub _ _ ho.nodup ho.lt
 ·intro k hk
  have:k<ops.size\/¬k<ops.size:=by omega
  rcases this with hlt|hlt
  ·rw[Av,L0,AI hlt]at hk;cases hk
  ·intro h;exact Ak h hlt
theorem KI {R Q:Exit->Act->World->Prop}(hR:∀e a w,R e a w->e=.normal/\Q .normal a w)(hnd:∀(i:Nat) (o:Oper),ops[i]?=some o->∀c,o.op≠.defer c):
  ∀(fuel:Nat) (L:Array Bool) (a:Act) (w:World),wpAny C.P .any ops R fuel L a w->wpAnyIn (fw rd) 0 C.P .any ops Q fuel L a w
 | 0,L,a,w,h=>⟨h.1,(hR _ _ _ h.2).2⟩
 |fuel+1,L,a,w,h=>⟨λh0=>(hR _ _ _ (h.1 h0)).2,λi hi=>by
   have hlet:¬LetsOut R:=λ⟨a,w,h⟩=>by have:=(hR _ _ _ h).1;cases this
   have hq:=h.2 i hi;unfold wpOp at hq;unfold wpOpIn;split
   ·rename_i ho;simp only[ho]at hq;exact KI hR hnd fuel _ a w hq
   ·rename_i o ho
    simp only[ho]at hq;split
    ·rename_i hw
     rw[AI hw]at hq;rcases hq with hq|⟨_,hq⟩
     ·unfold Oper.wp at hq
      refine⟨λ_ _=>trivial,?_⟩;rw[Oper.semAt_eq _ _ _ (hnd i o ho)]
      revert hq
      generalize(execOp a.eval o).run C.P w=r;intro hq;unfold Oper.upon at hq;unfold Oper.uponIn;split at hq
      ·exact KI hR hnd fuel _ _ _ hq
      ·exact KI hR hnd fuel _ _ _ hq
      ·exact KI hR hnd fuel _ _ _ hq
      ·refine⟨MY,LG.2 (hq.mono ?_)⟩
       intro e w'' h;cases e with
       |returned v=>exact KI hR hnd fuel _ _ _ h
       |panicked c=>have:=(hR _ _ _ h).1;cases this
       |outgrown=>exact Ak h hlet
      ·exact⟨MY,λc cs hr=>by
        obtain⟨v,w',h1,h2⟩:=hq c cs;exact⟨v,w',KI hR hnd fuel _ _ _ h1,stepsIn_wide.2 h2⟩⟩
      ·have:=(hR _ _ _ hq).1;cases this
      ·exact hq.elim
     ·exact Ak hq hlet
    ·rename_i hw
     rw[AH hw]at hq;exact⟨λ_ _=>trivial,KI hR hnd fuel _ _ _ hq⟩⟩
end
end Go.Ide
